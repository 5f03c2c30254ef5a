import PyProof.Rows.All
import Wide.All
import OpenK.AllK
import Wide.FinOn
import HandS.ForMost
import HandS.ForExc
import HandS.Walk
import HandS.IsInst
import HandS.Wide
import HandS.Star
import HandS.CallSlots
import HandS.EndBits
import HandS.Style
import HandS.Deep
import HandS.TupAny
import KE.KSuper
import KE.KExcSuper
import KE.KExcInit
import KE.KExcPX
import HandS.ExcOwn
import HandS.Exc
import PyProof.ExcBaseAll.ValueError
import PyProof.ExcBaseAll.OverflowError
import PyProof.ExcBaseAll.RuntimeError
import PyProof.InstStoreFacts
import HandS.RaiseMore
import OpenK.KOps
import OpenK.KMeth
import HandS.SetBool
import HandS.SetTxt0
import PyProof.Rows.SortShellAny
import HandS.ExcField
import HandS.ExcIs
import HandS.Dict
import HandS.DictComp
import HandS.FStr
import HandS.MakeKw
import KE.KCallOwn
import PyProof.ExcBaseAll.LookupError
import KE.GoesComp
import PySem.Challenge.RW_standinparts_k06_lists_refused
set_option Elab.async false
set_option linter.all false
set_option maxRecDepth 100000
set_option maxHeartbeats 4000000
namespace Mir
open PySem PySem.Spec PyProof.Rows L2
/-! ## room for calls, where nothing is being shown (repr): the promise of a def under it -/
structure Room (k : Nat) (A : Around) : Prop where
  rm : L2.Room k A
  gd : A.guards = some []
section
variable {j k : Nat} {A : Around}
theorem Room.hd (r : Room k A) : A.handled = none := r.rm.hd
theorem Room.dp (r : Room k A) : A.depth + 3 * k + 5 < recursionLimit := r.rm.dp
theorem Room.un (r : Room k A) : A.units + 16 * k + 200 < cLine := r.rm.un
theorem Room.mono (r : Room k A) (h : j ≤ k) : Room j A := ⟨r.rm.mono h, r.gd⟩
theorem Room.deeper (r : Room (k + 1) A) (env : PySem.Env) : Room k (A.deeper env) := ⟨r.rm.deeper env, r.gd⟩
theorem Room.in1 (r : Room (k + 1) A) : Room k A.in1 := ⟨r.rm.in1, r.gd⟩
theorem Room.depth (r : Room k A) : A.depth < recursionLimit := r.rm.depth
theorem Room.units (r : Room k A) : A.units + 64 < cLine := r.rm.units
theorem Room.units0 (r : Room k A) : A.units < cLine := r.rm.units0
theorem Room.make (r : Room (k + 1) A) (C : Addr) (us : List Value) (kw : List (Str × Value)) : Room k (A.under (.builtin "type.__call__" ⟨.ref C :: us, kw⟩)) := by
  refine ⟨r.rm.make C us kw, ?_⟩
  have h : (Code.builtin "type.__call__" ⟨.ref C :: us, kw⟩).guards = [] := by
    unfold Code.guards
    rw [if_neg]
    show ¬ (guardIds.contains "type.__call__" = true)
    decide +kernel
  unfold Around.under
  rw [h, r.gd]
  rfl
end
structure FnOk (P : Program) (w : World) (K : PySem.W.Frag) (mg : Str → Option Value) (base : Heap) (CX : CXT) (k : Nat) (f : Addr) (fd : FuncData) (ps : List Str) (sp : Sp) : Prop where
  len : ∀ vs H Q E, sp vs H Q E → vs.length = ps.length
  run : ∀ (A : Around) (outer : List PySem.Env) (s : Shared) (H : Hp) (args : Args) (us : List Value) (vs : List V) (Q : VK) (E : XK), Room k A → Env0 P w K mg base A outer s H → BindsTo s fd args (ps.zip us) → Vals vs us → sp vs H Q E →
    codeAny (model P w) A (.call (.ref f) args) (CR CX outer P w H s Q E) s
/-- a def of the text as it stands behind the top, whatever its defaults -/
structure Fun (K : PySem.W.Frag) (x qual : Str) (st : Stmt) (f : Addr) (fd : FuncData) : Prop where
  ex : ∃ (oc : Value) (od an : Option Addr) (dV kV doc pm cdv ct : Value) (osl : Array (Option Value)),
    fd = PySem.W.fnOf x qual (defArgs st) (defBody st) (defScope st) dV kV doc pm an cdv ct ∧ K.lookup f = some ⟨oc, od, .func fd, osl⟩ ∧ PySem.W.codeIn K cdv qual = true
  kp : PySem.W.keepIn K (.ref f) = true
theorem fun_mk {K : PySem.W.Frag} {x qual : Str} {st : Stmt} {f : Addr} {oc : Value} {od an : Option Addr} {osl : Array (Option Value)} {dV kV doc pm cdv ct : Value} (l : K.lookup f = some ⟨oc, od, .func (PySem.W.fnOf x qual (defArgs st) (defBody st) (defScope st) dV kV doc pm an cdv ct), osl⟩)
    (c : PySem.W.codeIn K cdv qual = true) (k : PySem.W.keepIn K (.ref f) = true) : Fun K x qual st f (PySem.W.fnOf x qual (defArgs st) (defBody st) (defScope st) dV kV doc pm an cdv ct) := ⟨⟨oc, od, an, dV, kV, doc, pm, cdv, ct, osl, rfl, l, c⟩, k⟩
section
variable {P : Program} {w : World} {K : PySem.W.Frag} {mg : Str → Option Value} {base : Heap}
theorem Fun.okX {x qual : Str} {st : Stmt} {f : Addr} {fd : FuncData} {N ps : List Str} {k : Nat} {sp : Sp} (F : Fun K x qual st f fd) (S : FnScope N ps (defScope st)) (len : ∀ vs H Q E, sp vs H Q E → vs.length = ps.length)
    (hbody : ∀ (cdv : Value) (A : Around) (outer : List PySem.Env) (s : Shared) (H : Hp) (vs : List V) (Q : VK) (E : XK), Room k (A.deeper (envOfC qual (defScope st) s.heap.objs.size f cdv)) → sp vs H Q E →
      ∃ t, PSs (cxOf (L2.CX P w) P w K mg base N qual (defScope st) f cdv A outer s H E) (defBody st) t ∧ t { nx := fun _ H' => Q .non H', rt := Q } (start N vs) H) : FnOk P w K mg base (L2.CX P w) (k + 1) f fd ps sp := by
  obtain ⟨oc, od, an, dV, kV, doc, pm, cdv, ct, osl, rfl, lk, hcd⟩ := F.ex
  constructor
  · exact len
  intro A outer s H args us vs Q E hr e0 hb r hsp
  have many := len _ _ _ _ hsp
  have kin : K.In s.heap := e0.mod.kin.keeps fun b o e => (e0.bs b o e).1
  have nol : s.heap.NoLimit := e0.mod.nolimit.keeps fun b o e => (e0.bs b o e).1
  have kinds : ∀ y ∈ ps.zip us, (defScope st).names.lookup y.1 = some .local ∨ ((defScope st).names.lookup y.1 = some .cell ∧ ((cellsFrom (s.heap.objs.size + 1) (defScope st).names []).lookup y.1).isSome = true) := by
    rintro ⟨n, v⟩ hy
    exact (S.par n (List.of_mem_zip hy).1).elim .inl fun q => .inr ⟨q, PySem.W.cellsFrom_some _ _ _ (.inl q)⟩
  refine codeAny_call_function hr.depth (kin _ _ lk) rfl S.co S.gen rfl (PySem.W.codeRec_of kin hcd) (hb _ _ _ _ (wpAny_newFunctionEnv_cells S.kind kinds fun env he s1 x => ?_))
  subst he
  refine ⟨nol.keeps x.toInCall.keep, codeAny_func ?_⟩
  obtain ⟨t, ht, hq⟩ := hbody cdv A outer s H vs Q E (hr.deeper _) hsp
  have inv : L2.Inv (cxOf (L2.CX P w) P w K mg base N qual (defScope st) f cdv A outer s H E) [] (start N vs) H s1 := inv_start S hr.hd e0 many r x
  refine wpAny_mono (ht.run [] s1 (start N vs) H _ inv hq) (fun fl s' hs => ?_) fun e s' hs => hs
  cases fl with
  | ret u =>
    obtain ⟨v, σ', H', J, rv, q⟩ := hs
    exact ⟨v, H', J.os, J.bare, J.base, J.hok, rv, q⟩
  | next =>
    obtain ⟨σ', H', J, q⟩ := hs
    exact ⟨.non, H', J.os, J.bare, J.base, J.hok, rfl, q⟩
  | brk => exact hs.elim fun _ h => h.elim fun _ h => False.elim h.2
  | cont => exact hs.elim fun _ h => h.elim fun _ h => False.elim h.2
theorem Fun.binds {x qual : Str} {st : Stmt} {f : Addr} {fd : FuncData} {ps : List Str} (F : Fun K x qual st f fd)
    (h : ∀ (dV kV doc pm : Value) (an : Option Addr) (cdv ct : Value) (us : List Value), us.length = ps.length → bindArgs (PySem.W.fnOf x qual (defArgs st) (defBody st) (defScope st) dV kV doc pm an cdv ct) ⟨us, []⟩ = pure (ps.zip us)) : Binds K fd ps [] := by
  obtain ⟨oc, od, an, dV, kV, doc, pm, cdv, ct, osl, rfl, lk, hcd⟩ := F.ex
  exact .all (h dV kV doc pm an cdv ct)
end
section
variable {X : Cx} {CX : CXT} {k : Nat} {f : Addr} {fd : FuncData} {ps : List Str} {sp : Sp} {dvs : List V} {ds : List Value} {E : L2.St → XK} {x : Str} {p pos : Pos} {e : Expr} {es : List Expr} {t : TA}
theorem run_fnSD {pins : List (Addr × Obj)} {σ : L2.St} {H : Hp} {s : Shared} {Q : VK} {us : List Value} {vs : List V} (F : FnOk X.prog X.w X.K X.mg X.base CX k f fd ps sp) (hr : Room k X.A) (hb : Binds X.K fd ps ds) (hd : Vals dvs ds) (hx : PassesAt CX X σ (E σ))
    (I : L2.Inv X pins σ H s) (r : Vals vs us) (h : sp (vs ++ dvs) H Q (E σ)) : wpAny (model X.prog X.w) X.A (call (.ref f) us) (EP X pins σ Q) X.xe s := by
  have all : Vals (vs ++ dvs) (us ++ ds) := r.append hd
  have many : (us ++ ds).length = ps.length := all.length.symm.trans (F.len _ _ _ _ h)
  refine wpAny_call (codeAny_mono (F.run X.A X.stack s H ⟨us, []⟩ (us ++ ds) _ Q (E σ) hr I.env0 (hb s us I.kIn many) all h) fun r s' hq => ?_)
  match r, hq with
  | .error e, hq => exact hx pins H s e s' I hq
  | .ok (.ret u), hq => exact I.after hq
theorem pe_callS (F : FnOk X.prog X.w X.K X.mg X.base CX k f fd ps sp) (hr : Room k X.A) (hg : Gl X x) (hm : X.mg x = some (.ref f)) (hk : PySem.W.keepIn X.K (.ref f) = true) (hb : Binds X.K fd ps []) (hx : ∀ σ, PassesAt CX X σ (E σ))
    (ha : PA X (e :: es) t) (hdb : (x == ("__debug__" : Str)) = false := by decide) (he : starEach (e :: es) X.env = (false, eval e X.env) :: starEach es X.env := by rfl) (hpl : (backTo pos (starEach es X.env)).any (·.1) = false := by rfl) :
    PE X (.Call (.Name x p) (e :: es) [] pos) (fun σ H Q => t σ H fun vs H1 => sp vs H1 Q (E σ)) := by
  refine ⟨fun pins s σ H Q I h => wpAny_Call_Name_kw (ld_glob I hg hm ?_ hdb)⟩
  refine PySem.W.callWith_K (h₀ := X.base) I.ok.mod.kin hk (thn (ha.run pos pins s σ H _ I h) fun us s1 ⟨vs, H1, I1, r, q⟩ => ⟨I1.kIn, ?_⟩) he hpl
  exact run_fnSD (dvs := []) F hr hb .nil (hx σ) I1 r (by rw [List.append_nil]; exact q)
end
/-! ## the end of a law's row -/
theorem law_callG {P : Program} {w : World} {K : PySem.W.Frag} {mg mb : Str → Option Value} {CX : CXT} {k : Nat} {fa a : Addr} {fd : FuncData} {x : Str} {sp : Sp} {t : Shared} {vs : List Value} {ns : List Int}
    (kin : K.In t.heap) (hns : t.heap.Ns mainGlobals mg) (hb : t.heap.Ns builtinsNs mb) (hbb : ∀ x : Str, x ≠ "__name__" → mb x = bootBuiltins x) (nol : t.heap.NoLimit) (hg : t.gens = #[])
    (ha : t.heap.get? a = some { cls := .type "list", data := .seq vs.toArray }) (hi : IntsAre vs ns) (hl : ns.length ≤ sizeLine) (hr : Room k callerA)
    (F : ∀ base : Heap, K.In base → base.Ns mainGlobals mg → FnOk P w K mg base CX k fa fd [x] sp) (bind : ∀ (s : Shared) (u : Value), BindsTo s fd ⟨[u], []⟩ [(x, u)])
    (hsp : ∀ H : Hp, Only H → SqL K H a (ns.map V.int) → sp [.ref a] H (fun v _ => v = .bl true) fun _ _ _ => False) (hCX : ∀ H e s', CX [] H t (fun _ _ _ => False) e s' → False) :
    codeAny (model P w) callerA (.call (.ref fa) ⟨[.ref a], []⟩) (fun r s' => r = .ok (.ret (.bool true)) ∧ OldK t.heap s'.heap ∧ s'.os = t.os ∧ AllBare s'.gens) t := by
  have rv := vals_ints hi
  have go : ∀ H : Hp, Only H → SqL K H a (ns.map V.int) → HOk P w H t.heap → (∀ b, H b ≠ none → b = a) → (H a ≠ none → K.lookup a = none) →
      codeAny (model P w) callerA (.call (.ref fa) ⟨[.ref a], []⟩) (fun r s' => r = .ok (.ret (.bool true)) ∧ OldK t.heap s'.heap ∧ s'.os = t.os ∧ AllBare s'.gens) t := by
    intro H hO hS hok only noK
    have off : ∀ {b : Addr}, b ≠ a → H b = none := fun {b} n => by
      cases q : H b with
      | none => rfl
      | some u => exact absurd (only b (by rw [q]; simp)) n
    have keptNs : ∀ {b : Addr} {m : Str → Option Value}, t.heap.Ns b m → (hidT t.heap H).Ns b m := fun {b m} ⟨o, es, ep, e, d, r⟩ => ⟨o, es, ep, hidT_get e (off fun z => by
      subst z
      rw [ha] at e
      cases e
      cases (show Data.seq vs.toArray _ = Data.dict es ep from d)), d, r⟩
    have kinB : K.In (hidT t.heap H) := fun b o e => hidT_get (kin b o e) (by
      cases q : H b with
      | none => rfl
      | some u =>
        have eb := only b (by rw [q]; simp)
        subst eb
        rw [noK (by rw [q]; simp)] at e; cases e)
    obtain ⟨mc, l1, l2⟩ := nol
    have mod : Mod K mg (hidT t.heap H) := ⟨kinB, keptNs hns, ⟨mb, keptNs hb, hbb⟩, ⟨mc, keptNs l1, l2⟩⟩
    have e0 : Env0 P w K mg (hidT t.heap H) callerA [] t H := ⟨rfl, mod, fun b o e => of_hidT e, Nat.le_of_eq (hidT_size _ _), trivial, fun b hb => (nomatch hb), hok, .of_eq hg⟩
    refine codeAny_mono ((F _ kinB (keptNs hns)).run callerA [] t H ⟨[.ref a], []⟩ [.ref a] [.ref a] _ _ hr e0 (bind t (.ref a)) (.cons rfl .nil) (hsp H hO hS)) fun r s' h => ?_
    match r, h with
    | .error e, h => exact (hCX H e s' h).elim
    | .ok (.ret u), h =>
      obtain ⟨v, H', os, bare, un, hok', r', q⟩ := h
      obtain rfl : v = .bl true := q
      obtain rfl : u = Value.bool true := r'
      refine ⟨rfl, OldK.of_keep fun b o e => ?_, os, bare⟩
      cases q : H b with
      | none => exact un.keep b o e q (fun z => nomatch z) (fun z => nomatch z)
      | some u =>
        rcases hO b with z | ⟨ob, xs, z⟩
        · rw [q] at z; cases z
        · obtain ⟨e1, _⟩ := hok b _ z
          obtain ⟨e2, _⟩ := hok' b _ (un.frzs b ob _ z)
          rw [e] at e1; cases e1
          exact e2
  cases hk : K.lookup a with
  | some o =>
    have e := kin a o hk
    rw [ha] at e
    cases e
    exact go (fun _ => none) (fun _ => .inl rfl) (.inr ⟨_, vs.toArray, _, hk, rfl, rfl, rfl, by rw [List.size_toArray, hi.length]; exact hl, by simpa using rv⟩) (fun b u z => by cases (show (none : Option HO) = some u from z)) (fun b z => absurd rfl z) fun z => absurd rfl z
  | none =>
    have at_a : ∀ b, (if b = a then some (HO.frz { cls := .type "list", data := .seq vs.toArray } (.lst (ns.map V.int))) else none) ≠ none → b = a := fun b z => by
      by_cases hb : b = a
      · exact hb
      · exact absurd (if_neg hb) z
    refine go (fun b => if b = a then some (.frz { cls := .type "list", data := .seq vs.toArray } (.lst (ns.map V.int))) else none) (fun b => ?_) (.inl (.inr ⟨{ cls := .type "list", data := .seq vs.toArray }, if_pos rfl⟩)) (fun b u z => ?_) at_a fun _ => hk
    · by_cases hb : b = a
      · exact .inr ⟨_, _, if_pos hb⟩
      · exact .inl (if_neg hb)
    · obtain rfl := at_a b (by intro q; cases z.symm.trans q)
      cases (if_pos rfl).symm.trans z
      exact ⟨ha, by rw [List.length_map]; exact hl, vs, _, rv, ha⟩
theorem walk_ofG {l : PySem.W.OpenLaw} {n k : Nat} {q : Program} {loose : List Str} {XP : (Str → Option Value) → Heap → Prop} {YP : World → Heap → Prop} {d : DefRec} {K : Params → PySem.W.Frag} {CX : World → CXT} {sp : World → Sp} {x : Str}
    (hn : l.most = some n) (hn2 : n ≤ sizeLine) (hdf : d.params.defaults = []) (hr : Room k callerA) (hY : ∀ (w : World) (h : Heap), YP w h → (K w.params).In h)
    (F : ∀ (w : World) (mg : Str → Option Value) (fa : Addr) (h : Heap), (K w.params).In h → h.Ns mainGlobals mg → mg d.name = some (.ref fa) →
      ∃ fd : FuncData, (∀ (s : Shared) (u : Value), BindsTo s fd ⟨[u], []⟩ [(x, u)]) ∧ ∀ base : Heap, (K w.params).In base → base.Ns mainGlobals mg → FnOk l.prog w (K w.params) mg base (CX w) k fa fd [x] (sp w))
    (hsp : ∀ (w : World) (H : Hp) (a : Addr) (ns : List Int), ns.length ≤ n → (∀ z ∈ ns, Builtin.Int.intBits z ≤ 1048576) → Only H → SqL (K w.params) H a (ns.map V.int) → sp w [.ref a] H (fun v _ => v = .bl true) fun _ _ _ => False)
    (hCX : ∀ (w : World) (H : Hp) (s : Shared) (e : Value) (s' : Shared), CX w [] H s (fun _ _ _ => False) e s' → False) : PySem.W.WalkO q loose XP YP l.row.toRowW d [] (fun f vs => PySem.call f vs) := by
  refine Att.attach_callB hn hdf fun w s₀ s₁ mg mb fa o pm cd doc a vs ns G Y ho hd hcd hmg hobj hints hlen hbits hg => ?_
  obtain ⟨fd, hb, hF⟩ := F w mg fa _ (hY w _ Y) G.T.g hmg
  exact law_callG (hY w _ Y) G.T.g G.T.b G.T.builtins G.T.nolimit hg hobj hints (Nat.le_trans hlen hn2) hr hF hb (fun H hO hS => hsp w H a ns hlen hbits hO hS) fun H e s' => hCX w H s₁ e s'
/-- what a callee lets out is taken (a call needs no more) -/
abbrev TkC (X : Cx) (W : L2.WX) : Prop := ∀ σ, L2.PassesAt (L2.CX X.prog X.w) X σ (L2.WE W σ)
theorem tkc {X : Cx} {W : L2.WX} (tk : L2.Takes X W) : TkC X W := fun σ => L2.passAt tk σ
/-- what reading data needs, whatever is being handled -/
structure RoomL (A : Around) : Prop where
  un : A.units + 200 < cLine
  gd : A.guards = some []
theorem RoomL.units {A : Around} (r : RoomL A) : A.units + 64 < cLine := by have := r.un; omega
theorem Room.low {k : Nat} {A : Around} (r : Room k A) : RoomL A := ⟨by have := r.un; omega, r.gd⟩
theorem RoomL.mark {A : Around} {x : Option Value} (r : RoomL A) : RoomL (A.mark x) := ⟨r.un, r.gd⟩
theorem room_top : Room 100 callerA := ⟨⟨rfl, by decide, by decide⟩, rfl⟩
end Mir

namespace Mir
open PySem PySem.Spec PyProof.Rows L2

/-! ## deep values and what stands for them -/
inductive D where
  | non | bl (b : Bool) | int (i : Int) | str (x : Str) | ty (n : String) | ref (a : Addr)
  | tup (xs : List D) | lst (xs : List D) | frl (xs : List D) | dK (kvs : List (Key × D)) | ins (C : Str) (fs : List (Str × D)) | exc (C : Str) (fs : List (Str × D))
/-- the class that the main module names C -/
def ClsN (K : PySem.W.Frag) (C : Str) (Ca : Addr) : Prop := PySem.W.nsIn K mainGlobals C = some (some (.ref Ca))
theorem ClsN.inj {K : PySem.W.Frag} {C : Str} {a b : Addr} (h : ClsN K C a) (h' : ClsN K C b) : a = b := by
  unfold ClsN at h h'
  rw [h] at h'
  cases h'
  rfl

/-- a tuple: tracked, or an object of the module -/
def TupAt (K : PySem.W.Frag) (H : Hp) (a : Addr) (xs : List V) : Prop :=
  H a = some (.tup xs) ∨
    ∃ (o : Obj) (its : Array Value) (n : Nat), K.lookup a = some o ∧ o.cls = .type "tuple" ∧ o.data = .seq its n ∧ its.size ≤ sizeLine ∧ Vals xs its.toList
theorem TupAt.sq {K : PySem.W.Frag} {H : Hp} {a : Addr} {xs : List V} (h : TupAt K H a xs) : SqT K H a xs := by
  rcases h with h | h
  · exact .inl (.inl h)
  · exact .inr h
/-- an exception's object at a, of a class, with a dict -/
def ExP (cls : Value) (d : Option Addr) (a : Addr) (h : Heap) : Prop := ∃ (oe : Obj) (vs : Array Value), h.get? a = some oe ∧ Zc cls d oe ∧ oe.data = .fields vs
abbrev ExH (cls : Value) (d : Option Addr) (a : Addr) : HO := .ext (ExP cls d a)
section
variable (K : PySem.W.Frag) (S : Hp)
mutual
def Rep : D → V → Prop
  | .non, v => v = .non
  | .bl b, v => v = .bl b
  | .int i, v => v = .int i
  | .str x, v => v = .str x ∧ x.length ≤ sizeLine
  | .ty n, v => v = .ty n
  | .ref a, v => v = .ref a
  | .tup ds, v => ∃ a vs, v = .ref a ∧ TupAt K S a vs ∧ ds.length ≤ sizeLine ∧ Reps ds vs
  | .lst ds, v => ∃ a vs, v = .ref a ∧ S a = some (.lst vs) ∧ ds.length ≤ sizeLine ∧ Reps ds vs
  | .frl ds, v => ∃ a vs, v = .ref a ∧ SqL K S a vs ∧ ds.length ≤ sizeLine ∧ Reps ds vs
  | .dK kds, v => ∃ a kvs, v = .ref a ∧ Rd S a (.dK kvs) ∧ kds.length ≤ sizeLine ∧ RepK kds kvs
  | .ins C gs, v => ∃ Ca a dx fs, ClsN K C Ca ∧ v = .ref a ∧ S a = some (.ins Ca dx fs) ∧ RepF gs fs
  | .exc C gs, v => ∃ Ca a d fs, ClsN K C Ca ∧ v = .ref a ∧ S a = some (ExH (.ref Ca) (some d) a) ∧ S d = some (.xd fs) ∧ RepF gs fs
def Reps : List D → List V → Prop
  | [], vs => vs = []
  | d :: ds, vs => ∃ v r, vs = v :: r ∧ Rep d v ∧ Reps ds r
def RepK : List (Key × D) → List (Key × V) → Prop
  | [], kvs => kvs = []
  | (k, d) :: ds, kvs => ∃ v r, kvs = (k, v) :: r ∧ Rep d v ∧ RepK ds r
def RepF : List (Str × D) → List (Str × V) → Prop
  | [], kvs => kvs = []
  | (k, d) :: ds, kvs => ∃ v r, kvs = (k, v) :: r ∧ Rep d v ∧ RepF ds r
end
end

/-- what S2 tells beside S: all that is read as data, all instances -/
structure Le (S S2 : Hp) : Prop where
  lst : ∀ a xs, S a = some (.lst xs) → S2 a = some (.lst xs)
  tup : ∀ a xs, S a = some (.tup xs) → S2 a = some (.tup xs)
  dk : ∀ a kvs, Rd S a (.dK kvs) → Rd S2 a (.dK kvs)
  ins : ∀ a C dx fs, S a = some (.ins C dx fs) → S2 a = some (.ins C dx fs)
  frz : ∀ a o u, S a = some (.frz o u) → S2 a = some (.frz o u)
  ext : ∀ a p, S a = some (.ext p) → S2 a = some (.ext p)
  xd : ∀ a fs, S a = some (.xd fs) → S2 a = some (.xd fs)
theorem Le.of {S S2 : Hp} (h : Same S S2) : Le S S2 := by
  have g : ∀ a u, Rd S a u → Rd S2 a u := fun a u r => by
    rcases r with r | ⟨o, r⟩
    · exact .inl (h _ _ r)
    · exact .inr ⟨o, h _ _ r⟩
  exact ⟨fun a xs => h a _, fun a xs => h a _, fun a kvs => g a _, fun a C dx fs => h a _, fun a o u => h a _, fun a p => h a _, fun a fs => h a _⟩
theorem Le.trans {S S1 S2 : Hp} (x : Le S S1) (y : Le S1 S2) : Le S S2 :=
  ⟨fun a xs r => y.lst _ _ (x.lst _ _ r), fun a xs r => y.tup _ _ (x.tup _ _ r), fun a kvs r => y.dk a kvs (x.dk a kvs r), fun a C dx fs r => y.ins _ _ _ _ (x.ins _ _ _ _ r), fun a o u r => y.frz _ _ _ (x.frz _ _ _ r), fun a p r => y.ext _ _ (x.ext _ _ r), fun a fs r => y.xd _ _ (x.xd _ _ r)⟩
theorem Le.refl (S : Hp) : Le S S := Le.of (Same.refl S)
theorem Le.tupAt {K : PySem.W.Frag} {S S2 : Hp} {a : Addr} {xs : List V} (x : Le S S2) (h : TupAt K S a xs) : TupAt K S2 a xs := by
  rcases h with h | h
  · exact .inl (x.tup _ _ h)
  · exact .inr h
theorem Le.sqL {K : PySem.W.Frag} {S S2 : Hp} {a : Addr} {xs : List V} (x : Le S S2) (h : SqL K S a xs) : SqL K S2 a xs := by
  rcases h with (h | ⟨o, h⟩) | h
  · exact .inl (.inl (x.lst a xs h))
  · exact .inl (.inr ⟨o, x.frz _ _ _ h⟩)
  · exact .inr h

section
variable {K : PySem.W.Frag} {S S2 : Hp}
mutual
theorem Rep.mono (x : Le S S2) : ∀ (d : D) (v : V), Rep K S d v → Rep K S2 d v
  | .non, v, h => h
  | .bl b, v, h => h
  | .int i, v, h => h
  | .str y, v, h => h
  | .ty n, v, h => h
  | .ref a, v, h => h
  | .tup ds, v, h => by
    obtain ⟨a, vs, e, q, l, r⟩ := h
    exact ⟨a, vs, e, x.tupAt q, l, Reps.mono x ds vs r⟩
  | .lst ds, v, h => by
    obtain ⟨a, vs, e, q, l, r⟩ := h
    exact ⟨a, vs, e, x.lst _ _ q, l, Reps.mono x ds vs r⟩
  | .frl ds, v, h => by
    obtain ⟨a, vs, e, q, l, r⟩ := h
    exact ⟨a, vs, e, x.sqL q, l, Reps.mono x ds vs r⟩
  | .dK ds, v, h => by
    obtain ⟨a, vs, e, q, l, r⟩ := h
    exact ⟨a, vs, e, x.dk _ _ q, l, RepK.mono x ds vs r⟩
  | .ins C gs, v, h => by
    obtain ⟨Ca, a, dx, fs, c, e, q, r⟩ := h
    exact ⟨Ca, a, dx, fs, c, e, x.ins _ _ _ _ q, RepF.mono x gs fs r⟩
  | .exc C gs, v, h => by
    obtain ⟨Ca, a, d, fs, c, e, q, q2, r⟩ := h
    exact ⟨Ca, a, d, fs, c, e, x.ext _ _ q, x.xd _ _ q2, RepF.mono x gs fs r⟩
theorem Reps.mono (x : Le S S2) : ∀ (ds : List D) (vs : List V), Reps K S ds vs → Reps K S2 ds vs
  | [], vs, h => h
  | d :: ds, vs, h => by
    obtain ⟨v, r, e, p, q⟩ := h
    exact ⟨v, r, e, Rep.mono x d v p, Reps.mono x ds r q⟩
theorem RepK.mono (x : Le S S2) : ∀ (ds : List (Key × D)) (vs : List (Key × V)), RepK K S ds vs → RepK K S2 ds vs
  | [], vs, h => h
  | (k, d) :: ds, vs, h => by
    obtain ⟨v, r, e, p, q⟩ := h
    exact ⟨v, r, e, Rep.mono x d v p, RepK.mono x ds r q⟩
theorem RepF.mono (x : Le S S2) : ∀ (ds : List (Str × D)) (vs : List (Str × V)), RepF K S ds vs → RepF K S2 ds vs
  | [], vs, h => h
  | (k, d) :: ds, vs, h => by
    obtain ⟨v, r, e, p, q⟩ := h
    exact ⟨v, r, e, Rep.mono x d v p, RepF.mono x ds r q⟩
end
end
end Mir

namespace Mir
open PySem PySem.Spec PyProof.Rows L2
abbrev St := L2.St


/-! ## objects that may still change; the slots -/
inductive MO where
  | lst (xs : List D) | dK (kvs : List (Key × D)) | ins (C : Str) (fs : List (Str × D))
def MO.d : MO → D
  | .lst xs => .lst xs
  | .dK kvs => .dK kvs
  | .ins C fs => .ins C fs
/-- a slot: a deep value; an object of the def's own; one that the caller lent -/
inductive Sl where
  | v (d : D) | o (m : MO) | b (m : MO)
abbrev ME := List (Option Sl)
def RepO (K : PySem.W.Frag) (S : Hp) : MO → HO → Prop
  | .lst ds, o => ∃ vs, o = .lst vs ∧ ds.length ≤ sizeLine ∧ Reps K S ds vs
  | .dK kds, o => ∃ kvs, o = .dK kvs ∧ kds.length ≤ sizeLine ∧ RepK K S kds kvs
  | .ins C gs, o => ∃ Ca dx fs, ClsN K C Ca ∧ o = .ins Ca dx fs ∧ RepF K S gs fs
theorem RepO.mono {K : PySem.W.Frag} {S S2 : Hp} (x : Le S S2) {m : MO} {o : HO} (h : RepO K S m o) : RepO K S2 m o := by
  cases m with
  | lst ds =>
    obtain ⟨vs, e, l, r⟩ := h
    exact ⟨vs, e, l, Reps.mono x _ _ r⟩
  | dK ds =>
    obtain ⟨vs, e, l, r⟩ := h
    exact ⟨vs, e, l, RepK.mono x _ _ r⟩
  | ins C gs =>
    obtain ⟨Ca, dx, fs, c, e, r⟩ := h
    exact ⟨Ca, dx, fs, c, e, RepF.mono x _ _ r⟩
/-- frozen: read as a deep value -/
theorem RepO.rep {K : PySem.W.Frag} {S : Hp} {m : MO} {o : HO} {a : Addr} (h : RepO K S m o) (e : S a = some o) : Rep K S m.d (.ref a) := by
  cases m with
  | lst ds =>
    obtain ⟨vs, rfl, l, r⟩ := h
    exact ⟨a, vs, rfl, e, l, r⟩
  | dK ds =>
    obtain ⟨vs, rfl, l, r⟩ := h
    exact ⟨a, vs, rfl, .inl e, l, r⟩
  | ins C gs =>
    obtain ⟨Ca, dx, fs, c, rfl, r⟩ := h
    exact ⟨Ca, a, dx, fs, c, rfl, e, r⟩
def Sl.mo : Sl → Option MO
  | .v _ => none
  | .o m => some m
  | .b m => some m
def Has (env : ME) (i : Nat) (m : MO) : Prop := ∃ s, env[i]? = some (some s) ∧ s.mo = some m
/-- some slot holds the object at b -/
def Own (env : ME) (σ : St) (b : Addr) : Prop := ∃ (i : Nat) (m : MO), Has env i m ∧ σ[i]? = some (some (V.ref b))
def OwnO (env : ME) (σ : St) (b : Addr) : Prop := ∃ (i : Nat) (m : MO), env[i]? = some (some (Sl.o m)) ∧ σ[i]? = some (some (V.ref b))

structure Rel (K : PySem.W.Frag) (S : Hp) (env : ME) (σ : St) (H : Hp) : Prop where
  len : env.length = σ.length
  sub : Same S H
  val : ∀ (i : Nat) (d : D), env[i]? = some (some (Sl.v d)) → ∃ v, σ[i]? = some (some v) ∧ Rep K S d v
  obj : ∀ (i : Nat) (m : MO), Has env i m → ∃ a o, σ[i]? = some (some (V.ref a)) ∧ H a = some o ∧ S a = none ∧ RepO K S m o
  dis : ∀ (i j : Nat) (m m' : MO) (a : Addr), Has env i m → Has env j m' → σ[i]? = some (some (V.ref a)) → σ[j]? = some (some (V.ref a)) → i = j

structure Step (K : PySem.W.Frag) (S : Hp) (env : ME) (σ : St) (H : Hp) (S' : Hp) (env' : ME) (σ' : St) (H' : Hp) : Prop where
  rel : Rel K S' env' σ' H'
  le : Le S S'
  fresh : ∀ b, S' b ≠ none → S b ≠ none ∨ H b = none ∨ OwnO env σ b
  frame : ∀ b o, H b = some o → S b = none → ¬ Own env σ b → H' b = some o
  bor : ∀ (i : Nat) (m : MO), env[i]? = some (some (Sl.b m)) → (∃ m', env'[i]? = some (some (Sl.b m'))) ∧ σ'[i]? = σ[i]?
  borr : ∀ (i : Nat) (m : MO), env'[i]? = some (some (Sl.b m)) → ∃ m', env[i]? = some (some (Sl.b m'))
  own : ∀ a, OwnO env' σ' a → OwnO env σ a ∨ H a = none
  len : σ'.length = σ.length
  keep : ∀ b, S b ≠ none → S' b ≠ none

theorem OwnO.own {env : ME} {σ : St} {b : Addr} (h : OwnO env σ b) : Own env σ b := by
  obtain ⟨i, m, e, q⟩ := h
  exact ⟨i, m, ⟨_, e, rfl⟩, q⟩
theorem Rel.step {K : PySem.W.Frag} {S : Hp} {env : ME} {σ : St} {H : Hp} (r : Rel K S env σ H) : Step K S env σ H S env σ H :=
  ⟨r, Le.refl S, fun b h => .inl h, fun b o h _ _ => h, fun i m h => ⟨⟨m, h⟩, rfl⟩, fun i m h => ⟨m, h⟩, fun a h => .inl h, rfl, fun _ h => h⟩
section
variable {K : PySem.W.Frag} {S S1 S2 : Hp} {env env1 env2 : ME} {σ σ1 σ2 : St} {H H1 H2 : Hp}
/-- what is gone behind a step was not there, or an own object -/
theorem Step.gone (x : Step K S env σ H S1 env1 σ1 H1) {b : Addr} (h : H1 b = none) : H b = none ∨ OwnO env σ b := by
  cases e : H b with
  | none => exact .inl rfl
  | some o =>
    refine .inr ?_
    cases eS : S b with
    | some u =>
      have q := x.keep b (by rw [eS]; simp)
      cases eq : S1 b with
      | none => exact absurd eq q
      | some u2 => rw [x.rel.sub _ _ eq] at h; cases h
    | none =>
    by_cases w : Own env σ b
    · obtain ⟨i, m, ⟨s, e1, e2⟩, e3⟩ := w
      cases s with
      | v d => cases e2
      | o m' => exact ⟨i, m', e1, e3⟩
      | b m' =>
        exfalso
        obtain ⟨⟨m2, q1⟩, q2⟩ := x.bor i m' e1
        obtain ⟨a, o2, z1, z2, _, _⟩ := x.rel.obj i m2 ⟨_, q1, rfl⟩
        rw [q2, e3] at z1
        cases z1
        rw [h] at z2
        cases z2
    · rw [x.frame b o e eS w] at h
      cases h
theorem Step.trans (x : Step K S env σ H S1 env1 σ1 H1) (y : Step K S1 env1 σ1 H1 S2 env2 σ2 H2) : Step K S env σ H S2 env2 σ2 H2 := by
  refine ⟨y.rel, x.le.trans y.le, fun b h => ?_, fun b o h hS n => ?_, fun i m h => ?_, fun i m h => ?_, fun a h => ?_, y.len.trans x.len, fun b h => y.keep b (x.keep b h)⟩
  · rcases y.fresh b h with h | h | h
    · exact x.fresh b h
    · rcases x.gone h with h | h
      · exact .inr (.inl h)
      · exact .inr (.inr h)
    · rcases x.own b h with h | h
      · exact .inr (.inr h)
      · exact .inr (.inl h)
  · have hS1 : S1 b = none := by
      cases e : S1 b with
      | none => rfl
      | some u =>
        rcases x.fresh b (by rw [e]; simp) with q | q | q
        · exact absurd hS q
        · rw [h] at q; cases q
        · exact absurd q.own n
    refine y.frame b o (x.frame b o h hS n) hS1 ?_
    rintro ⟨i, m, ⟨s, e1, e2⟩, e3⟩
    cases s with
    | v d => cases e2
    | o m' =>
      rcases x.own b ⟨i, m', e1, e3⟩ with w | w
      · exact n w.own
      · rw [h] at w; cases w
    | b m' =>
      obtain ⟨m0, q⟩ := x.borr i m' e1
      obtain ⟨_, q2⟩ := x.bor i m0 q
      exact n ⟨i, m0, ⟨_, q, rfl⟩, by rw [← q2]; exact e3⟩
  · obtain ⟨⟨m1, q1⟩, q2⟩ := x.bor i m h
    obtain ⟨m2, q4⟩ := y.bor i m1 q1
    exact ⟨m2, q4.trans q2⟩
  · obtain ⟨m1, q1⟩ := y.borr i m h
    exact x.borr i m1 q1
  · rcases y.own a h with h | h
    · exact x.own a h
    · rcases x.gone h with h | h
      · exact .inr h
      · exact .inl h
/-- a new object that stays -/
theorem Rel.alloc (r : Rel K S env σ H) {p : Addr} {o : HO} (hp : H p = none) : Step K S env σ H (upd S p o) env σ (upd H p o) := by
  have hS : S p = none := by
    cases e : S p with
    | none => rfl
    | some u => rw [r.sub _ _ e] at hp; cases hp
  have sm : Same S (upd S p o) := fun b u e => by rw [upd_ne (ne_of_none e hS)]; exact e
  refine ⟨⟨r.len, fun b u e => ?_, fun i d e => ?_, fun i m e => ?_, r.dis⟩, Le.of sm, fun b h => ?_, fun b u e _ _ => ?_, fun i m h => ⟨⟨m, h⟩, rfl⟩, fun i m h => ⟨m, h⟩, fun a h => .inl h, rfl, fun b h q => h (by cases e : S b with | none => rfl | some u => rw [sm b u e] at q; cases q)⟩
  · by_cases hb : b = p
    · subst hb; rw [upd_same] at e; rw [upd_same]; exact e
    · rw [upd_ne hb] at e; rw [upd_ne hb]; exact r.sub b u e
  · obtain ⟨v, e1, e2⟩ := r.val i d e
    exact ⟨v, e1, Rep.mono (Le.of sm) _ _ e2⟩
  · obtain ⟨a, u, e1, e2, e3, e4⟩ := r.obj i m e
    have ne : a ≠ p := ne_of_none e2 hp
    exact ⟨a, u, e1, by rw [upd_ne ne]; exact e2, by rw [upd_ne ne]; exact e3, e4.mono (Le.of sm)⟩
  · by_cases hb : b = p
    · subst hb; exact .inr (.inl hp)
    · rw [upd_ne hb] at h; exact .inl h
  · rw [upd_ne (ne_of_none e hp)]; exact e
/-- an untracked-for-us object beside: H grows alone -/
theorem Rel.beside (r : Rel K S env σ H) {p : Addr} {o : HO} (hp : H p = none) : Step K S env σ H S env σ (upd H p o) := by
  refine ⟨⟨r.len, fun b u e => ?_, r.val, fun i m e => ?_, r.dis⟩, Le.refl S, fun b h => .inl h, fun b u e _ _ => ?_, fun i m h => ⟨⟨m, h⟩, rfl⟩, fun i m h => ⟨m, h⟩, fun a h => .inl h, rfl, fun _ h => h⟩
  · have e' := r.sub b u e
    rw [upd_ne (ne_of_none e' hp)]; exact e'
  · obtain ⟨a, u, e1, e2, e3, e4⟩ := r.obj i m e
    exact ⟨a, u, e1, by rw [upd_ne (ne_of_none e2 hp)]; exact e2, e3, e4⟩
  · rw [upd_ne (ne_of_none e hp)]; exact e

theorem has_set {i j : Nat} {s : Option Sl} {m : MO} (h : Has (env.set i s) j m) : (j = i ∧ ∃ q, s = some q ∧ q.mo = some m) ∨ (j ≠ i ∧ Has env j m) := by
  obtain ⟨q, e1, e2⟩ := h
  by_cases e : i = j
  · subst e
    have hl : i < env.length := by
      have := (List.getElem?_eq_some_iff.mp e1).1
      simpa using this
    rw [List.getElem?_set_self hl] at e1
    exact .inl ⟨rfl, q, Option.some.inj e1, e2⟩
  · rw [List.getElem?_set_ne e] at e1
    exact .inr ⟨fun z => e z.symm, q, e1, e2⟩
/-- the slot is not lent -/
def NotB (env : ME) (i : Nat) : Prop := ∀ m, env[i]? ≠ some (some (.b m))
/-- a slot is given a deep value (or is forgotten) -/
theorem Rel.setV (r : Rel K S env σ H) {i : Nat} {d : D} {v : V} (nb : NotB env i) (hd : Rep K S d v) : Step K S env σ H S (env.set i (some (.v d))) (σ.set i (some v)) H := by
  have old : ∀ j m, Has (env.set i (some (.v d))) j m → j ≠ i ∧ Has env j m := fun j m h => by
    rcases has_set h with ⟨_, q, e1, e2⟩ | h
    · cases e1; cases e2
    · exact h
  refine ⟨⟨by simp [r.len], r.sub, fun j d' e => ?_, fun j m e => ?_, fun j k m m' a e1 e2 e3 e4 => ?_⟩, Le.refl S, fun b h => .inl h, fun b u e _ _ => e, fun j m h => ?_, fun j m h => ?_, fun a h => ?_, by simp, fun _ h => h⟩
  · by_cases hj : i = j
    · subst hj
      have hl : i < env.length := by
        have := (List.getElem?_eq_some_iff.mp e).1
        simpa using this
      rw [List.getElem?_set_self hl] at e
      cases e
      exact ⟨v, List.getElem?_set_self (by rw [← r.len]; exact hl), hd⟩
    · rw [List.getElem?_set_ne hj] at e
      rw [List.getElem?_set_ne hj]
      exact r.val j d' e
  · obtain ⟨n, h⟩ := old j m e
    rw [List.getElem?_set_ne (Ne.symm n)]
    exact r.obj j m h
  · obtain ⟨n1, h1⟩ := old j m e1
    obtain ⟨n2, h2⟩ := old k m' e2
    rw [List.getElem?_set_ne (Ne.symm n1)] at e3
    rw [List.getElem?_set_ne (Ne.symm n2)] at e4
    exact r.dis j k m m' a h1 h2 e3 e4
  · have hj : i ≠ j := fun z => nb m (by rw [z]; exact h)
    rw [List.getElem?_set_ne hj, List.getElem?_set_ne hj]
    exact ⟨⟨m, h⟩, rfl⟩
  · by_cases hj : i = j
    · subst hj
      have hl : i < env.length := by
        have := (List.getElem?_eq_some_iff.mp h).1
        simpa using this
      rw [List.getElem?_set_self hl] at h
      cases h
    · rw [List.getElem?_set_ne hj] at h
      exact ⟨m, h⟩
  · obtain ⟨j, m, e1, e2⟩ := h
    have hj : i ≠ j := fun z => by
      subst z
      have hl : i < env.length := by
        have := (List.getElem?_eq_some_iff.mp e1).1
        simpa using this
      rw [List.getElem?_set_self hl] at e1
      cases e1
    rw [List.getElem?_set_ne hj] at e1 e2
    exact .inl ⟨j, m, e1, e2⟩
/-- what we say of a slot may be forgotten -/
theorem Rel.forget (r : Rel K S env σ H) {i : Nat} {x : Option V} (nb : NotB env i) : Step K S env σ H S (env.set i none) (σ.set i x) H := by
  have old : ∀ j m, Has (env.set i none) j m → j ≠ i ∧ Has env j m := fun j m h => by
    rcases has_set h with ⟨_, q, e1, e2⟩ | h
    · cases e1
    · exact h
  refine ⟨⟨by simp [r.len], r.sub, fun j d' e => ?_, fun j m e => ?_, fun j k m m' a e1 e2 e3 e4 => ?_⟩, Le.refl S, fun b h => .inl h, fun b u e _ _ => e, fun j m h => ?_, fun j m h => ?_, fun a h => ?_, by simp, fun _ h => h⟩
  · by_cases hj : i = j
    · subst hj
      have hl : i < env.length := by
        have := (List.getElem?_eq_some_iff.mp e).1
        simpa using this
      rw [List.getElem?_set_self hl] at e
      cases e
    · rw [List.getElem?_set_ne hj] at e
      rw [List.getElem?_set_ne hj]
      exact r.val j d' e
  · obtain ⟨n, h⟩ := old j m e
    rw [List.getElem?_set_ne (Ne.symm n)]
    exact r.obj j m h
  · obtain ⟨n1, h1⟩ := old j m e1
    obtain ⟨n2, h2⟩ := old k m' e2
    rw [List.getElem?_set_ne (Ne.symm n1)] at e3
    rw [List.getElem?_set_ne (Ne.symm n2)] at e4
    exact r.dis j k m m' a h1 h2 e3 e4
  · have hj : i ≠ j := fun z => nb m (by rw [z]; exact h)
    rw [List.getElem?_set_ne hj, List.getElem?_set_ne hj]
    exact ⟨⟨m, h⟩, rfl⟩
  · by_cases hj : i = j
    · subst hj
      have hl : i < env.length := by
        have := (List.getElem?_eq_some_iff.mp h).1
        simpa using this
      rw [List.getElem?_set_self hl] at h
      cases h
    · rw [List.getElem?_set_ne hj] at h
      exact ⟨m, h⟩
  · obtain ⟨j, m, e1, e2⟩ := h
    have hj : i ≠ j := fun z => by
      subst z
      have hl : i < env.length := by
        have := (List.getElem?_eq_some_iff.mp e1).1
        simpa using this
      rw [List.getElem?_set_self hl] at e1
      cases e1
    rw [List.getElem?_set_ne hj] at e1 e2
    exact .inl ⟨j, m, e1, e2⟩
end
end Mir

namespace Mir
open PySem PySem.Spec PyProof.Rows L2
section
variable {K : PySem.W.Frag} {S S1 S2 : Hp} {env env1 env2 : ME} {σ σ1 σ2 : St} {H H1 H2 : Hp}
theorem lt_of_at {α : Type} {l : List α} {i : Nat} {x : α} (h : l[i]? = some x) : i < l.length := (List.getElem?_eq_some_iff.mp h).1
theorem set_self {α : Type} {l : List α} {i : Nat} {x y : α} (h : (l.set i x)[i]? = some y) : y = x := by
  have hl : i < l.length := by
    have := lt_of_at h
    simpa using this
  rw [List.getElem?_set_self hl] at h
  exact (Option.some.inj h).symm
/-- a slot is given a new object of the def's own, laid at p -/
theorem Rel.setO (r : Rel K S env σ H) {i : Nat} {m : MO} {p : Addr} {o : HO} (nb : NotB env i) (hp : H p = none) (ho : RepO K S m o) :
    Step K S env σ H S (env.set i (some (.o m))) (σ.set i (some (.ref p))) (upd H p o) := by
  have hS : S p = none := by
    cases e : S p with
    | none => rfl
    | some u => rw [r.sub _ _ e] at hp; cases hp
  have old : ∀ (j : Nat) (m' : MO), Has (env.set i (some (.o m))) j m' → (j = i ∧ m' = m ∧ i < env.length) ∨ (j ≠ i ∧ Has env j m') := fun j m' h => by
    have h0 := h
    rcases has_set h with ⟨rfl, q, e1, e2⟩ | h
    · cases e1
      cases e2
      obtain ⟨q, e1, e2⟩ := h0
      refine .inl ⟨rfl, rfl, ?_⟩
      have := lt_of_at e1
      simpa using this
    · exact .inr h
  have nep : ∀ (j : Nat) (m' : MO), Has env j m' → σ[j]? ≠ some (some (V.ref p)) := fun j m' h e => by
    obtain ⟨a, u, e1, e2, _, _⟩ := r.obj j m' h
    rw [e] at e1
    cases e1
    rw [hp] at e2
    cases e2
  refine ⟨⟨by simp [r.len], fun b u e => ?_, fun j d' e => ?_, fun j m' e => ?_, fun j k m' m2 a e1 e2 e3 e4 => ?_⟩, Le.refl S, fun b h => .inl h, fun b u e _ _ => ?_, fun j m' h => ?_, fun j m' h => ?_, fun a h => ?_, by simp, fun _ h => h⟩
  · have e' := r.sub b u e
    rw [upd_ne (ne_of_none e' hp)]; exact e'
  · by_cases hj : i = j
    · subst hj
      have := set_self e
      cases this
    · rw [List.getElem?_set_ne hj] at e
      rw [List.getElem?_set_ne hj]
      exact r.val j d' e
  · rcases old j m' e with ⟨rfl, rfl, hl⟩ | ⟨n, h⟩
    · exact ⟨p, o, List.getElem?_set_self (by rw [← r.len]; exact hl), upd_same, hS, ho⟩
    · rw [List.getElem?_set_ne (Ne.symm n)]
      obtain ⟨a, u, e1, e2, e3, e4⟩ := r.obj j m' h
      exact ⟨a, u, e1, by rw [upd_ne (ne_of_none e2 hp)]; exact e2, e3, e4⟩
  · rcases old j m' e1 with ⟨rfl, rfl, hl⟩ | ⟨n1, h1⟩ <;> rcases old k m2 e2 with ⟨rfl, rfl, hl2⟩ | ⟨n2, h2⟩
    · rfl
    · exfalso
      rw [List.getElem?_set_self (by rw [← r.len]; exact hl)] at e3
      cases e3
      rw [List.getElem?_set_ne (Ne.symm n2)] at e4
      exact nep k m2 h2 e4
    · exfalso
      rw [List.getElem?_set_self (by rw [← r.len]; exact hl2)] at e4
      cases e4
      rw [List.getElem?_set_ne (Ne.symm n1)] at e3
      exact nep j m' h1 e3
    · rw [List.getElem?_set_ne (Ne.symm n1)] at e3
      rw [List.getElem?_set_ne (Ne.symm n2)] at e4
      exact r.dis j k m' m2 a h1 h2 e3 e4
  · rw [upd_ne (ne_of_none e hp)]; exact e
  · have hj : i ≠ j := fun z => nb m' (by rw [z]; exact h)
    rw [List.getElem?_set_ne hj, List.getElem?_set_ne hj]
    exact ⟨⟨m', h⟩, rfl⟩
  · by_cases hj : i = j
    · subst hj
      have := set_self h
      cases this
    · rw [List.getElem?_set_ne hj] at h
      exact ⟨m', h⟩
  · obtain ⟨j, m', e1, e2⟩ := h
    by_cases hj : i = j
    · subst hj
      have hl : i < env.length := by
        have := lt_of_at e1
        simpa using this
      rw [List.getElem?_set_self (by rw [← r.len]; exact hl)] at e2
      cases e2
      exact .inr hp
    · rw [List.getElem?_set_ne hj] at e1 e2
      exact .inl ⟨j, m', e1, e2⟩
/-- a slot's object with another content -/
def Sl.put (m : MO) : Sl → Sl
  | .v d => .v d
  | .o _ => .o m
  | .b _ => .b m
/-- an object of a slot is changed -/
theorem Rel.mut (r : Rel K S env σ H) {i : Nat} {m m' : MO} {s : Sl} {a : Addr} {o' : HO} (hs : env[i]? = some (some s)) (hm : s.mo = some m) (ha : σ[i]? = some (some (.ref a))) (ho : RepO K S m' o') :
    Step K S env σ H S (env.set i (some (s.put m'))) σ (upd H a o') := by
  have hl : i < env.length := lt_of_at hs
  obtain ⟨a0, u0, x1, x2, x3, x4⟩ := r.obj i m ⟨s, hs, hm⟩
  rw [ha] at x1
  cases x1
  have pm : (s.put m').mo = some m' := by
    cases s with
    | v d => cases hm
    | o z => rfl
    | b z => rfl
  have old : ∀ (j : Nat) (m2 : MO), Has (env.set i (some (s.put m'))) j m2 → (j = i ∧ m2 = m') ∨ (j ≠ i ∧ Has env j m2) := fun j m2 h => by
    rcases has_set h with ⟨rfl, q, e1, e2⟩ | h
    · cases e1
      rw [pm] at e2
      exact .inl ⟨rfl, (Option.some.inj e2).symm⟩
    · exact .inr h
  have ne : ∀ (j : Nat) (m2 : MO) (b : Addr), j ≠ i → Has env j m2 → σ[j]? = some (some (V.ref b)) → b ≠ a := fun j m2 b n h e z => by
    subst z
    exact n (r.dis j i m2 m b h ⟨s, hs, hm⟩ e ha)
  refine ⟨⟨by simp [r.len], fun b u e => ?_, fun j d' e => ?_, fun j m2 e => ?_, fun j k m2 m3 b e1 e2 e3 e4 => ?_⟩, Le.refl S, fun b h => .inl h, fun b u e _ n => ?_, fun j m2 h => ?_, fun j m2 h => ?_, fun b h => ?_, rfl, fun _ h => h⟩
  · have e' := r.sub b u e
    have hb : b ≠ a := fun z => by
      subst z
      rw [x3] at e
      cases e
    rw [upd_ne hb]; exact e'
  · by_cases hj : i = j
    · subst hj
      have := set_self e
      cases s with
      | v d => cases hm
      | o z => cases this
      | b z => cases this
    · rw [List.getElem?_set_ne hj] at e
      exact r.val j d' e
  · rcases old j m2 e with ⟨rfl, rfl⟩ | ⟨n, h⟩
    · exact ⟨a, o', ha, upd_same, x3, ho⟩
    · obtain ⟨b, u, e1, e2, e3, e4⟩ := r.obj j m2 h
      exact ⟨b, u, e1, by rw [upd_ne (ne j m2 b n h e1)]; exact e2, e3, e4⟩
  · rcases old j m2 e1 with ⟨rfl, rfl⟩ | ⟨n1, h1⟩ <;> rcases old k m3 e2 with ⟨rfl, rfl⟩ | ⟨n2, h2⟩
    · rfl
    · rw [ha] at e3
      cases e3
      exact absurd rfl (ne k m3 _ n2 h2 e4)
    · rw [ha] at e4
      cases e4
      exact absurd rfl (ne j m2 _ n1 h1 e3)
    · exact r.dis j k m2 m3 b h1 h2 e3 e4
  · have hb : b ≠ a := fun z => by
      subst z
      exact n ⟨i, m, ⟨s, hs, hm⟩, ha⟩
    rw [upd_ne hb]; exact e
  · by_cases hj : i = j
    · subst hj
      rw [hs] at h
      cases h
      rw [List.getElem?_set_self hl]
      exact ⟨⟨m', rfl⟩, rfl⟩
    · rw [List.getElem?_set_ne hj]
      exact ⟨⟨m2, h⟩, rfl⟩
  · by_cases hj : i = j
    · subst hj
      have := set_self h
      cases s with
      | v d => cases hm
      | o z => cases this
      | b z => exact ⟨z, hs⟩
    · rw [List.getElem?_set_ne hj] at h
      exact ⟨m2, h⟩
  · obtain ⟨j, m2, e1, e2⟩ := h
    by_cases hj : i = j
    · subst hj
      have := set_self e1
      cases s with
      | v d => cases hm
      | o z => exact .inl ⟨i, z, hs, e2⟩
      | b z => cases this
    · rw [List.getElem?_set_ne hj] at e1
      exact .inl ⟨j, m2, e1, e2⟩
/-- an own object of a slot is left to itself: from now on it is a deep value -/
theorem Rel.frz (r : Rel K S env σ H) {i : Nat} {m : MO} (hs : env[i]? = some (some (.o m))) : ∃ S', Step K S env σ H S' (env.set i (some (.v m.d))) σ H := by
  have hl : i < env.length := lt_of_at hs
  obtain ⟨a, u, x1, x2, x3, x4⟩ := r.obj i m ⟨_, hs, rfl⟩
  have sm : Same S (upd S a u) := fun b w e => by rw [upd_ne (ne_of_none e x3)]; exact e
  have old : ∀ (j : Nat) (m2 : MO), Has (env.set i (some (.v m.d))) j m2 → (j ≠ i ∧ Has env j m2) := fun j m2 h => by
    rcases has_set h with ⟨rfl, q, e1, e2⟩ | h
    · cases e1
      cases e2
    · exact h
  refine ⟨upd S a u, ⟨by simp [r.len], fun b w e => ?_, fun j d' e => ?_, fun j m2 e => ?_, fun j k m2 m3 b e1 e2 e3 e4 => ?_⟩, Le.of sm, fun b h => ?_, fun b w e _ n => e, fun j m2 h => ?_, fun j m2 h => ?_, fun b h => ?_, rfl, fun b h q => h (by cases e : S b with | none => rfl | some w => rw [sm b w e] at q; cases q)⟩
  · by_cases hb : b = a
    · subst hb; rw [upd_same] at e; cases e; exact x2
    · rw [upd_ne hb] at e; exact r.sub b w e
  · by_cases hj : i = j
    · subst hj
      have := set_self e
      cases this
      exact ⟨.ref a, x1, (x4.mono (Le.of sm)).rep upd_same⟩
    · rw [List.getElem?_set_ne hj] at e
      obtain ⟨v, e1, e2⟩ := r.val j d' e
      exact ⟨v, e1, Rep.mono (Le.of sm) _ _ e2⟩
  · obtain ⟨n, h⟩ := old j m2 e
    obtain ⟨b, w, e1, e2, e3, e4⟩ := r.obj j m2 h
    have hb : b ≠ a := fun z => by
      subst z
      exact n (r.dis j i m2 m b h ⟨_, hs, rfl⟩ e1 x1)
    exact ⟨b, w, e1, e2, by rw [upd_ne hb]; exact e3, e4.mono (Le.of sm)⟩
  · exact r.dis j k m2 m3 b (old j m2 e1).2 (old k m3 e2).2 e3 e4
  · by_cases hb : b = a
    · subst hb; exact .inr (.inr ⟨i, m, hs, x1⟩)
    · rw [upd_ne hb] at h; exact .inl h
  · have hj : i ≠ j := fun z => by
      subst z
      rw [hs] at h
      cases h
    rw [List.getElem?_set_ne hj]
    exact ⟨⟨m2, h⟩, rfl⟩
  · by_cases hj : i = j
    · subst hj
      have := set_self h
      cases this
    · rw [List.getElem?_set_ne hj] at h
      exact ⟨m2, h⟩
  · obtain ⟨j, m2, e1, e2⟩ := h
    have hj : i ≠ j := fun z => by
      subst z
      have := set_self e1
      cases this
    rw [List.getElem?_set_ne hj] at e1
    exact .inl ⟨j, m2, e1, e2⟩
end
end Mir

namespace Mir
open PySem PySem.Spec PyProof.Rows L2

/-! ## what a piece of the text computes -/
inductive Ex where
  | own (C : Str) (fs : List (Str × D)) | bi (n : String)
def RepX (K : PySem.W.Frag) (S : Hp) : Ex → Value → Option Addr → Hp → Prop
  | .own C fs, cls, dd, _ => ∃ Ca, ClsN K C Ca ∧ cls = .ref Ca ∧ ∃ d kvs, dd = some d ∧ S d = some (.xd kvs) ∧ RepF K S fs kvs
  | .bi n, cls, _, _ => cls = .type n
inductive Res (α : Type) where
  | ok (a : α) | ex (x : Ex)
abbrev EF (α : Type) := ME → Option (Res α × ME)
section
variable {α β γ : Type}
def eRet (a : α) : EF α := fun e => some (.ok a, e)
def eLift (o : Option (Res α)) : EF α := fun e => match o with
  | some r => some (r, e)
  | none => none
def eBind (f : EF α) (g : α → EF β) : EF β := fun e => match f e with
  | some (.ok a, e1) => g a e1
  | some (.ex x, e1) => some (.ex x, e1)
  | none => none
end
/-- what is handed on: a deep value, or the object of a slot -/
inductive AV where
  | d (d : D) | own (i : Nat)
def RA (K : PySem.W.Frag) (σ : St) (S : Hp) : AV → V → Prop
  | .d d, v => Rep K S d v
  | .own i, v => σ[i]? = some (some v)
def RAs (K : PySem.W.Frag) (σ : St) (S : Hp) : List AV → List V → Prop
  | [], vs => vs = []
  | a :: as, vs => ∃ v r, vs = v :: r ∧ RA K σ S a v ∧ RAs K σ S as r
theorem RA.mono {K : PySem.W.Frag} {σ : St} {S S2 : Hp} (x : Le S S2) {a : AV} {v : V} (h : RA K σ S a v) : RA K σ S2 a v := by
  cases a with
  | d d => exact Rep.mono x d v h
  | own i => exact h
theorem RAs.mono {K : PySem.W.Frag} {σ : St} {S S2 : Hp} (x : Le S S2) : ∀ {as : List AV} {vs : List V}, RAs K σ S as vs → RAs K σ S2 as vs
  | [], _, h => h
  | a :: as, _, h => by
    obtain ⟨v, r, e, p, q⟩ := h
    exact ⟨v, r, e, p.mono x, RAs.mono x q⟩

abbrev RR (α β : Type) := St → Hp → α → β → Prop
def RD (K : PySem.W.Frag) : RR D V := fun _ S d v => Rep K S d v
def RAv (K : PySem.W.Frag) : RR AV V := fun σ S d v => RA K σ S d v
def RAl (K : PySem.W.Frag) : RR (List AV) (List V) := fun σ S d v => RAs K σ S d v
def RB : RR Bool Bool := fun _ _ a b => a = b

def Post {α β : Type} (K : PySem.W.Frag) (W : WX) (R : RR α β) (σ : St) (Q : β → Hp → Prop) : Res α → Hp → Hp → Prop
  | .ok a, S', H' => ∀ b, R σ S' a b → Q b H'
  | .ex x, S', H' => ∀ cls dd, RepX K S' x cls dd H' → W cls dd σ H'
def At {α β : Type} (K : PySem.W.Frag) (W : WX) (R : RR α β) (f : EF α) (S : Hp) (env : ME) (σ : St) (H : Hp) (Q : β → Hp → Prop) : Prop :=
  ∃ r env', Rel K S env σ H ∧ f env = some (r, env') ∧ ∀ S' H', Step K S env σ H S' env' σ H' → Post K W R σ Q r S' H'
def tr {α β : Type} (K : PySem.W.Frag) (W : WX) (R : RR α β) (f : EF α) : St → Hp → (β → Hp → Prop) → Prop := fun σ H Q => ∃ S env, At K W R f S env σ H Q

section
variable {α β α' β' : Type} {K : PySem.W.Frag} {W : WX} {R : RR α β} {R' : RR α' β'} {S S1 : Hp} {env env1 : ME} {σ : St} {H H1 : Hp} {f : EF α} {g : α → EF α'} {Q : β → Hp → Prop} {Q' : β' → Hp → Prop}
theorem At.rel (h : At K W R f S env σ H Q) : Rel K S env σ H := h.elim fun _ h => h.elim fun _ h => h.1
theorem At.bind (h : At K W R' (eBind f g) S env σ H Q') :
    At K W R f S env σ H (fun b H1 => ∃ a S1 env1, R σ S1 a b ∧ Step K S env σ H S1 env1 σ H1 ∧ At K W R' (g a) S1 env1 σ H1 Q') := by
  obtain ⟨r, env', rel, e, q⟩ := h
  unfold eBind at e
  cases ef : f env with
  | none => rw [ef] at e; cases e
  | some p =>
    obtain ⟨r1, e1⟩ := p
    rw [ef] at e
    cases r1 with
    | ex x =>
      have e' : some (Res.ex x, e1) = some (r, env') := e
      cases e'
      exact ⟨.ex x, _, rel, ef, fun S' H' st => q S' H' st⟩
    | ok a =>
      have e' : g a e1 = some (r, env') := e
      refine ⟨.ok a, e1, rel, ef, fun S1 H1 st b rb => ⟨a, S1, e1, rb, st, r, env', st.rel, e', fun S' H' st' => q S' H' (st.trans st')⟩⟩
theorem At.ret {a : α} (h : At K W R (eRet a) S env σ H Q) {b : β} (rb : R σ S a b) : Q b H := by
  obtain ⟨r, env', rel, e, q⟩ := h
  cases e
  exact q S H rel.step b rb
/-- a step of the heap ahead of the end -/
theorem At.ret' {a : α} (h : At K W R (eRet a) S env σ H Q) {b : β} (st : Step K S env σ H S1 env σ H1) (rb : R σ S1 a b) : Q b H1 := by
  obtain ⟨r, env', rel, e, q⟩ := h
  cases e
  exact q S1 H1 st b rb
theorem At.lift {o : Option (Res α)} (h : At K W R (eLift o) S env σ H Q) : ∃ r, o = some r ∧ ∀ S' H', Step K S env σ H S' env σ H' → Post K W R σ Q r S' H' := by
  obtain ⟨r, env', rel, e, q⟩ := h
  unfold eLift at e
  cases o with
  | none => cases e
  | some r' => cases e; exact ⟨r, rfl, q⟩
theorem At.imp (h : At K W R f S env σ H Q) {Q2 : β → Hp → Prop} (hq : ∀ b H', Q b H' → Q2 b H') : At K W R f S env σ H Q2 := by
  obtain ⟨r, env', rel, e, q⟩ := h
  refine ⟨r, env', rel, e, fun S' H' st => ?_⟩
  have := q S' H' st
  cases r with
  | ok a => exact fun b rb => hq b H' (this b rb)
  | ex x => exact this
end

/-! ## the judgements -/
section
variable {X : Cx}
theorem pe_imp {e : Expr} {t t' : TE} (h : PE X e t) (w : ∀ σ H Q, t' σ H Q → t σ H Q) : PE X e t' := ⟨fun pins s σ H Q I q => h.run pins s σ H Q I (w σ H Q q)⟩
theorem pt_imp {e : Expr} {t t' : TT} (h : PT X e t) (w : ∀ σ H Q, t' σ H Q → t σ H Q) : PT X e t' := ⟨fun pins s σ H Q I q => h.run pins s σ H Q I (w σ H Q q)⟩
theorem pw_imp {e : Expr} {t t' : TT} (h : PW X e t) (w : ∀ σ H Q, t' σ H Q → t σ H Q) : PW X e t' := ⟨fun wh pins s σ H Q I q => h.run wh pins s σ H Q I (w σ H Q q)⟩
theorem pa_imp {e : List Expr} {t t' : TA} (h : PA X e t) (w : ∀ σ H Q, t' σ H Q → t σ H Q) : PA X e t' := ⟨fun pos pins s σ H Q I q => h.run pos pins s σ H Q I (w σ H Q q)⟩
theorem ps_imp {e : Stmt} {t t' : TS} (h : PS X e t) (w : ∀ D σ H, t' D σ H → t D σ H) : PS X e t' := ⟨fun pins s σ H D I q => h.run pins s σ H D I (w D σ H q)⟩
theorem pss_imp {e : List Stmt} {t t' : TS} (h : PSs X e t) (w : ∀ D σ H, t' D σ H → t D σ H) : PSs X e t' := ⟨fun pins s σ H D I q => h.run pins s σ H D I (w D σ H q)⟩
end
/-- an expression: its deep value -/
def DE (X : Cx) (W : WX) (e : Expr) (f : EF D) : Prop := PE X e (tr X.K W (RD X.K) f)
/-- .. what may be handed on -/
def DV (X : Cx) (W : WX) (e : Expr) (f : EF AV) : Prop := PE X e (tr X.K W (RAv X.K) f)
def DT (X : Cx) (W : WX) (e : Expr) (f : EF Bool) : Prop := PT X e (tr X.K W RB f)
def DW (X : Cx) (W : WX) (e : Expr) (f : EF Bool) : Prop := PW X e (tr X.K W RB f)
def DA (X : Cx) (W : WX) (es : List Expr) (f : EF (List AV)) : Prop := PA X es (tr X.K W (RAl X.K) f)

section
variable {X : Cx} {W : WX}
/-! ### names, constants -/
def eVar (i : Nat) : EF D := fun e => match e[i]? with
  | some (some (.v d)) => some (.ok d, e)
  | _ => none
def eName (i : Nat) : EF AV := fun e => match e[i]? with
  | some (some (.v d)) => some (.ok (.d d), e)
  | some (some (.o _)) => some (.ok (.own i), e)
  | some (some (.b _)) => some (.ok (.own i), e)
  | _ => none
theorem de_var (i : Nat) {x : Str} {pos : Pos} (hN : X.N[i]? = some x := by rfl) (hv : Vis X.env.scope x := by first | exact Or.inl rfl | exact Or.inr (Or.inl rfl) | exact Or.inr (Or.inr rfl))
    (hd : (x == ("__debug__" : Str)) = false := by decide) (hcd : (x == ("__classdict__" : Str)) = false := by decide) : DE X W (.Name x pos) (eVar i) := by
  refine pe_imp (pe_var hN hv hd hcd) ?_
  rintro σ H Q ⟨S, env, r, env', rel, e, q⟩
  unfold eVar at e
  split at e
  · rename_i d hd
    cases e
    obtain ⟨v, e1, e2⟩ := rel.val i d hd
    exact ⟨v, e1, q S H rel.step v e2⟩
  · cases e
theorem dv_name (i : Nat) {x : Str} {pos : Pos} (hN : X.N[i]? = some x := by rfl) (hv : Vis X.env.scope x := by first | exact Or.inl rfl | exact Or.inr (Or.inl rfl) | exact Or.inr (Or.inr rfl))
    (hd : (x == ("__debug__" : Str)) = false := by decide) (hcd : (x == ("__classdict__" : Str)) = false := by decide) : DV X W (.Name x pos) (eName i) := by
  refine pe_imp (pe_var hN hv hd hcd) ?_
  rintro σ H Q ⟨S, env, r, env', rel, e, q⟩
  unfold eName at e
  split at e
  · rename_i d hd
    cases e
    obtain ⟨v, e1, e2⟩ := rel.val i d hd
    exact ⟨v, e1, q S H rel.step v e2⟩
  · rename_i m hm
    cases e
    obtain ⟨a, o, e1, _⟩ := rel.obj i m ⟨_, hm, rfl⟩
    exact ⟨.ref a, e1, q S H rel.step (.ref a) e1⟩
  · rename_i m hm
    cases e
    obtain ⟨a, o, e1, _⟩ := rel.obj i m ⟨_, hm, rfl⟩
    exact ⟨.ref a, e1, q S H rel.step (.ref a) e1⟩
  · cases e
theorem de_const {e : Expr} {v : V} {d : D} (h : PE X e (tC v)) (r : ∀ S, Rep X.K S d v) : DE X W e (eRet d) := by
  refine pe_imp h ?_
  rintro σ H Q ⟨S, env, a⟩
  exact a.ret (r S)
theorem de_int {i j pos} : DE X W (.Constant (.int i) j pos) (eRet (.int i)) := de_const pe_int fun _ => rfl
theorem de_bl {b j pos} : DE X W (.Constant (.bool b) j pos) (eRet (.bl b)) := de_const pe_bl fun _ => rfl
theorem de_non {j pos} : DE X W (.Constant .none j pos) (eRet .non) := de_const pe_non fun _ => rfl
theorem de_str {x : Str} {j pos} (h : x.length ≤ sizeLine := by decide) : DE X W (.Constant (.str x) j pos) (eRet (.str x)) := de_const pe_str fun _ => ⟨rfl, h⟩
/-- a constant of the module -/
theorem de_gl {x : Str} {d : D} {v : V} {pos : Pos} (h : ∃ u, X.mg x = some u ∧ RelV v u) (r : ∀ S, Rep X.K S d v) (hg : Gl X x := by rfl) (hd : (x == ("__debug__" : Str)) = false := by decide) : DE X W (.Name x pos) (eRet d) := by
  obtain ⟨u, h1, h2⟩ := h
  exact de_const (pe_glob hg h1 h2 hd) r
theorem de_gint {x : Str} {i : Int} {pos : Pos} (h : ∃ t, X.mg x = some (.int i t)) (hg : Gl X x := by rfl) (hd : (x == ("__debug__" : Str)) = false := by decide) : DE X W (.Name x pos) (eRet (.int i)) :=
  de_gl (v := .int i) (h.elim fun t h => ⟨_, h, t, rfl⟩) (fun _ => rfl) hg hd
theorem de_gstr {x z : Str} {pos : Pos} (h : ∃ t, X.mg x = some (.str z t)) (hz : z.length ≤ sizeLine := by decide) (hg : Gl X x := by rfl) (hd : (x == ("__debug__" : Str)) = false := by decide) : DE X W (.Name x pos) (eRet (.str z)) :=
  de_gl (v := .str z) (h.elim fun t h => ⟨_, h, t, rfl⟩) (fun _ => ⟨rfl, hz⟩) hg hd
/-- a deep value handed on -/
def eD (f : EF D) : EF AV := eBind f fun d => eRet (.d d)
theorem dv_of {e : Expr} {f : EF D} (h : DE X W e f) : DV X W e (eD f) := by
  refine pe_imp h ?_
  rintro σ H Q ⟨S, env, a⟩
  exact ⟨S, env, (At.bind (R := RD X.K) a).imp fun v H' ⟨d, S1, e1, r, st, a1⟩ => a1.ret r⟩
/-! ### two in a row -/
def e2 {α β γ : Type} (fa : EF α) (fb : EF β) (g : α → β → EF γ) : EF γ := eBind fa fun x => eBind fb fun y => g x y
theorem de_op {op : Operator} {r : R2} {a b : Expr} {fa fb : EF AV} {g : AV → AV → EF D} {pos : Pos} (ho : OpR X (binaryOp op) r) (ha : DV X W a fa) (hb : DV X W b fb)
    (h : ∀ S env σ H Q x y vx vy, RA X.K σ S x vx → RA X.K σ S y vy → At X.K W (RD X.K) (g x y) S env σ H Q → r vx vy H Q) : DE X W (.BinOp a op b pos) (e2 fa fb g) := by
  refine pe_imp (pe_op ho ha hb) ?_
  rintro σ H Q ⟨S, env, z⟩
  refine ⟨S, env, (At.bind (R := RAv X.K) z).imp fun vx H1 ⟨x, S1, e1, rx, st, z1⟩ => ?_⟩
  refine ⟨S1, e1, (At.bind (R := RAv X.K) z1).imp fun vy H2 ⟨y, S2, e2, ry, st2, z2⟩ => ?_⟩
  exact h S2 e2 σ H2 Q x y vx vy (rx.mono st2.le) ry z2
theorem de_cmp {op : CmpOp} {r : R2} {a b : Expr} {fa fb : EF AV} {g : AV → AV → EF D} {pos : Pos} (ho : OpR X (compareOp op) r) (hm : behindInMarks op b = false) (ha : DV X W a fa) (hb : DV X W b fb)
    (h : ∀ S env σ H Q x y vx vy, RA X.K σ S x vx → RA X.K σ S y vy → At X.K W (RD X.K) (g x y) S env σ H Q → r vx vy H Q) : DE X W (.Compare a [op] [b] pos) (e2 fa fb g) := by
  refine pe_imp (pe_cmpR ho ha hb hm) ?_
  rintro σ H Q ⟨S, env, z⟩
  refine ⟨S, env, (At.bind (R := RAv X.K) z).imp fun vx H1 ⟨x, S1, e1, rx, st, z1⟩ => ?_⟩
  refine ⟨S1, e1, (At.bind (R := RAv X.K) z1).imp fun vy H2 ⟨y, S2, e2, ry, st2, z2⟩ => ?_⟩
  exact h S2 e2 σ H2 Q x y vx vy (rx.mono st2.le) ry z2
/-! ### tests -/
def asB : D → EF Bool
  | .bl b => eRet b
  | _ => fun _ => none
def eT (f : EF D) : EF Bool := eBind f asB
theorem asB_of {K : PySem.W.Frag} {R : RR Bool Bool} {d : D} {v : V} {S : Hp} {env : ME} {σ : St} {H : Hp} {Q : Bool → Hp → Prop} (r : Rep K S d v) (z : At K W RB (asB d) S env σ H Q) : ∃ c, v = .bl c ∧ Q c H := by
  cases d with
  | bl b => exact ⟨b, r, At.ret (R := RB) z rfl⟩
  | _ =>
    obtain ⟨_, _, _, e, _⟩ := z
    cases e
theorem dt_val {e : Expr} {f : EF D} (h : DE X W e f) (he : ∀ whole, isTrue e X.env whole = (do let v ← whole; standAt e.pos; holding [v] (truthy v)) := by intro _; rfl) : DT X W e (eT f) := by
  refine pt_imp (pt_val h he) ?_
  rintro σ H Q ⟨S, env, z⟩
  exact ⟨S, env, (At.bind (R := RD X.K) z).imp fun v H1 ⟨d, S1, e1, r, st, z1⟩ => asB_of (R := RB) r z1⟩
theorem dt_cmp {op : CmpOp} {r : R2} {a b : Expr} {fa fb : EF AV} {g : AV → AV → EF D} {pos : Pos} (ho : OpR X (compareOp op) r) (hm : behindInMarks op b = false) (ha : DV X W a fa) (hb : DV X W b fb)
    (h : ∀ S env σ H Q x y vx vy, RA X.K σ S x vx → RA X.K σ S y vy → At X.K W (RD X.K) (g x y) S env σ H Q → r vx vy H Q) : DT X W (.Compare a [op] [b] pos) (eT (e2 fa fb g)) := by
  refine pt_imp (pt_cmpR ho ha hb hm) ?_
  rintro σ H Q ⟨S, env, z⟩
  have z0 := At.bind (R := RD X.K) z
  refine ⟨S, env, (At.bind (R := RAv X.K) z0).imp fun vx H1 ⟨x, S1, e1, rx, st, z1⟩ => ?_⟩
  refine ⟨S1, e1, (At.bind (R := RAv X.K) z1).imp fun vy H2 ⟨y, S2, e2, ry, st2, z2⟩ => ?_⟩
  exact h S2 e2 σ H2 _ x y vx vy (rx.mono st2.le) ry (z2.imp fun v H' ⟨d, S1, e1, r, st, z1⟩ => asB_of (R := RB) r z1)
def eAnd (f g : EF Bool) : EF Bool := eBind f fun b => match b with
  | true => g
  | false => eRet false
def eOr (f g : EF Bool) : EF Bool := eBind f fun b => match b with
  | true => eRet true
  | false => g
def eNot (f : EF Bool) : EF Bool := eBind f fun b => eRet (!b)
theorem dt_not {a : Expr} {f : EF Bool} {pos : Pos} (h : DT X W a f) : DT X W (.UnaryOp .Not a pos) (eNot f) := by
  refine pt_imp (pt_not h) ?_
  rintro σ H Q ⟨S, env, z⟩
  exact ⟨S, env, (At.bind (R := RB) z).imp fun v H1 ⟨d, S1, e1, r, st, z1⟩ => by
    have r' : d = v := r
    subst r'
    exact z1.ret rfl⟩
theorem dw_and1 {a : Expr} {f : EF Bool} {pos : Pos} (h : DT X W a f) : DW X W (.BoolOp .And [a] pos) f := pw_and1 h
theorem dw_or1 {a : Expr} {f : EF Bool} {pos : Pos} (h : DT X W a f) : DW X W (.BoolOp .Or [a] pos) f := pw_or1 h
theorem dw_and {a b : Expr} {rest : List Expr} {f g : EF Bool} {pos : Pos} (ha : DT X W a f) (hb : DW X W (.BoolOp .And (b :: rest) pos) g) : DW X W (.BoolOp .And (a :: b :: rest) pos) (eAnd f g) := by
  refine pw_imp (pw_and ha hb) ?_
  rintro σ H Q ⟨S, env, z⟩
  refine ⟨S, env, (At.bind (R := RB) z).imp fun v H1 ⟨d, S1, e1, r, st, z1⟩ => ?_⟩
  have r' : d = v := r
  subst r'
  cases d with
  | true => exact ⟨S1, e1, z1⟩
  | false => exact z1.ret rfl
theorem dw_or {a b : Expr} {rest : List Expr} {f g : EF Bool} {pos : Pos} (ha : DT X W a f) (hb : DW X W (.BoolOp .Or (b :: rest) pos) g) : DW X W (.BoolOp .Or (a :: b :: rest) pos) (eOr f g) := by
  refine pw_imp (pw_or ha hb) ?_
  rintro σ H Q ⟨S, env, z⟩
  refine ⟨S, env, (At.bind (R := RB) z).imp fun v H1 ⟨d, S1, e1, r, st, z1⟩ => ?_⟩
  have r' : d = v := r
  subst r'
  cases d with
  | true => exact z1.ret rfl
  | false => exact ⟨S1, e1, z1⟩
theorem dt_w {e : Expr} {f : EF Bool} (h : DW X W e f) : DT X W e f := PW.pt h
/-! .. as values -/
def eAndV (f g : EF D) : EF D := eBind f fun d => match d with
  | .bl true => g
  | .bl false => eRet (.bl false)
  | _ => fun _ => none
def eOrV (f g : EF D) : EF D := eBind f fun d => match d with
  | .bl true => eRet (.bl true)
  | .bl false => g
  | _ => fun _ => none
def eNotV (f : EF D) : EF D := eBind f fun d => match d with
  | .bl b => eRet (.bl (!b))
  | _ => fun _ => none
theorem de_one {op} {a : Expr} {f : EF D} {pos : Pos} (h : DE X W a f) : DE X W (.BoolOp op [a] pos) f := pe_one h
theorem de_and {a b : Expr} {rest : List Expr} {f g : EF D} {pos : Pos} (ha : DE X W a f) (hb : DE X W (.BoolOp .And (b :: rest) pos) g) : DE X W (.BoolOp .And (a :: b :: rest) pos) (eAndV f g) := by
  refine pe_imp (pe_and ha hb) ?_
  rintro σ H Q ⟨S, env, z⟩
  refine ⟨S, env, (At.bind (R := RD X.K) z).imp fun v H1 ⟨d, S1, e1, r, st, z1⟩ => ?_⟩
  cases d with
  | bl c =>
    refine ⟨c, r, ?_⟩
    cases c with
    | true => exact ⟨S1, e1, z1⟩
    | false => exact z1.ret rfl
  | _ =>
    obtain ⟨_, _, _, e, _⟩ := z1
    cases e
theorem de_or {a b : Expr} {rest : List Expr} {f g : EF D} {pos : Pos} (ha : DE X W a f) (hb : DE X W (.BoolOp .Or (b :: rest) pos) g) : DE X W (.BoolOp .Or (a :: b :: rest) pos) (eOrV f g) := by
  refine pe_imp (pe_or ha hb) ?_
  rintro σ H Q ⟨S, env, z⟩
  refine ⟨S, env, (At.bind (R := RD X.K) z).imp fun v H1 ⟨d, S1, e1, r, st, z1⟩ => ?_⟩
  cases d with
  | bl c =>
    refine ⟨c, r, ?_⟩
    cases c with
    | true => exact z1.ret rfl
    | false => exact ⟨S1, e1, z1⟩
  | _ =>
    obtain ⟨_, _, _, e, _⟩ := z1
    cases e
theorem de_not {a : Expr} {f : EF D} {pos : Pos} (h : DE X W a f) : DE X W (.UnaryOp .Not a pos) (eNotV f) := by
  refine pe_imp (pe_not h) ?_
  rintro σ H Q ⟨S, env, z⟩
  refine ⟨S, env, (At.bind (R := RD X.K) z).imp fun v H1 ⟨d, S1, e1, r, st, z1⟩ => ?_⟩
  cases d with
  | bl c => exact ⟨c, r, z1.ret rfl⟩
  | _ =>
    obtain ⟨_, _, _, e, _⟩ := z1
    cases e
def eIf {α : Type} (t : EF Bool) (f g : EF α) : EF α := eBind t fun b => match b with
  | true => f
  | false => g
theorem de_if {c a b : Expr} {t : EF Bool} {f g : EF D} {pos : Pos} (hc : DT X W c t) (ha : DE X W a f) (hb : DE X W b g) : DE X W (.IfExp c a b pos) (eIf t f g) := by
  refine pe_imp (pe_ifExp hc ha hb) ?_
  rintro σ H Q ⟨S, env, z⟩
  refine ⟨S, env, (At.bind (R := RB) z).imp fun v H1 ⟨d, S1, e1, r, st, z1⟩ => ?_⟩
  have r' : d = v := r
  subst r'
  cases d with
  | true => exact iteT ⟨S1, e1, z1⟩
  | false => exact iteF ⟨S1, e1, z1⟩
/-! ### arguments -/
def eCons (f : EF AV) (g : EF (List AV)) : EF (List AV) := eBind f fun x => eBind g fun y => eRet (x :: y)
end
end Mir

namespace Mir
open PySem PySem.Spec PyProof.Rows L2

/-! ## objects lent to a callee -/
def ixs : List AV → List Nat
  | [] => []
  | .d _ :: r => ixs r
  | .own i :: r => i :: ixs r
def lend (env : ME) : List AV → Option (List Sl)
  | [] => some []
  | .d d :: r => match lend env r with
    | some q => some (.v d :: q)
    | none => none
  | .own i :: r => match env[i]? with
    | some (some s) => match s.mo with
      | some m => match lend env r with
        | some q => some (.b m :: q)
        | none => none
      | none => none
    | _ => none
def putB (env : ME) : List AV → List Sl → ME
  | [], _ => env
  | .d _ :: r, _ :: q => putB env r q
  | .own i :: r, .b m :: q => match env[i]? with
    | some (some s) => (putB env r q).set i (some (s.put m))
    | _ => putB env r q
  | .own _ :: r, _ :: q => putB env r q
  | _ :: _, [] => env
theorem putB_len (env : ME) : ∀ (as : List AV) (q : List Sl), (putB env as q).length = env.length
  | [], q => rfl
  | .d _ :: r, [] => rfl
  | .own _ :: r, [] => rfl
  | .d _ :: r, _ :: q => putB_len env r q
  | .own i :: r, .b m :: q => by
    unfold putB
    split
    · rw [List.length_set]; exact putB_len env r q
    · exact putB_len env r q
  | .own i :: r, .v _ :: q => putB_len env r q
  | .own i :: r, .o _ :: q => putB_len env r q
theorem putB_ne {env : ME} {i : Nat} : ∀ {as : List AV} {q : List Sl}, i ∉ ixs as → (putB env as q)[i]? = env[i]?
  | [], q, h => rfl
  | .d _ :: r, [], h => rfl
  | .own _ :: r, [], h => rfl
  | .d _ :: r, _ :: q, h => putB_ne (as := r) (q := q) h
  | .own j :: r, .b m :: q, h => by
    have h1 : i ≠ j := fun e => h (by unfold ixs; rw [e]; exact List.mem_cons_self)
    have h2 : i ∉ ixs r := fun e => h (by unfold ixs; exact List.mem_cons_of_mem _ e)
    unfold putB
    split
    · rw [List.getElem?_set_ne (Ne.symm h1)]; exact putB_ne h2
    · exact putB_ne h2
  | .own j :: r, .v _ :: q, h => putB_ne (as := r) (q := q) fun e => h (by unfold ixs; exact List.mem_cons_of_mem _ e)
  | .own j :: r, .o _ :: q, h => putB_ne (as := r) (q := q) fun e => h (by unfold ixs; exact List.mem_cons_of_mem _ e)
theorem putB_at {env : ME} {i : Nat} {s : Sl} {m : MO} (hs : env[i]? = some (some s)) : ∀ {as : List AV} {q : List Sl} {j : Nat}, (ixs as).Nodup → as[j]? = some (.own i) → q[j]? = some (.b m) → (putB env as q)[i]? = some (some (s.put m))
  | [], q, j, h, h1, h2 => by simp at h1
  | _ :: r, [], j, h, h1, h2 => by simp at h2
  | a :: r, x :: q, 0, h, h1, h2 => by
    simp at h1 h2
    subst h1
    subst h2
    unfold putB
    rw [hs]
    exact List.getElem?_set_self (by rw [putB_len]; exact lt_of_at hs)
  | a :: r, x :: q, j + 1, h, h1, h2 => by
    simp only [List.getElem?_cons_succ] at h1 h2
    have hr : (ixs r).Nodup := by
      cases a with
      | d d => exact h
      | own k => exact (List.nodup_cons.mp h).2
    have ih := putB_at hs (as := r) (q := q) (j := j) hr h1 h2
    cases a with
    | d d => exact ih
    | own k =>
      have hm : ∀ {l : List AV} {n : Nat}, l[n]? = some (.own i) → i ∈ ixs l := by
        intro l
        induction l with
        | nil => intro n h; simp at h
        | cons y l ihl =>
          intro n h
          cases n with
          | zero => simp at h; subst h; unfold ixs; exact List.mem_cons_self
          | succ n =>
            simp only [List.getElem?_cons_succ] at h
            have := ihl h
            cases y with
            | d d => exact this
            | own z => unfold ixs; exact List.mem_cons_of_mem _ this
      have hk : k ≠ i := fun e => (List.nodup_cons.mp h).1 (e ▸ hm h1)
      cases x with
      | v d => exact ih
      | o z => exact ih
      | b z =>
        unfold putB
        split
        · rw [List.getElem?_set_ne hk]; exact ih
        · exact ih
theorem mem_ixs {i : Nat} : ∀ {l : List AV}, i ∈ ixs l → ∃ n : Nat, l[n]? = some (AV.own i)
  | [], h => by cases h
  | .d d :: l, h => by
    obtain ⟨n, e⟩ := mem_ixs (l := l) h
    exact ⟨n + 1, by simpa using e⟩
  | .own k :: l, h => by
    unfold ixs at h
    rcases List.mem_cons.mp h with e | h
    · exact ⟨0, by simp [e]⟩
    · obtain ⟨n, e⟩ := mem_ixs (l := l) h
      exact ⟨n + 1, by simpa using e⟩
theorem nodup_ixs {i : Nat} : ∀ {l : List AV} {j k : Nat}, (ixs l).Nodup → l[j]? = some (.own i) → l[k]? = some (.own i) → j = k := by
  intro l
  induction l with
  | nil => intro j k _ h; simp at h
  | cons a l ih =>
    intro j k hn h1 h2
    have mem : ∀ {n : Nat}, l[n]? = some (.own i) → i ∈ ixs l := by
      intro n h
      clear ih hn h1 h2
      induction l generalizing n with
      | nil => simp at h
      | cons y l ihl =>
        cases n with
        | zero => simp at h; subst h; unfold ixs; exact List.mem_cons_self
        | succ n =>
          simp only [List.getElem?_cons_succ] at h
          have := ihl h
          cases y with
          | d d => exact this
          | own z => unfold ixs; exact List.mem_cons_of_mem _ this
    cases a with
    | d d =>
      cases j with
      | zero => simp at h1
      | succ j =>
        cases k with
        | zero => simp at h2
        | succ k =>
          simp only [List.getElem?_cons_succ] at h1 h2
          rw [ih hn h1 h2]
    | own z =>
      have hn' := List.nodup_cons.mp hn
      cases j with
      | zero =>
        cases k with
        | zero => rfl
        | succ k =>
          simp at h1
          simp only [List.getElem?_cons_succ] at h2
          exact absurd (mem h2) (h1 ▸ hn'.1)
      | succ j =>
        cases k with
        | zero =>
          simp at h2
          simp only [List.getElem?_cons_succ] at h1
          exact absurd (mem h1) (h2 ▸ hn'.1)
        | succ k =>
          simp only [List.getElem?_cons_succ] at h1 h2
          rw [ih hn'.2 h1 h2]
/-- what a lent list says of its places -/
theorem lend_at {env : ME} : ∀ {as : List AV} {sl : List Sl}, lend env as = some sl → sl.length = as.length ∧ ∀ (j : Nat) (s : Sl), sl[j]? = some s → (∃ d, s = .v d ∧ as[j]? = some (.d d)) ∨ ∃ i m, s = .b m ∧ as[j]? = some (.own i) ∧ Has env i m
  | [], sl, h => by
    cases h
    exact ⟨rfl, fun j s h => by simp at h⟩
  | .d d :: r, sl, h => by
    unfold lend at h
    cases e : lend env r with
    | none => rw [e] at h; cases h
    | some q =>
      rw [e] at h
      cases h
      obtain ⟨h1, h2⟩ := lend_at e
      refine ⟨by simp [h1], fun j s hs => ?_⟩
      cases j with
      | zero => simp at hs; exact .inl ⟨d, hs.symm, rfl⟩
      | succ j => simp only [List.getElem?_cons_succ] at hs ⊢; exact h2 j s hs
  | .own i :: r, sl, h => by
    unfold lend at h
    split at h
    · rename_i s hs
      split at h
      · rename_i m hm
        cases e : lend env r with
        | none => rw [e] at h; cases h
        | some q =>
          rw [e] at h
          cases h
          obtain ⟨h1, h2⟩ := lend_at e
          refine ⟨by simp [h1], fun j s' hs' => ?_⟩
          cases j with
          | zero => simp at hs'; exact .inr ⟨i, m, hs'.symm, rfl, s, hs, hm⟩
          | succ j => simp only [List.getElem?_cons_succ] at hs' ⊢; exact h2 j s' hs'
      · cases h
    · cases h
theorem RAs.len {K : PySem.W.Frag} {σ : St} {S : Hp} : ∀ {as : List AV} {vs : List V}, RAs K σ S as vs → as.length = vs.length
  | [], _, h => by cases h; rfl
  | a :: as, _, h => by
    obtain ⟨v, r, e, p, q⟩ := h
    subst e
    simp [RAs.len q]
theorem RAs.at {K : PySem.W.Frag} {σ : St} {S : Hp} : ∀ {as : List AV} {vs : List V} {j : Nat} {a : AV}, RAs K σ S as vs → as[j]? = some a → ∃ v, vs[j]? = some v ∧ RA K σ S a v
  | [], _, j, a, h, e => by simp at e
  | x :: as, _, 0, a, h, e => by
    obtain ⟨v, r, e1, p, q⟩ := h
    subst e1
    simp at e
    subst e
    exact ⟨v, rfl, p⟩
  | x :: as, _, j + 1, a, h, e => by
    obtain ⟨v, r, e1, p, q⟩ := h
    subst e1
    simp only [List.getElem?_cons_succ] at e ⊢
    exact RAs.at q e
theorem map_at {α : Type} {l : List α} {j : Nat} {x : Option α} (h : (l.map some)[j]? = some x) : ∃ y, x = some y ∧ l[j]? = some y := by
  rw [List.getElem?_map] at h
  cases e : l[j]? with
  | none => rw [e] at h; cases h
  | some y => rw [e] at h; cases h; exact ⟨y, rfl, rfl⟩
theorem map_at' {α : Type} {l : List α} {j : Nat} {y : α} (h : l[j]? = some y) : (l.map some)[j]? = some (some y) := by
  rw [List.getElem?_map, h]; rfl

section
variable {K : PySem.W.Frag} {S S' : Hp} {env : ME} {σ : St} {H H' : Hp} {as : List AV} {vs : List V} {sl sl' : List Sl}
/-- the callee's state at its entry -/
theorem Rel.lent (r : Rel K S env σ H) (ra : RAs K σ S as vs) (hl : lend env as = some sl) (hn : (ixs as).Nodup) : Rel K S (sl.map some) (vs.map some) H := by
  obtain ⟨h1, h2⟩ := lend_at hl
  refine ⟨by simp [h1, ra.len], r.sub, fun j d e => ?_, fun j m e => ?_, fun j k m m' a e1 e2 e3 e4 => ?_⟩
  · obtain ⟨s, es, e⟩ := map_at e
    cases es
    rcases h2 j _ e with ⟨d', ed, ea⟩ | ⟨i, m, ed, _⟩
    · cases ed
      obtain ⟨v, ev, rv⟩ := ra.at ea
      exact ⟨v, map_at' ev, rv⟩
    · cases ed
  · obtain ⟨s, e, em⟩ := e
    obtain ⟨s', es, e⟩ := map_at e
    cases es
    rcases h2 j _ e with ⟨d', ed, ea⟩ | ⟨i, m', ed, ea, hh⟩
    · subst ed; cases em
    · subst ed
      cases em
      obtain ⟨v, ev, rv⟩ := ra.at ea
      obtain ⟨a, o, x1, x2, x3, x4⟩ := r.obj i m hh
      have rv' : σ[i]? = some (some v) := rv
      rw [x1] at rv'
      cases rv'
      exact ⟨a, o, map_at' ev, x2, x3, x4⟩
  · have key : ∀ (j : Nat) (m : MO), Has (sl.map some) j m → (vs.map some)[j]? = some (some (.ref a)) → ∃ i m', as[j]? = some (.own i) ∧ Has env i m' ∧ σ[i]? = some (some (.ref a)) := fun j m e ev => by
      obtain ⟨s, e, em⟩ := e
      obtain ⟨s', es, e⟩ := map_at e
      cases es
      rcases h2 j _ e with ⟨d', ed, ea⟩ | ⟨i, m', ed, ea, hh⟩
      · subst ed; cases em
      · obtain ⟨v, ev', rv⟩ := ra.at ea
        have z := map_at' ev'
        rw [ev] at z
        cases z
        exact ⟨i, m', ea, hh, rv⟩
    obtain ⟨i1, m1, a1, b1, c1⟩ := key j m e1 e3
    obtain ⟨i2, m2, a2, b2, c2⟩ := key k m' e2 e4
    have := r.dis i1 i2 m1 m2 a b1 b2 c1 c2
    subst this
    exact nodup_ixs hn a1 a2
theorem put_mo {s : Sl} {m m' : MO} (h : s.mo = some m) : (s.put m').mo = some m' := by
  cases s with
  | v d => cases h
  | o z => rfl
  | b z => rfl
/-- behind the callee -/
theorem Rel.back (r : Rel K S env σ H) (ra : RAs K σ S as vs) (hl : lend env as = some sl) (hn : (ixs as).Nodup)
    (st : Step K S (sl.map some) (vs.map some) H S' (sl'.map some) (vs.map some) H') : Step K S env σ H S' (putB env as sl') σ H' := by
  obtain ⟨h1, h2⟩ := lend_at hl
  have noO : ∀ b, ¬ OwnO (sl.map some) (vs.map some) b := fun b ⟨j, m, e, _⟩ => by
    obtain ⟨s, es, e⟩ := map_at e
    cases es
    rcases h2 j _ e with ⟨d', ed, _⟩ | ⟨i, m', ed, _⟩ <;> cases ed
  -- a lent place behind the call
  have lentP : ∀ (j i : Nat), as[j]? = some (.own i) → ∃ s m m', env[i]? = some (some s) ∧ s.mo = some m ∧ sl[j]? = some (.b m) ∧ sl'[j]? = some (.b m') := fun j i e => by
    have hj : j < sl.length := by rw [h1]; exact lt_of_at e
    have es : sl[j]? = some sl[j] := List.getElem?_eq_getElem hj
    rcases h2 j _ es with ⟨d', ed, ea⟩ | ⟨i', m, ed, ea, s, hs, hm⟩
    · rw [e] at ea; cases ea
    · rw [e] at ea
      cases ea
      rw [ed] at es
      obtain ⟨⟨m', q1⟩, q2⟩ := st.bor j m (map_at' es)
      obtain ⟨z, ez, q1⟩ := map_at q1
      cases ez
      exact ⟨s, m, m', hs, hm, es, q1⟩
  have at' : ∀ (i : Nat), i ∈ ixs as → ∃ (j : Nat) (s : Sl) (m m' : MO), as[j]? = some (AV.own i) ∧ env[i]? = some (some s) ∧ s.mo = some m ∧ sl[j]? = some (Sl.b m) ∧ sl'[j]? = some (Sl.b m') ∧ (putB env as sl')[i]? = some (some (s.put m')) := fun i hi => by
    obtain ⟨j, e⟩ := mem_ixs hi
    obtain ⟨s, m, m', x1, x2, x3, x4⟩ := lentP j i e
    exact ⟨j, s, m, m', e, x1, x2, x3, x4, putB_at x1 hn e x4⟩
  have ownL : ∀ b, Own (sl.map some) (vs.map some) b → ∃ i, i ∈ ixs as ∧ (∃ m, Has env i m) ∧ σ[i]? = some (some (.ref b)) := fun b ⟨j, m, ⟨s, e, em⟩, ev⟩ => by
    obtain ⟨s', es, e⟩ := map_at e
    cases es
    rcases h2 j _ e with ⟨d', ed, ea⟩ | ⟨i, m', ed, ea, hh⟩
    · subst ed; cases em
    · obtain ⟨v, ev', rv⟩ := ra.at ea
      have z := map_at' ev'
      rw [ev] at z
      cases z
      refine ⟨i, ?_, ⟨m', hh⟩, rv⟩
      have mem : ∀ {l : List AV} {n : Nat}, l[n]? = some (.own i) → i ∈ ixs l := by
        intro l
        induction l with
        | nil => intro n h; simp at h
        | cons y l ihl =>
          intro n h
          cases n with
          | zero => simp at h; subst h; unfold ixs; exact List.mem_cons_self
          | succ n =>
            simp only [List.getElem?_cons_succ] at h
            have := ihl h
            cases y with
            | d d => exact this
            | own z => unfold ixs; exact List.mem_cons_of_mem _ this
      exact mem ea
  have ownC : ∀ b, ¬ Own env σ b → ¬ Own (sl.map some) (vs.map some) b := fun b n h => by
    obtain ⟨i, _, ⟨m, hm⟩, e⟩ := ownL b h
    exact n ⟨i, m, hm, e⟩
  have hasOld : ∀ (i : Nat) (m : MO), Has (putB env as sl') i m → ∃ m0, Has env i m0 := fun i m h => by
    by_cases hi : i ∈ ixs as
    · obtain ⟨j, s, m0, m', _, x1, x2, _⟩ := at' i hi
      exact ⟨m0, s, x1, x2⟩
    · obtain ⟨s, e, em⟩ := h
      rw [putB_ne hi] at e
      exact ⟨m, s, e, em⟩
  refine ⟨⟨by rw [putB_len]; exact r.len, st.rel.sub, fun i d e => ?_, fun i m e => ?_, fun j k m m' a e1 e2 e3 e4 => ?_⟩, st.le, fun b h => ?_, fun b o h hS n => st.frame b o h hS (ownC b n), fun i m h => ?_, fun i m h => ?_, fun a h => ?_, rfl, st.keep⟩
  · by_cases hi : i ∈ ixs as
    · obtain ⟨j, s, m0, m', _, x1, x2, _, _, x5⟩ := at' i hi
      rw [x5] at e
      cases s with
      | v d => cases x2
      | o z => cases e
      | b z => cases e
    · rw [putB_ne hi] at e
      obtain ⟨v, e1, e2⟩ := r.val i d e
      exact ⟨v, e1, Rep.mono st.le _ _ e2⟩
  · by_cases hi : i ∈ ixs as
    · obtain ⟨j, s, m0, m', x0, x1, x2, x3, x4, x5⟩ := at' i hi
      obtain ⟨s', e, em⟩ := e
      rw [x5] at e
      cases e
      rw [put_mo x2] at em
      cases em
      obtain ⟨a, o, y1, y2, y3, y4⟩ := st.rel.obj j m ⟨_, map_at' x4, rfl⟩
      obtain ⟨v, ev, rv⟩ := ra.at x0
      have z := map_at' ev
      rw [y1] at z
      cases z
      exact ⟨a, o, rv, y2, y3, y4⟩
    · obtain ⟨s', e, em⟩ := e
      rw [putB_ne hi] at e
      obtain ⟨a, o, y1, y2, y3, y4⟩ := r.obj i m ⟨s', e, em⟩
      have nown : ¬ Own (sl.map some) (vs.map some) a := fun h => by
        obtain ⟨i', hi', ⟨m', hm'⟩, e'⟩ := ownL a h
        have := r.dis i i' m m' a ⟨s', e, em⟩ hm' y1 e'
        subst this
        exact hi hi'
      refine ⟨a, o, y1, st.frame a o y2 y3 nown, ?_, y4.mono st.le⟩
      cases q : S' a with
      | none => rfl
      | some u =>
        exfalso
        rcases st.fresh a (by rw [q]; exact fun z => nomatch z) with z | z | z
        · exact z y3
        · rw [z] at y2; cases y2
        · exact noO a z
  · obtain ⟨m1, h1'⟩ := hasOld j m e1
    obtain ⟨m2, h2'⟩ := hasOld k m' e2
    exact r.dis j k m1 m2 a h1' h2' e3 e4
  · rcases st.fresh b h with z | z | z
    · exact .inl z
    · exact .inr (.inl z)
    · exact absurd z (noO b)
  · refine ⟨?_, rfl⟩
    by_cases hi : i ∈ ixs as
    · obtain ⟨j, s, m0, m', x0, x1, x2, x3, x4, x5⟩ := at' i hi
      rw [h] at x1
      cases x1
      exact ⟨m', x5⟩
    · exact ⟨m, by rw [putB_ne hi]; exact h⟩
  · by_cases hi : i ∈ ixs as
    · obtain ⟨j, s, m0, m', x0, x1, x2, x3, x4, x5⟩ := at' i hi
      rw [x5] at h
      cases s with
      | v d => cases x2
      | o z => cases h
      | b z => exact ⟨z, x1⟩
    · rw [putB_ne hi] at h
      exact ⟨m, h⟩
  · obtain ⟨i, m, e1, e2⟩ := h
    by_cases hi : i ∈ ixs as
    · obtain ⟨j, s, m0, m', x0, x1, x2, x3, x4, x5⟩ := at' i hi
      rw [x5] at e1
      cases s with
      | v d => cases x2
      | o z => exact .inl ⟨i, z, x1, e2⟩
      | b z => cases e1
    · rw [putB_ne hi] at e1
      exact .inl ⟨i, m, e1, e2⟩
end
end Mir

namespace Mir
open PySem PySem.Spec PyProof.Rows L2
section
variable {X : Cx} {W : WX}
/-! ### arguments -/
theorem da_nil : DA X W [] (eRet []) := by
  refine pa_imp pa_nil ?_
  rintro σ H Q ⟨S, env, z⟩
  exact z.ret rfl
theorem da_cons {e : Expr} {es : List Expr} {f : EF AV} {g : EF (List AV)} (ha : DV X W e f) (hr : DA X W es g) (hs : starEach (e :: es) X.env = (false, eval e X.env) :: starEach es X.env := by rfl) : DA X W (e :: es) (eCons f g) := by
  refine pa_imp (pa_cons ha hr hs) ?_
  rintro σ H Q ⟨S, env, z⟩
  refine ⟨S, env, (At.bind (R := RAv X.K) z).imp fun v H1 ⟨x, S1, e1, r1, st1, z1⟩ => ?_⟩
  refine ⟨S1, e1, (At.bind (R := RAl X.K) z1).imp fun vs H2 ⟨xs, S2, e2, r2, st2, z2⟩ => ?_⟩
  exact z2.ret ⟨v, vs, rfl, r1.mono st2.le, r2⟩
end

/-! ### the promise of a def -/
inductive FR where
  | d (d : D) | o (m : MO)
abbrev MF := List Sl → Option (Res FR × List Sl)
def PostF (K : PySem.W.Frag) (Q : VK) (E : XK) : Res FR → Hp → Hp → Prop
  | .ok (.d d), S', H' => ∀ v, Rep K S' d v → Q v H'
  | .ok (.o m), S', H' => ∀ p o, H' p = none → RepO K S' m o → Q (.ref p) (upd H' p o)
  | .ex x, S', H' => ∀ cls dd, RepX K S' x cls dd H' → E cls dd H'
def NoO (as : List Sl) : Prop := ∀ m, Sl.o m ∉ as
def spM (K : PySem.W.Frag) (n : Nat) (mf : MF) : Sp := fun vs H Q E => ∃ S as r as', as.length = n ∧ NoO as ∧ Rel K S (as.map some) (vs.map some) H ∧ mf as = some (r, as') ∧
  ∀ S' H', Step K S (as.map some) (vs.map some) H S' (as'.map some) (vs.map some) H' → PostF K Q E r S' H'

/-! ### a call -/
def eCall (mf : MF) (fas : EF (List AV)) : EF FR := eBind fas fun as => fun env => if (ixs as).Nodup then match lend env as with
  | some sl => match mf sl with
    | some (.ok r, sl') => some (.ok r, putB env as sl')
    | some (.ex x, sl') => some (.ex x, putB env as sl')
    | none => none
  | none => none
  else none
def eFD (f : EF FR) : EF D := eBind f fun r => match r with
  | .d d => eRet d
  | .o _ => fun _ => none
def eFO (f : EF FR) : EF MO := eBind f fun r => match r with
  | .o m => eRet m
  | .d _ => fun _ => none
theorem lend_noO {env : ME} {as : List AV} {sl : List Sl} (h : lend env as = some sl) : NoO sl := fun m hm => by
  obtain ⟨j, e⟩ := List.mem_iff_getElem?.mp hm
  rcases (lend_at h).2 j _ e with ⟨d, ed, _⟩ | ⟨i, m', ed, _⟩ <;> cases ed
/-- what is wanted of a call's value -/
def PostR (K : PySem.W.Frag) (W : WX) (σ : St) (Q : VK) : Res FR → Hp → Hp → Prop := PostF K Q fun cls dd H => W cls dd σ H
theorem call_sp {K : PySem.W.Frag} {n : Nat} {mf : MF} {S : Hp} {env : ME} {σ : St} {H : Hp} {as : List AV} {vs : List V} {sl sl' : List Sl} {r : Res FR} {Q : VK} {E : XK} (rel : Rel K S env σ H) (ra : RAs K σ S as vs)
    (hn : (ixs as).Nodup) (hl : lend env as = some sl) (hlen : as.length = n) (hm : mf sl = some (r, sl'))
    (q : ∀ S' H', Step K S env σ H S' (putB env as sl') σ H' → PostF K Q E r S' H') : spM K n mf vs H Q E :=
  ⟨S, sl, r, sl', by rw [(lend_at hl).1]; exact hlen, lend_noO hl, rel.lent ra hl hn, hm, fun S' H' st => q S' H' (rel.back ra hl hn st)⟩
/-- a reading whose value may be a new object -/
def AtF (K : PySem.W.Frag) (W : WX) (f : EF FR) (S : Hp) (env : ME) (σ : St) (H : Hp) (Q : VK) : Prop :=
  ∃ r env', Rel K S env σ H ∧ f env = some (r, env') ∧ ∀ S' H', Step K S env σ H S' env' σ H' → PostR K W σ Q r S' H'
def trF (K : PySem.W.Frag) (W : WX) (f : EF FR) : TE := fun σ H Q => ∃ S env, AtF K W f S env σ H Q
/-- an expression that gives a deep value or a new object -/
def DF (X : Cx) (W : WX) (e : Expr) (f : EF FR) : Prop := PE X e (trF X.K W f)
/-- what a call's reading asks -/
theorem AtF.call {K : PySem.W.Frag} {W : WX} {n : Nat} {mf : MF} {fas : EF (List AV)} {S : Hp} {env : ME} {σ : St} {H : Hp} {Q : VK} (h : AtF K W (eCall mf fas) S env σ H Q) (hlen : ∀ e as e', fas e = some (.ok as, e') → as.length = n) :
    At K W (RAl K) fas S env σ H fun vs H1 => spM K n mf vs H1 Q fun cls dd H2 => W cls dd σ H2 := by
  obtain ⟨r, env', rel, e, q⟩ := h
  unfold eCall eBind at e
  cases ef : fas env with
  | none => rw [ef] at e; cases e
  | some p =>
    obtain ⟨r1, e1⟩ := p
    rw [ef] at e
    cases r1 with
    | ex x =>
      have e' : some (Res.ex x, e1) = some (r, env') := e
      cases e'
      exact ⟨.ex x, _, rel, ef, fun S' H' st => q S' H' st⟩
    | ok as =>
      refine ⟨.ok as, e1, rel, ef, fun S1 H1 st vs rv => ?_⟩
      have e' := e
      dsimp only at e'
      split at e'
      · rename_i hn
        split at e'
        · rename_i sl hsl
          split at e'
          · rename_i r0 sl' hm
            cases e'
            exact call_sp st.rel rv hn hsl (hlen _ _ _ ef) hm fun S' H' st' => q S' H' (st.trans st')
          · rename_i x sl' hm
            cases e'
            exact call_sp st.rel rv hn hsl (hlen _ _ _ ef) hm fun S' H' st' => q S' H' (st.trans st')
          · cases e'
        · cases e'
      · cases e'
/-- the number of arguments -/
def Len (fas : EF (List AV)) (n : Nat) : Prop := ∀ e as e', fas e = some (.ok as, e') → as.length = n
theorem Len.nil : Len (eRet []) 0 := fun e as e' h => by cases h; rfl
theorem Len.cons {f : EF AV} {g : EF (List AV)} {n : Nat} (h : Len g n) : Len (eCons f g) (n + 1) := fun e as e' z => by
  unfold eCons eBind at z
  split at z
  · rename_i a e1 h1
    dsimp only at z
    split at z
    · rename_i b e2 h2
      cases z
      rw [List.length_cons, h _ _ _ h2]
    · cases z
    · cases z
  · cases z
  · cases z
section
variable {X : Cx} {W : WX}
theorem df_call {k j n : Nat} {f : Addr} {fd : FuncData} {ps : List Str} {mf : MF} {x : Str} {p pos : Pos} {e : Expr} {es : List Expr} {fas : EF (List AV)} (tk : TkC X W) (F : FnOk X.prog X.w X.K X.mg X.base (L2.CX X.prog X.w) k f fd ps (spM X.K n mf)) (hm : X.mg x = some (.ref f)) (hk : PySem.W.keepIn X.K (.ref f) = true) (hb : Binds X.K fd ps [])
    (hr : Room j X.A) (hj : k ≤ j) (ha : DA X W (e :: es) fas) (hlen : Len fas n)
    (hg : Gl X x := by rfl) (hdb : (x == ("__debug__" : Str)) = false := by decide) (he : starEach (e :: es) X.env = (false, eval e X.env) :: starEach es X.env := by rfl) (hpl : (backTo pos (starEach es X.env)).any (·.1) = false := by rfl) :
    DF X W (.Call (.Name x p) (e :: es) [] pos) (eCall mf fas) := by
  refine pe_imp (pe_callS F (hr.mono hj) hg hm hk hb (fun σ => tk σ) ha hdb he hpl) ?_
  rintro σ H Q ⟨S, env, z⟩
  exact ⟨S, env, z.call hlen⟩
/-- its deep value -/
theorem de_df {e : Expr} {f : EF FR} (h : DF X W e f) : DE X W e (eFD f) := by
  refine pe_imp h ?_
  rintro σ H Q ⟨S, env, r, env', rel, ef, q⟩
  unfold eFD eBind at ef
  refine ⟨S, env, ?_⟩
  split at ef
  · rename_i a e1 h1
    cases a with
    | d d =>
      cases ef
      exact ⟨_, _, rel, h1, q⟩
    | o m => cases ef
  · rename_i x e1 h1
    cases ef
    exact ⟨_, _, rel, h1, q⟩
  · cases ef
/-- a new object, left to itself at once -/
def eFz (f : EF FR) : EF D := eBind f fun r => match r with
  | .d d => eRet d
  | .o m => eRet m.d
theorem de_fz {e : Expr} {f : EF FR} (h : DF X W e f) : DE X W e (eFz f) := by
  refine pe_imp h ?_
  rintro σ H Q ⟨S, env, r, env', rel, ef, q⟩
  unfold eFz eBind at ef
  refine ⟨S, env, ?_⟩
  split at ef
  · rename_i a e1 h1
    cases a with
    | d d =>
      cases ef
      exact ⟨_, _, rel, h1, q⟩
    | o m =>
      cases ef
      refine ⟨_, _, rel, h1, fun S' H' st p o hp ho => ?_⟩
      have al := st.rel.alloc (o := o) hp
      exact q _ _ (st.trans al) _ ((ho.mono al.le).rep upd_same)
  · rename_i x e1 h1
    cases ef
    exact ⟨_, _, rel, h1, q⟩
  · cases ef
/-! ### displays -/
def ds : List AV → Option (List D)
  | [] => some []
  | .d d :: r => match ds r with
    | some q => some (d :: q)
    | none => none
  | .own _ :: _ => none
theorem reps_of {K : PySem.W.Frag} {σ : St} {S : Hp} : ∀ {as : List AV} {vs : List V} {l : List D}, RAs K σ S as vs → ds as = some l → Reps K S l vs ∧ l.length = as.length
  | [], _, l, h, e => by cases e; exact ⟨h, rfl⟩
  | .d d :: r, _, l, h, e => by
    obtain ⟨v, vs, ev, h1, h2⟩ := h
    unfold ds at e
    cases q : ds r with
    | none => rw [q] at e; cases e
    | some z =>
      rw [q] at e
      cases e
      obtain ⟨y1, y2⟩ := reps_of h2 q
      exact ⟨⟨v, vs, ev, h1, y1⟩, by simp [y2]⟩
  | .own i :: r, _, l, h, e => by cases e
def eLst (fas : EF (List AV)) : EF FR := eBind fas fun as => match ds as with
  | some l => if l.length ≤ sizeLine then eRet (.o (.lst l)) else fun _ => none
  | none => fun _ => none
def eTup (fas : EF (List AV)) : EF D := eBind fas fun as => match ds as with
  | some l => if l.length ≤ sizeLine then eRet (.tup l) else fun _ => none
  | none => fun _ => none
theorem Reps.len {K : PySem.W.Frag} {S : Hp} : ∀ {l : List D} {vs : List V}, Reps K S l vs → l.length = vs.length
  | [], _, h => by cases h; rfl
  | a :: as, _, h => by
    obtain ⟨v, r, e, p, q⟩ := h
    subst e
    simp [Reps.len q]
theorem df_lst {es : List Expr} {fas : EF (List AV)} {pos : Pos} (h : DA X W es fas) : DF X W (.List es pos) (eLst fas) := by
  refine pe_imp (pe_lst h) ?_
  rintro σ H Q ⟨S, env, r, env', rel, ef, q⟩
  unfold eLst eBind at ef
  refine ⟨S, env, ?_⟩
  cases ea : fas env with
  | none => rw [ea] at ef; cases ef
  | some p =>
    obtain ⟨r1, e1⟩ := p
    rw [ea] at ef
    cases r1 with
    | ex x =>
      have ef' : some (Res.ex x, e1) = some (r, env') := ef
      cases ef'
      exact ⟨_, _, rel, ea, q⟩
    | ok as =>
      refine ⟨_, _, rel, ea, fun S1 H1 st vs rv => ?_⟩
      have ef' : (match ds as with
        | some l => if l.length ≤ sizeLine then eRet (FR.o (.lst l)) else fun _ => none
        | none => fun _ => none) e1 = some (r, env') := ef
      cases hl : ds as with
      | none => rw [hl] at ef'; cases ef'
      | some l =>
        rw [hl] at ef'
        dsimp only at ef'
        split at ef'
        · rename_i hz
          cases ef'
          obtain ⟨h1, h2⟩ := reps_of rv hl
          exact ⟨by rw [← h1.len]; exact hz, fun p hp => q S1 H1 st p _ hp ⟨vs, rfl, hz, h1⟩⟩
        · cases ef'
theorem de_tup {es : List Expr} {fas : EF (List AV)} {k : Nat} {pos : Pos} (h : DA X W es fas) : DE X W (.Tuple es k pos) (eTup fas) := by
  refine pe_imp (pe_tup h) ?_
  rintro σ H Q ⟨S, env, z⟩
  refine ⟨S, env, (At.bind (R := RAl X.K) z).imp fun vs H1 ⟨as, S1, e1, rv, st, z1⟩ => ?_⟩
  cases hl : ds as with
  | none =>
    rw [hl] at z1
    obtain ⟨_, _, _, e, _⟩ := z1
    cases e
  | some l =>
    rw [hl] at z1
    dsimp only at z1
    split at z1
    · rename_i hz
      obtain ⟨h1, h2⟩ := reps_of rv hl
      refine ⟨by rw [← h1.len]; exact hz, fun p hp => ?_⟩
      have al := z1.rel.alloc (o := .tup vs) hp
      exact z1.ret' al ⟨p, vs, rfl, .inl upd_same, hz, Reps.mono al.le _ _ h1⟩
    · obtain ⟨_, _, _, e, _⟩ := z1
      cases e
end
end Mir

namespace Mir
open PySem PySem.Spec PyProof.Rows L2

/-! ## statements -/
inductive Out where
  | nx | ret (r : FR) | brk | cnt | ex (x : Ex)
abbrev SF := ME → Option (Out × ME)
def PostS (K : PySem.W.Frag) (W : WX) (Dn : Ends) : Out → Hp → St → Hp → Prop
  | .nx, _, σ', H' => Dn.nx σ' H'
  | .brk, _, σ', H' => Dn.bk σ' H'
  | .cnt, _, σ', H' => Dn.ct σ' H'
  | .ret r, S', _, H' => PostF K Dn.rt (fun _ _ _ => False) (.ok r) S' H'
  | .ex x, S', σ', H' => ∀ cls dd, RepX K S' x cls dd H' → W cls dd σ' H'
def AtS (K : PySem.W.Frag) (W : WX) (f : SF) (S : Hp) (env : ME) (σ : St) (H : Hp) (Dn : Ends) : Prop :=
  ∃ o env', Rel K S env σ H ∧ f env = some (o, env') ∧ ∀ S' σ' H', Step K S env σ H S' env' σ' H' → PostS K W Dn o S' σ' H'
def trS (K : PySem.W.Frag) (W : WX) (f : SF) : TS := fun Dn σ H => ∃ S env, AtS K W f S env σ H Dn
def DS (X : Cx) (W : WX) (st : Stmt) (f : SF) : Prop := PS X st (trS X.K W f)
def DB (X : Cx) (W : WX) (st : List Stmt) (f : SF) : Prop := PSs X st (trS X.K W f)

def sNx : SF := fun e => some (.nx, e)
def sSeq (f g : SF) : SF := fun e => match f e with
  | some (.nx, e1) => g e1
  | r => r
section
variable {K : PySem.W.Frag} {W : WX} {S : Hp} {env : ME} {σ : St} {H : Hp} {f g : SF} {Dn : Ends}
theorem AtS.seq (h : AtS K W (sSeq f g) S env σ H Dn) : AtS K W f S env σ H { Dn with nx := trS K W g Dn } := by
  obtain ⟨o, env', rel, e, q⟩ := h
  unfold sSeq at e
  cases ef : f env with
  | none => rw [ef] at e; cases e
  | some p =>
    obtain ⟨o1, e1⟩ := p
    rw [ef] at e
    refine ⟨o1, e1, rel, ef, fun S1 σ1 H1 st => ?_⟩
    cases o1 with
    | nx =>
      have e' : g e1 = some (o, env') := e
      exact ⟨S1, e1, o, env', st.rel, e', fun S' σ' H' st' => q S' σ' H' (st.trans st')⟩
    | ret r =>
      have e' : some (Out.ret r, e1) = some (o, env') := e
      cases e'
      exact q S1 σ1 H1 st
    | brk =>
      have e' : some (Out.brk, e1) = some (o, env') := e
      cases e'
      exact q S1 σ1 H1 st
    | cnt =>
      have e' : some (Out.cnt, e1) = some (o, env') := e
      cases e'
      exact q S1 σ1 H1 st
    | ex x =>
      have e' : some (Out.ex x, e1) = some (o, env') := e
      cases e'
      exact q S1 σ1 H1 st
/-- an expression, then a statement's end -/
def sBind {α : Type} (f : EF α) (g : α → SF) : SF := fun e => match f e with
  | some (.ok a, e1) => g a e1
  | some (.ex x, e1) => some (.ex x, e1)
  | none => none
theorem AtS.bind {α β : Type} {R : RR α β} {f : EF α} {g : α → SF} (h : AtS K W (sBind f g) S env σ H Dn) :
    At K W R f S env σ H (fun b H1 => ∃ a S1 env1, R σ S1 a b ∧ Step K S env σ H S1 env1 σ H1 ∧ AtS K W (g a) S1 env1 σ H1 Dn) := by
  obtain ⟨o, env', rel, e, q⟩ := h
  unfold sBind at e
  cases ef : f env with
  | none => rw [ef] at e; cases e
  | some p =>
    obtain ⟨r1, e1⟩ := p
    rw [ef] at e
    cases r1 with
    | ex x =>
      have e' : some (Out.ex x, e1) = some (o, env') := e
      cases e'
      exact ⟨.ex x, _, rel, ef, fun S' H' st => q S' σ H' st⟩
    | ok a =>
      have e' : g a e1 = some (o, env') := e
      exact ⟨.ok a, e1, rel, ef, fun S1 H1 st b rb => ⟨a, S1, e1, rb, st, o, env', st.rel, e', fun S' σ' H' st' => q S' σ' H' (st.trans st')⟩⟩
theorem AtS.end {f : SF} {o : Out} {env' : ME} (h : AtS K W f S env σ H Dn) (hf : f env = some (o, env')) {S' : Hp} {σ' : St} {H' : Hp} (st : Step K S env σ H S' env' σ' H') : PostS K W Dn o S' σ' H' := by
  obtain ⟨o', e', rel, e, q⟩ := h
  rw [hf] at e
  cases e
  exact q S' σ' H' st
end
section
variable {X : Cx} {W : WX}
theorem db_nil : DB X W [] sNx := by
  refine pss_imp pss_nil ?_
  rintro Dn σ H ⟨S, env, z⟩
  exact z.end rfl z.choose_spec.choose_spec.1.step
theorem db_cons {st : Stmt} {rest : List Stmt} {f g : SF} (h1 : DS X W st f) (h2 : DB X W rest g) : DB X W (st :: rest) (sSeq f g) := by
  refine pss_imp (pss_cons h1 h2) ?_
  rintro Dn σ H ⟨S, env, z⟩
  exact ⟨S, env, z.seq⟩
theorem db_one {st : Stmt} {f : SF} (h1 : DS X W st f) : DB X W [st] f := pss_one h1
theorem ds_pass {pos : Pos} : DS X W (.Pass pos) sNx := by
  refine ps_imp ps_pass ?_
  rintro Dn σ H ⟨S, env, z⟩
  exact z.end rfl z.choose_spec.choose_spec.1.step
theorem ds_doc {x j pos pos'} : DS X W (.Expr (.Constant (.str x) j pos) pos') sNx := by
  refine ps_imp ps_doc ?_
  rintro Dn σ H ⟨S, env, z⟩
  exact z.end rfl z.choose_spec.choose_spec.1.step
def sCnt : SF := fun e => some (.cnt, e)
def sBrk : SF := fun e => some (.brk, e)
theorem ds_continue {pos : Pos} : DS X W (.Continue pos) sCnt := by
  refine ps_imp ps_continue ?_
  rintro Dn σ H ⟨S, env, z⟩
  exact z.end rfl z.choose_spec.choose_spec.1.step
theorem ds_break {pos : Pos} : DS X W (.Break pos) sBrk := by
  refine ps_imp ps_break ?_
  rintro Dn σ H ⟨S, env, z⟩
  exact z.end rfl z.choose_spec.choose_spec.1.step
/-- an expression whose value is dropped -/
def sDo (f : EF D) : SF := sBind f fun _ => sNx
theorem ds_do {e : Expr} {f : EF D} {pos : Pos} (h : DE X W e f) (hs : swapsWith e none pos.line X.env = pure false := by rfl) : DS X W (.Expr e pos) (sDo f) := by
  refine ps_imp (ps_expr h hs) ?_
  rintro Dn σ H ⟨S, env, z⟩
  exact ⟨S, env, (AtS.bind (R := RD X.K) z).imp fun v H1 ⟨a, S1, e1, _, st, z1⟩ => z1.end rfl z1.choose_spec.choose_spec.1.step⟩
def isB (env : ME) (i : Nat) : Bool := match env[i]? with
  | some (some (.b _)) => true
  | _ => false
theorem notB_of {env : ME} {i : Nat} (h : isB env i = false) : NotB env i := fun m e => by
  unfold isB at h
  rw [e] at h
  cases h
/-- name = value -/
def putV (i : Nat) (d : D) : SF := fun e => if isB e i then none else some (.nx, e.set i (some (.v d)))
def sSet (i : Nat) (f : EF D) : SF := sBind f (putV i)
theorem putV_end {K : PySem.W.Frag} {W : WX} {S : Hp} {env : ME} {σ : St} {H : Hp} {Dn : Ends} {i : Nat} {d : D} {v : V} (z : AtS K W (putV i d) S env σ H Dn) (r : Rep K S d v) : Dn.nx (σ.set i (some v)) H := by
  obtain ⟨o, e', rel, e, q⟩ := z
  unfold putV at e
  cases hb : isB env i with
  | true => rw [hb] at e; cases e
  | false =>
    rw [hb] at e
    cases e
    exact q _ _ _ (rel.setV (notB_of hb) r)
theorem ds_set (i : Nat) {x : Str} {e : Expr} {f : EF D} {pos pos' : Pos} (hN : X.N.Nodup) (he : DE X W e f) (hi : X.N[i]? = some x := by rfl) (hx : Loc X.env.scope x := by first | exact Or.inl rfl | exact Or.inr rfl)
    (hs : swapsWith e (some (.Name x pos')) pos.line X.env = pure false := by rfl) (hf : X.fn x = true ∨ X.env.scope.names.lookup x = some .local := by first | exact .inl rfl | exact .inr rfl | assumption) : DS X W (.Assign [.Name x pos'] e pos) (sSet i f) := by
  refine ps_imp (ps_set hN hi hx he hs hf) ?_
  rintro Dn σ H ⟨S, env, z⟩
  exact ⟨S, env, (AtS.bind (R := RD X.K) z).imp fun v H1 ⟨a, S1, e1, r, st, z1⟩ => putV_end z1 r⟩
/-- name = value or a new object, which the name then owns -/
def putF (i : Nat) : FR → SF
  | .d d => putV i d
  | .o m => fun e => if isB e i then none else some (.nx, e.set i (some (.o m)))
def sSetF (i : Nat) (f : EF FR) : SF := sBind f (putF i)
/-- .. an end whose value is told as PostF tells it -/
theorem trF_bind {K : PySem.W.Frag} {W : WX} {S : Hp} {env : ME} {σ : St} {H : Hp} {Dn : Ends} {f : EF FR} {g : FR → SF} {Q : VK} (z : AtS K W (sBind f g) S env σ H Dn)
    (h : ∀ r S1 e1 H1, AtS K W (g r) S1 e1 σ H1 Dn → PostF K Q (fun _ _ _ => False) (.ok r) S1 H1) : trF K W f σ H Q := by
  obtain ⟨o, env', rel, e, q⟩ := z
  unfold sBind at e
  refine ⟨S, env, ?_⟩
  cases ef : f env with
  | none => rw [ef] at e; cases e
  | some p =>
    obtain ⟨r1, e1⟩ := p
    rw [ef] at e
    cases r1 with
    | ex x =>
      have e' : some (Out.ex x, e1) = some (o, env') := e
      cases e'
      exact ⟨.ex x, _, rel, ef, fun S' H' st => q S' σ H' st⟩
    | ok a =>
      have e' : g a e1 = some (o, env') := e
      refine ⟨.ok a, e1, rel, ef, fun S1 H1 st => ?_⟩
      have := h a S1 e1 H1 ⟨o, env', st.rel, e', fun S' σ' H' st' => q S' σ' H' (st.trans st')⟩
      cases a with
      | d d => exact this
      | o m => exact this
theorem putF_end {K : PySem.W.Frag} {W : WX} {S : Hp} {env : ME} {σ : St} {H : Hp} {Dn : Ends} {i : Nat} {r : FR} (z : AtS K W (putF i r) S env σ H Dn) : PostF K (fun v H' => Dn.nx (σ.set i (some v)) H') (fun _ _ _ => False) (.ok r) S H := by
  cases r with
  | d d => exact fun v r => putV_end z r
  | o m =>
    intro p o hp ho
    obtain ⟨o', e', rel, e, q⟩ := z
    unfold putF at e
    dsimp only at e
    cases hb : isB env i with
    | true => rw [hb] at e; cases e
    | false =>
      rw [hb] at e
      cases e
      exact q _ _ _ (rel.setO (notB_of hb) hp ho)
theorem ds_setF (i : Nat) {x : Str} {e : Expr} {f : EF FR} {pos pos' : Pos} (hN : X.N.Nodup) (he : DF X W e f) (hi : X.N[i]? = some x := by rfl) (hx : Loc X.env.scope x := by first | exact Or.inl rfl | exact Or.inr rfl)
    (hs : swapsWith e (some (.Name x pos')) pos.line X.env = pure false := by rfl) (hf : X.fn x = true ∨ X.env.scope.names.lookup x = some .local := by first | exact .inl rfl | exact .inr rfl | assumption) : DS X W (.Assign [.Name x pos'] e pos) (sSetF i f) := by
  refine ps_imp (ps_set hN hi hx he hs hf) ?_
  rintro Dn σ H ⟨S, env, z⟩
  exact trF_bind z fun r S1 e1 H1 z1 => putF_end z1
/-- return e -/
def sRet (f : EF FR) : SF := sBind f fun r e => some (.ret r, e)
theorem ds_ret {e : Expr} {f : EF FR} {pos : Pos} (he : DF X W e f) : DS X W (.Return (some e) pos) (sRet f) := by
  refine ps_imp (ps_ret he) ?_
  rintro Dn σ H ⟨S, env, z⟩
  exact trF_bind z fun r S1 e1 H1 z1 => z1.end rfl z1.choose_spec.choose_spec.1.step
def eDF (f : EF D) : EF FR := eBind f fun d => eRet (.d d)
theorem df_of {e : Expr} {f : EF D} (h : DE X W e f) : DF X W e (eDF f) := by
  refine pe_imp h ?_
  rintro σ H Q ⟨S, env, r, env', rel, ef, q⟩
  unfold eDF eBind at ef
  refine ⟨S, env, ?_⟩
  cases ea : f env with
  | none => rw [ea] at ef; cases ef
  | some p =>
    obtain ⟨r1, e1⟩ := p
    rw [ea] at ef
    cases r1 with
    | ok a =>
      have ef' : some (Res.ok (FR.d a), e1) = some (r, env') := ef
      cases ef'
      exact ⟨_, _, rel, ea, q⟩
    | ex x =>
      have ef' : some (Res.ex x, e1) = some (r, env') := ef
      cases ef'
      exact ⟨_, _, rel, ea, q⟩
/-- return of a name: its value, or the object that it owns -/
def eOut (i : Nat) : EF FR := fun e => match e[i]? with
  | some (some (.v d)) => some (.ok (.d d), e)
  | some (some (.o m)) => some (.ok (.o m), e.set i none)
  | _ => none
def less (H : Hp) (p : Addr) : Hp := fun b => if b = p then none else H b
theorem less_same {H : Hp} {p : Addr} : less H p p = none := by unfold less; rw [if_pos rfl]
theorem less_ne {H : Hp} {p b : Addr} (h : b ≠ p) : less H p b = H b := by unfold less; rw [if_neg h]
theorem upd_less {H : Hp} {p : Addr} {o : HO} (h : H p = some o) : upd (less H p) p o = H := by
  funext b
  unfold upd less
  by_cases e : b = p
  · subst e; simp [h]
  · simp [e]
/-- an object of one's own is let go -/
theorem Rel.out {K : PySem.W.Frag} {S : Hp} {env : ME} {σ : St} {H : Hp} {i : Nat} {m : MO} {p : Addr} (r : Rel K S env σ H) (hs : env[i]? = some (some (.o m))) (hp : σ[i]? = some (some (.ref p))) :
    Step K S env σ H S (env.set i none) σ (less H p) := by
  obtain ⟨a, o, x1, x2, x3, x4⟩ := r.obj i m ⟨_, hs, rfl⟩
  rw [hp] at x1
  cases x1
  have old : ∀ j m, Has (env.set i none) j m → j ≠ i ∧ Has env j m := fun j m h => by
    rcases has_set h with ⟨_, q, e1, e2⟩ | h
    · cases e1
    · exact h
  have ne : ∀ (j : Nat) (m2 : MO) (b : Addr), j ≠ i → Has env j m2 → σ[j]? = some (some (.ref b)) → b ≠ p := fun j m2 b n h e z => by
    subst z
    exact n (r.dis j i m2 m b h ⟨_, hs, rfl⟩ e hp)
  refine ⟨⟨by simp [r.len], fun b u e => ?_, fun j d' e => ?_, fun j m e => ?_, fun j k m m' a e1 e2 e3 e4 => ?_⟩, Le.refl S, fun b h => .inl h, fun b u e _ n => ?_, fun j m h => ?_, fun j m h => ?_, fun a h => ?_, rfl, fun _ h => h⟩
  · have hb : b ≠ p := fun z => by subst z; rw [x3] at e; cases e
    rw [less_ne hb]; exact r.sub b u e
  · by_cases hj : i = j
    · subst hj
      have hl : i < env.length := lt_of_at hs
      rw [List.getElem?_set_self hl] at e
      cases e
    · rw [List.getElem?_set_ne hj] at e
      exact r.val j d' e
  · obtain ⟨n, h⟩ := old j m e
    obtain ⟨b, u, e1, e2, e3, e4⟩ := r.obj j m h
    exact ⟨b, u, e1, by rw [less_ne (ne j m b n h e1)]; exact e2, e3, e4⟩
  · exact r.dis j k m m' a (old j m e1).2 (old k m' e2).2 e3 e4
  · have hb : b ≠ p := fun z => by
      subst z
      exact n ⟨i, m, ⟨_, hs, rfl⟩, hp⟩
    rw [less_ne hb]; exact e
  · have hj : i ≠ j := fun z => by
      subst z
      rw [hs] at h
      cases h
    rw [List.getElem?_set_ne hj]
    exact ⟨⟨m, h⟩, rfl⟩
  · by_cases hj : i = j
    · subst hj
      rw [List.getElem?_set_self (lt_of_at hs)] at h
      cases h
    · rw [List.getElem?_set_ne hj] at h
      exact ⟨m, h⟩
  · obtain ⟨j, m, e1, e2⟩ := h
    by_cases hj : i = j
    · subst hj
      rw [List.getElem?_set_self (lt_of_at hs)] at e1
      cases e1
    · rw [List.getElem?_set_ne hj] at e1
      exact .inl ⟨j, m, e1, e2⟩
theorem df_out (i : Nat) {x : Str} {pos : Pos} (hN : X.N[i]? = some x := by rfl) (hv : Vis X.env.scope x := by first | exact Or.inl rfl | exact Or.inr (Or.inl rfl) | exact Or.inr (Or.inr rfl))
    (hd : (x == ("__debug__" : Str)) = false := by decide) (hcd : (x == ("__classdict__" : Str)) = false := by decide) : DF X W (.Name x pos) (eOut i) := by
  refine pe_imp (pe_var hN hv hd hcd) ?_
  rintro σ H Q ⟨S, env, r, env', rel, e, q⟩
  unfold eOut at e
  split at e
  · rename_i d hd
    cases e
    obtain ⟨v, e1, e2⟩ := rel.val i d hd
    exact ⟨v, e1, q S H rel.step v e2⟩
  · rename_i m hm
    cases e
    obtain ⟨a, o, e1, e2, e3, e4⟩ := rel.obj i m ⟨_, hm, rfl⟩
    refine ⟨.ref a, e1, ?_⟩
    have z : ∀ p o, less H a p = none → RepO X.K S m o → Q (.ref p) (upd (less H a) p o) := q S (less H a) (rel.out hm e1)
    have z2 := z a o less_same e4
    rw [upd_less e2] at z2
    exact z2
  · cases e
def sRetN : SF := fun e => some (.ret (.d .non), e)
theorem ds_retN {pos : Pos} : DS X W (.Return none pos) sRetN := by
  refine ps_imp ps_retN ?_
  rintro Dn σ H ⟨S, env, z⟩
  have : PostF X.K Dn.rt (fun _ _ _ => False) (.ok (.d .non)) S H := z.end rfl z.choose_spec.choose_spec.1.step
  exact this .non rfl
def sIf (t : EF Bool) (f g : SF) : SF := sBind t fun b => match b with
  | true => f
  | false => g
theorem ds_if {c : Expr} {a b : List Stmt} {t : EF Bool} {f g : SF} {pos : Pos} (hc : DT X W c t) (ha : DB X W a f) (hb : DB X W b g) : DS X W (.If c a b pos) (sIf t f g) := by
  refine ps_imp (ps_if hc ha hb) ?_
  rintro Dn σ H ⟨S, env, z⟩
  refine ⟨S, env, (AtS.bind (R := RB) z).imp fun v H1 ⟨d, S1, e1, r, st, z1⟩ => ?_⟩
  have r' : d = v := r
  subst r'
  cases d with
  | true => exact iteT ⟨S1, e1, z1⟩
  | false => exact iteF ⟨S1, e1, z1⟩
/-- name op= e -/
def sAug (i : Nat) (f : EF D) (g : D → D → EF D) : SF := sBind (eVar i) fun x => sBind f fun y => sBind (g x y) (putV i)
theorem ds_aug (i : Nat) {x : Str} {e : Expr} {op : Operator} {ti : TIp} {f : EF D} {g : D → D → EF D} {pos pos' : Pos} (hN : X.N.Nodup) (he : DE X W e f) (ho : PIp X op ti)
    (h : ∀ S env σ H Q x y vx vy, Rep X.K S x vx → Rep X.K S y vy → At X.K W (RD X.K) (g x y) S env σ H Q → ti vx vy H Q)
    (hi : X.N[i]? = some x := by rfl) (hx : Loc X.env.scope x := by first | exact Or.inl rfl | exact Or.inr rfl) (hf : X.fn x = true ∨ X.env.scope.names.lookup x = some .local := by first | exact .inl rfl | exact .inr rfl | assumption) :
    DS X W (.AugAssign (.Name x pos') op e pos) (sAug i f g) := by
  refine ps_imp (ps_aug hN hi hx he ho hf) ?_
  rintro Dn σ H ⟨S, env, z⟩
  obtain ⟨o, e', rel, ee, q⟩ := id z
  unfold sAug sBind eVar at ee
  have hx : ∃ d, env[i]? = some (some (.v d)) := by
    split at ee
    · rename_i h1
      split at h1
      · exact ⟨_, by assumption⟩
      · cases h1
    · rename_i h1
      split at h1
      · cases h1
      · cases h1
    · cases ee
  obtain ⟨d, hd⟩ := hx
  obtain ⟨v, e1, e2⟩ := rel.val i d hd
  refine ⟨v, e1, ?_⟩
  have z2 : AtS X.K W (sBind f fun y => sBind (g d y) (putV i)) S env σ H Dn := by
    refine ⟨o, e', rel, ?_, q⟩
    rw [← ee]
    simp only [hd]
    rfl
  refine ⟨S, env, (AtS.bind (R := RD X.K) z2).imp fun y H1 ⟨dy, S1, e1, r, st, z1⟩ => ?_⟩
  refine h S1 e1 σ H1 _ d dy v y (Rep.mono st.le _ _ e2) r ((AtS.bind (R := RD X.K) z1).imp fun w H2 ⟨dw, S2, e2, r2, st2, z3⟩ => ?_)
  exact putV_end z3 r2
end

/-! ## a def -/
def backs : List Sl → ME → List Sl
  | [], _ => []
  | .v d :: r, _ :: e => .v d :: backs r e
  | .b m :: r, s :: e => (match s with
    | some (.b m') => .b m'
    | _ => .b m) :: backs r e
  | .o m :: r, _ :: e => .o m :: backs r e
  | s :: r, [] => s :: r
/-- the mirror of a def: n parameters, k further slots -/
def mDef (n k : Nat) (g : SF) : MF := fun as => if as.length = n then match g (as.map some ++ List.replicate k none) with
  | some (.ret r, e) => some (.ok r, backs as e)
  | some (.nx, e) => some (.ok (.d .non), backs as e)
  | some (.ex x, e) => some (.ex x, backs as e)
  | _ => none
  else none
theorem backs_len : ∀ (as : List Sl) (e : ME), (backs as e).length = as.length
  | [], _ => rfl
  | .v d :: r, _ :: e => by simp [backs, backs_len r e]
  | .b m :: r, s :: e => by simp [backs, backs_len r e]
  | .o m :: r, _ :: e => by simp [backs, backs_len r e]
  | .v d :: r, [] => rfl
  | .b d :: r, [] => rfl
  | .o d :: r, [] => rfl
theorem backs_at : ∀ (as : List Sl) (e : ME) (j : Nat) (s : Sl), (backs as e)[j]? = some s → (∃ d, s = .v d ∧ as[j]? = some (.v d)) ∨ (∃ m m', s = .b m' ∧ as[j]? = some (.b m) ∧ (e[j]? = some (some (.b m')) ∨ (∀ z, e[j]? ≠ some (some (.b z))))) ∨ ∃ m, s = .o m ∧ as[j]? = some (.o m)
  | [], _, j, s, h => by simp [backs] at h
  | .v d :: r, x :: e, 0, s, h => by simp [backs] at h; exact .inl ⟨d, h.symm, rfl⟩
  | .o d :: r, x :: e, 0, s, h => by simp [backs] at h; exact .inr (.inr ⟨d, h.symm, rfl⟩)
  | .b m :: r, x :: e, 0, s, h => by
    simp [backs] at h
    split at h
    · rename_i m'
      exact .inr (.inl ⟨m, m', h.symm, rfl, .inl rfl⟩)
    · rename_i hx
      refine .inr (.inl ⟨m, m, h.symm, rfl, .inr fun z hz => ?_⟩)
      simp at hz
      exact hx z hz
  | .v d :: r, x :: e, j + 1, s, h => by simp [backs] at h ⊢; exact backs_at r e j s h
  | .o d :: r, x :: e, j + 1, s, h => by simp [backs] at h ⊢; exact backs_at r e j s h
  | .b d :: r, x :: e, j + 1, s, h => by simp [backs] at h ⊢; exact backs_at r e j s h
  | a :: r, [], j, s, h => by
    have h' : (a :: r)[j]? = some s := by
      cases a <;> exact h
    cases s with
    | v d => exact .inl ⟨d, rfl, h'⟩
    | b m => exact .inr (.inl ⟨m, m, rfl, h', .inr fun z hz => by simp at hz⟩)
    | o m => exact .inr (.inr ⟨m, rfl, h'⟩)
section
variable {K : PySem.W.Frag} {S S' : Hp} {H H' : Hp} {as : List Sl} {vs : List V} {e' : ME} {σ' : St} {k : Nat}
theorem at_app {α : Type} {l : List (Option α)} {k j : Nat} {x : α} : (l ++ List.replicate k none)[j]? = some (some x) ↔ l[j]? = some (some x) := by
  constructor
  · intro h
    by_cases hj : j < l.length
    · rw [List.getElem?_append_left hj] at h; exact h
    · rw [List.getElem?_append_right (by omega)] at h
      rw [List.getElem?_replicate] at h
      split at h <;> cases h
  · intro h
    rw [List.getElem?_append_left (lt_of_at h)]; exact h
/-- the slots at the entry -/
theorem Rel.enter (r : Rel K S (as.map some) (vs.map some) H) : Rel K S (as.map some ++ List.replicate k none) (vs.map some ++ List.replicate k none) H := by
  refine ⟨by simp; have := r.len; simpa using this, r.sub, fun i d e => ?_, fun i m ⟨s, e, em⟩ => ?_, fun i j m m' a ⟨s, e1, m1⟩ ⟨s', e2, m2⟩ e3 e4 => ?_⟩
  · obtain ⟨v, e1, e2⟩ := r.val i d (at_app.mp e)
    exact ⟨v, at_app.mpr e1, e2⟩
  · obtain ⟨a, o, e1, e2, e3, e4⟩ := r.obj i m ⟨s, at_app.mp e, em⟩
    exact ⟨a, o, at_app.mpr e1, e2, e3, e4⟩
  · exact r.dis i j m m' a ⟨s, at_app.mp e1, m1⟩ ⟨s', at_app.mp e2, m2⟩ (at_app.mp e3) (at_app.mp e4)
/-- behind the body, as the caller sees it -/
theorem Step.leave (no : NoO as) (r : Rel K S (as.map some) (vs.map some) H) (st : Step K S (as.map some ++ List.replicate k none) (vs.map some ++ List.replicate k none) H S' e' σ' H') :
    Step K S (as.map some) (vs.map some) H S' ((backs as e').map some) (vs.map some) H' := by
  have noO : ∀ b, ¬ OwnO (as.map some) (vs.map some) b := fun b ⟨j, m, e, _⟩ => by
    obtain ⟨s, es, e⟩ := map_at e
    cases es
    exact no m (List.mem_of_getElem? e)
  have own0 : ∀ b, ¬ Own (as.map some) (vs.map some) b → ¬ Own (as.map some ++ List.replicate k none) (vs.map some ++ List.replicate k none) b := fun b n ⟨i, m, ⟨s, e, em⟩, ev⟩ => n ⟨i, m, ⟨s, at_app.mp e, em⟩, at_app.mp ev⟩
  have ownO0 : ∀ b, ¬ OwnO (as.map some ++ List.replicate k none) (vs.map some ++ List.replicate k none) b := fun b ⟨i, m, e, ev⟩ => noO b ⟨i, m, at_app.mp e, at_app.mp ev⟩
  -- a lent place
  have lent : ∀ (j : Nat) (m : MO), as[j]? = some (.b m) → ∃ m' a o, e'[j]? = some (some (.b m')) ∧ (backs as e')[j]? = some (.b m') ∧ vs[j]? = some (.ref a) ∧ H' a = some o ∧ S' a = none ∧ RepO K S' m' o ∧ σ'[j]? = some (some (.ref a)) := fun j m e => by
    obtain ⟨⟨m', q1⟩, q2⟩ := st.bor j m (at_app.mpr (map_at' e))
    obtain ⟨a, o, x1, x2, x3, x4⟩ := st.rel.obj j m' ⟨_, q1, rfl⟩
    have hj : j < (backs as e').length := by rw [backs_len]; exact lt_of_at e
    have eb : (backs as e')[j]? = some (backs as e')[j] := List.getElem?_eq_getElem hj
    have vj : vs[j]? = some (.ref a) := by
      rw [x1] at q2
      have := at_app.mp q2.symm
      obtain ⟨y, ey, z⟩ := map_at this
      cases ey
      exact z
    rcases backs_at as e' j _ eb with ⟨d, ed, ea⟩ | ⟨m1, m2, ed, ea, h | h⟩ | ⟨m2, ed, ea⟩
    · rw [e] at ea; cases ea
    · rw [q1] at h
      cases h
      exact ⟨m', a, o, q1, by rw [eb, ed], vj, x2, x3, x4, x1⟩
    · exact absurd q1 (h m')
    · rw [e] at ea; cases ea
  have hasB : ∀ (j : Nat) (m : MO), Has ((backs as e').map some) j m → ∃ m0, as[j]? = some (.b m0) := fun j m ⟨s, e, em⟩ => by
    obtain ⟨s', es, e⟩ := map_at e
    cases es
    rcases backs_at as e' j _ e with ⟨d, ed, ea⟩ | ⟨m1, m2, ed, ea, _⟩ | ⟨m2, ed, ea⟩
    · subst ed; cases em
    · exact ⟨m1, ea⟩
    · exact absurd (List.mem_of_getElem? ea) (no m2)
  refine ⟨⟨by simp [backs_len]; have := r.len; simpa using this, st.rel.sub, fun i d e => ?_, fun i m e => ?_, fun i j m m' a e1 e2 e3 e4 => ?_⟩, st.le, fun b h => ?_, fun b o h hS n => st.frame b o h hS (own0 b n), fun i m h => ?_, fun i m h => ?_, fun a h => ?_, rfl, st.keep⟩
  · obtain ⟨s, es, e⟩ := map_at e
    cases es
    rcases backs_at as e' i _ e with ⟨d', ed, ea⟩ | ⟨m1, m2, ed, ea, _⟩ | ⟨m2, ed, ea⟩
    · cases ed
      obtain ⟨v, e1, e2⟩ := r.val i d (map_at' ea)
      exact ⟨v, e1, Rep.mono st.le _ _ e2⟩
    · cases ed
    · cases ed
  · obtain ⟨m0, e0⟩ := hasB i m e
    obtain ⟨m', a, o, q1, q2, q3, q4, q5, q6, q7⟩ := lent i m0 e0
    obtain ⟨s, e1, em⟩ := e
    rw [map_at' q2] at e1
    cases e1
    cases em
    exact ⟨a, o, map_at' q3, q4, q5, q6⟩
  · obtain ⟨m1, x1⟩ := hasB i m e1
    obtain ⟨m2, x2⟩ := hasB j m' e2
    exact r.dis i j m1 m2 a ⟨_, map_at' x1, rfl⟩ ⟨_, map_at' x2, rfl⟩ e3 e4
  · rcases st.fresh b h with z | z | z
    · exact .inl z
    · exact .inr (.inl z)
    · exact absurd z (ownO0 b)
  · obtain ⟨s, es, e⟩ := map_at h
    cases es
    obtain ⟨m', a, o, q1, q2, _⟩ := lent i m e
    exact ⟨⟨m', map_at' q2⟩, rfl⟩
  · obtain ⟨m0, e0⟩ := hasB i m ⟨_, h, rfl⟩
    exact ⟨m0, map_at' e0⟩
  · obtain ⟨i, m, e, ev⟩ := h
    obtain ⟨m0, e0⟩ := hasB i m ⟨_, e, rfl⟩
    obtain ⟨m', a', o, q1, q2, _⟩ := lent i m0 e0
    rw [map_at' q2] at e
    cases e
end
section
variable {P : Program} {w : World} {K : PySem.W.Frag} {mg : Str → Option Value} {base : Heap}
/-- THE RULE for a def -/
theorem okM {x qual : Str} {st : Stmt} {f : Addr} {fd : FuncData} {N ps : List Str} {j k n : Nat} {g : SF} (F : Fun K x qual st f fd) (Sc : FnScope N ps (defScope st)) (hn : ps.length = n) (hk : N.length = n + k)
    (hbody : ∀ (cdv : Value) (A : Around) (outer : List PySem.Env) (s : Shared) (H : Hp) (E : XK), Room j (cxOf (L2.CX P w) P w K mg base N qual (defScope st) f cdv A outer s H E).A →
      Takes (cxOf (L2.CX P w) P w K mg base N qual (defScope st) f cdv A outer s H E) (fun cls d _ H => E cls d H) → DB (cxOf (L2.CX P w) P w K mg base N qual (defScope st) f cdv A outer s H E) (fun cls d _ H => E cls d H) (defBody st) g) :
    FnOk P w K mg base (L2.CX P w) (j + 1) f fd ps (spM K n (mDef n k g)) := by
  refine F.okX Sc (fun vs H Q E h => ?_) (fun cdv A outer s H vs Q E hr h => ?_)
  · obtain ⟨S, as, r, as', h1, h2, rel, _⟩ := h
    have := rel.len
    simp at this
    rw [hn, ← h1, this]
  · obtain ⟨S, as, r, as', h1, h2, rel, hm, q⟩ := h
    have hvl : vs.length = n := by
      have := rel.len
      simp at this
      rw [← h1, this]
    have tk : Takes (cxOf (L2.CX P w) P w K mg base N qual (defScope st) f cdv A outer s H E) (fun cls d _ H => E cls d H) := takes_of rfl rfl rfl rfl
    refine ⟨_, hbody cdv A outer s H E hr tk, ?_⟩
    unfold mDef at hm
    rw [if_pos h1] at hm
    have hst : L2.start N vs = vs.map some ++ List.replicate k none := by
      unfold L2.start
      rw [hk, hvl, Nat.add_sub_cancel_left]
    rw [hst]
    cases eg : g (as.map some ++ List.replicate k none) with
    | none => rw [eg] at hm; cases hm
    | some p =>
      obtain ⟨o, e'⟩ := p
      rw [eg] at hm
      refine ⟨S, _, o, e', rel.enter, eg, fun S' σ' H' stp => ?_⟩
      have lv := stp.leave h2 rel
      cases o with
      | nx =>
        cases hm
        exact q S' H' lv .non rfl
      | ret r' =>
        cases hm
        have := q S' H' lv
        cases r' with
        | d d => exact this
        | o m => exact this
      | ex x =>
        cases hm
        exact q S' H' lv
      | brk => cases hm
      | cnt => cases hm
end
end Mir

namespace Mir
open PySem PySem.Spec PyProof.Rows L2

/-! ## reading what is handed on -/
def viewA : AV → ME → Option D
  | .d d, _ => some d
  | .own i, env => match env[i]? with
    | some (some s) => match s.mo with
      | some m => some m.d
      | none => none
    | _ => none
theorem view_rep {K : PySem.W.Frag} {S : Hp} {env : ME} {σ : St} {H : Hp} {a : AV} {v : V} {d : D} (r : Rel K S env σ H) (ra : RA K σ S a v) (h : viewA a env = some d) : ∃ S2, Same S2 H ∧ Le S S2 ∧ Rep K S2 d v := by
  cases a with
  | d d' =>
    cases h
    exact ⟨S, r.sub, Le.refl S, ra⟩
  | own i =>
    unfold viewA at h
    dsimp only at h
    split at h
    · rename_i s hs
      split at h
      · rename_i m hm
        cases h
        obtain ⟨a, o, e1, e2, e3, e4⟩ := r.obj i m ⟨s, hs, hm⟩
        have ra' : σ[i]? = some (some v) := ra
        rw [e1] at ra'
        cases ra'
        have sm : Same S (upd S a o) := fun b u e => by rw [upd_ne (ne_of_none e e3)]; exact e
        refine ⟨upd S a o, fun b u e => ?_, Le.of sm, (e4.mono (Le.of sm)).rep upd_same⟩
        by_cases hb : b = a
        · subst hb; rw [upd_same] at e; cases e; exact e2
        · rw [upd_ne hb] at e; exact r.sub b u e
      · cases h
    · cases h
/-- the value is d: its top read off H, its parts stable -/
def Rep1 (K : PySem.W.Frag) (S H : Hp) : D → V → Prop
  | .tup ds, v => ∃ a vs, v = .ref a ∧ TupAt K H a vs ∧ ds.length ≤ sizeLine ∧ ds.length = vs.length ∧ Reps K S ds vs ∧ TupAt K S a vs
  | .lst ds, v => ∃ a vs, v = .ref a ∧ H a = some (.lst vs) ∧ ds.length ≤ sizeLine ∧ ds.length = vs.length ∧ Reps K S ds vs
  | .frl ds, v => ∃ a vs, v = .ref a ∧ SqL K H a vs ∧ ds.length ≤ sizeLine ∧ ds.length = vs.length ∧ Reps K S ds vs
  | .dK kds, v => ∃ a kvs, v = .ref a ∧ Rd H a (.dK kvs) ∧ kds.length ≤ sizeLine ∧ RepK K S kds kvs
  | .ins C gs, v => ∃ Ca a dx fs, ClsN K C Ca ∧ v = .ref a ∧ H a = some (.ins Ca dx fs) ∧ RepF K S gs fs
  | .exc C gs, v => ∃ Ca a d fs, ClsN K C Ca ∧ v = .ref a ∧ H a = some (ExH (.ref Ca) (some d) a) ∧ H d = some (.xd fs) ∧ RepF K S gs fs
  | .str x, v => v = .str x ∧ x.length ≤ sizeLine
  | .non, v => v = .non
  | .bl b, v => v = .bl b
  | .int i, v => v = .int i
  | .ty n, v => v = .ty n
  | .ref a, v => v = .ref a
theorem same_rd {S H : Hp} (sm : Same S H) {a : Addr} {u : HO} (h : Rd S a u) : Rd H a u := by
  rcases h with h | ⟨o, h⟩
  · exact .inl (sm _ _ h)
  · exact .inr ⟨o, sm _ _ h⟩
theorem Rep.one {K : PySem.W.Frag} {S H : Hp} (sm : Same S H) {d : D} {v : V} (h : Rep K S d v) : Rep1 K S H d v := by
  cases d with
  | tup ds =>
    obtain ⟨a, vs, e, q, l, r⟩ := h
    exact ⟨a, vs, e, (Le.of sm).tupAt q, l, Reps.len r, r, q⟩
  | lst ds =>
    obtain ⟨a, vs, e, q, l, r⟩ := h
    exact ⟨a, vs, e, sm _ _ q, l, Reps.len r, r⟩
  | frl ds =>
    obtain ⟨a, vs, e, q, l, r⟩ := h
    exact ⟨a, vs, e, (Le.of sm).sqL q, l, Reps.len r, r⟩
  | dK ds =>
    obtain ⟨a, vs, e, q, l, r⟩ := h
    exact ⟨a, vs, e, same_rd sm q, l, r⟩
  | ins C gs =>
    obtain ⟨Ca, a, dx, fs, c, e, q, r⟩ := h
    exact ⟨Ca, a, dx, fs, c, e, sm _ _ q, r⟩
  | exc C gs =>
    obtain ⟨Ca, a, d, fs, c, e, q, q2, r⟩ := h
    exact ⟨Ca, a, d, fs, c, e, sm _ _ q, sm _ _ q2, r⟩
  | str x => exact h
  | non => exact h
  | bl b => exact h
  | int i => exact h
  | ty n => exact h
  | ref a => exact h
theorem RepO.one {K : PySem.W.Frag} {S H : Hp} {m : MO} {o : HO} {a : Addr} (h : RepO K S m o) (e : H a = some o) : Rep1 K S H m.d (.ref a) := by
  cases m with
  | lst ds =>
    obtain ⟨vs, rfl, l, r⟩ := h
    exact ⟨a, vs, rfl, e, l, Reps.len r, r⟩
  | dK ds =>
    obtain ⟨vs, rfl, l, r⟩ := h
    exact ⟨a, vs, rfl, .inl e, l, r⟩
  | ins C gs =>
    obtain ⟨Ca, dx, fs, c, rfl, r⟩ := h
    exact ⟨Ca, a, dx, fs, c, rfl, e, r⟩
theorem view_one {K : PySem.W.Frag} {S : Hp} {env : ME} {σ : St} {H : Hp} {a : AV} {v : V} {d : D} (r : Rel K S env σ H) (ra : RA K σ S a v) (h : viewA a env = some d) : Rep1 K S H d v := by
  cases a with
  | d d' =>
    cases h
    exact Rep.one r.sub ra
  | own i =>
    unfold viewA at h
    dsimp only at h
    split at h
    · rename_i s hs
      split at h
      · rename_i m hm
        cases h
        obtain ⟨a, o, e1, e2, e3, e4⟩ := r.obj i m ⟨s, hs, hm⟩
        have ra' : σ[i]? = some (some v) := ra
        rw [e1] at ra'
        cases ra'
        exact e4.one e2
      · cases h
    · cases h
/-- an operation on what is handed on, that changes nothing -/
def eOn {α : Type} (a : AV) (op : D → Option α) : EF α := fun env => match viewA a env with
  | some d => match op d with
    | some r => some (.ok r, env)
    | none => none
  | none => none
theorem At.on {α β : Type} {K : PySem.W.Frag} {W : WX} {R : RR α β} {a : AV} {op : D → Option α} {S : Hp} {env : ME} {σ : St} {H : Hp} {Q : β → Hp → Prop} {v : V} (z : At K W R (eOn a op) S env σ H Q) (ra : RA K σ S a v) :
    ∃ d x, Rep1 K S H d v ∧ op d = some x ∧ Rel K S env σ H ∧ ∀ S' H', Step K S env σ H S' env σ H' → ∀ b, R σ S' x b → Q b H' := by
  obtain ⟨r, env', rel, e, q⟩ := z
  unfold eOn at e
  split at e
  · rename_i d hd
    split at e
    · rename_i x hx
      cases e
      exact ⟨d, x, view_one rel ra hd, hx, rel, fun S' H' st => q S' H' st⟩
    · cases e
  · cases e
/-- two of them -/
def eOn2 {α : Type} (a b : AV) (op : D → D → Option α) : EF α := fun env => match viewA a env, viewA b env with
  | some d, some d' => match op d d' with
    | some r => some (.ok r, env)
    | none => none
  | _, _ => none
theorem At.on2 {α β : Type} {K : PySem.W.Frag} {W : WX} {R : RR α β} {a b : AV} {op : D → D → Option α} {S : Hp} {env : ME} {σ : St} {H : Hp} {Q : β → Hp → Prop} {v u : V} (z : At K W R (eOn2 a b op) S env σ H Q) (ra : RA K σ S a v) (rb : RA K σ S b u) :
    ∃ d d' x, Rep1 K S H d v ∧ Rep1 K S H d' u ∧ op d d' = some x ∧ Rel K S env σ H ∧ ∀ S' H', Step K S env σ H S' env σ H' → ∀ b, R σ S' x b → Q b H' := by
  obtain ⟨r, env', rel, e, q⟩ := z
  unfold eOn2 at e
  split at e
  · rename_i d d' hd hd'
    split at e
    · rename_i x hx
      cases e
      exact ⟨d, d', x, view_one rel ra hd, view_one rel rb hd', hx, rel, fun S' H' st => q S' H' st⟩
    · cases e
  · cases e
/-! ## built-in functions by name -/
section
variable {X : Cx} {W : WX}
theorem de_callB {x : Str} {id : String} {r : List V → Hp → VK → Prop} {p pos : Pos} {e : Expr} {es : List Expr} {fas : EF (List AV)} {g : List AV → EF D} (hc : CallR X (.builtin id) r) (hm : X.mg x = none) (hv : bootBuiltins x = some (.builtin id)) (ha : DA X W (e :: es) fas)
    (h : ∀ S env σ H Q as vs, RAs X.K σ S as vs → At X.K W (RD X.K) (g as) S env σ H Q → r vs H Q)
    (hg : Gl X x := by rfl) (hn : x ≠ "__name__" := by decide) (hd : (x == ("__debug__" : Str)) = false := by decide) (he : starEach (e :: es) X.env = (false, eval e X.env) :: starEach es X.env := by rfl) (hpl : (backTo pos (starEach es X.env)).any (·.1) = false := by rfl) :
    DE X W (.Call (.Name x p) (e :: es) [] pos) (eBind fas g) := by
  refine pe_imp (pe_callB hc hg hm hv ha hn hd he hpl) ?_
  rintro σ H Q ⟨S, env, z⟩
  exact ⟨S, env, (At.bind (R := RAl X.K) z).imp fun vs H1 ⟨as, S1, e1, rv, st, z1⟩ => h S1 e1 σ H1 Q as vs rv z1⟩
theorem de_callTy {x : Str} {T : String} {r : List V → Hp → VK → Prop} {p pos : Pos} {e : Expr} {es : List Expr} {fas : EF (List AV)} {g : List AV → EF D} (hc : CallR X (.type T) r) (hm : X.mg x = none) (hv : bootBuiltins x = some (.type T)) (ha : DA X W (e :: es) fas)
    (h : ∀ S env σ H Q as vs, RAs X.K σ S as vs → At X.K W (RD X.K) (g as) S env σ H Q → r vs H Q)
    (hg : Gl X x := by rfl) (hn : x ≠ "__name__" := by decide) (hd : (x == ("__debug__" : Str)) = false := by decide) (he : starEach (e :: es) X.env = (false, eval e X.env) :: starEach es X.env := by rfl) (hpl : (backTo pos (starEach es X.env)).any (·.1) = false := by rfl) :
    DE X W (.Call (.Name x p) (e :: es) [] pos) (eBind fas g) := by
  refine pe_imp (pe_callTy hc hg hm hv ha hn hd he hpl) ?_
  rintro σ H Q ⟨S, env, z⟩
  exact ⟨S, env, (At.bind (R := RAl X.K) z).imp fun vs H1 ⟨as, S1, e1, rv, st, z1⟩ => h S1 e1 σ H1 Q as vs rv z1⟩
end
/-- one argument, two -/
def g1 {α : Type} (g : AV → EF α) : List AV → EF α
  | [a] => g a
  | _ => fun _ => none
def g2 {α : Type} (g : AV → AV → EF α) : List AV → EF α
  | [a, b] => g a b
  | _ => fun _ => none
section
variable {α β : Type} {K : PySem.W.Frag} {W : WX} {R : RR α β} {S : Hp} {env : ME} {σ : St} {H : Hp} {Q : β → Hp → Prop} {as : List AV} {vs : List V}
theorem no_at {P : Prop} (z : At K W R (fun _ => none) S env σ H Q) : P := by
  obtain ⟨_, _, _, e, _⟩ := z
  cases e
theorem At.g1 {g : AV → EF α} (z : At K W R (g1 g as) S env σ H Q) (r : RAs K σ S as vs) : ∃ a v, vs = [v] ∧ RA K σ S a v ∧ At K W R (g a) S env σ H Q := by
  match as, z, r with
  | [], z, r => exact no_at z
  | [a], z, r =>
    obtain ⟨v, rs, e, h1, h2⟩ := r
    cases h2
    exact ⟨a, v, e, h1, z⟩
  | _ :: _ :: _, z, r => exact no_at z
theorem At.g2 {g : AV → AV → EF α} (z : At K W R (g2 g as) S env σ H Q) (r : RAs K σ S as vs) : ∃ a b v u, vs = [v, u] ∧ RA K σ S a v ∧ RA K σ S b u ∧ At K W R (g a b) S env σ H Q := by
  match as, z, r with
  | [], z, r => exact no_at z
  | [a], z, r => exact no_at z
  | [a, b], z, r =>
    obtain ⟨v, rs, e, h1, u, rs', e', h2, h3⟩ := r
    cases h3
    subst e'
    exact ⟨a, b, v, u, e, h1, h2, z⟩
  | _ :: _ :: _ :: _, z, r => exact no_at z
end
/-! ### scalar kinds -/
theorem rep_int {K : PySem.W.Frag} {S : Hp} {i : Int} {v : V} (h : Rep K S (.int i) v) : v = .int i := h
def dInts : List D → Option (List Int)
  | [] => some []
  | .int i :: r => match dInts r with
    | some q => some (i :: q)
    | none => none
  | _ :: _ => none
theorem dInts_v {K : PySem.W.Frag} {S : Hp} : ∀ {ds : List D} {ns : List Int} {vs : List V}, dInts ds = some ns → Reps K S ds vs → vs = ns.map V.int
  | [], ns, vs, h, r => by cases h; exact r
  | .int i :: ds, ns, vs, h, r => by
    unfold dInts at h
    cases q : dInts ds with
    | none => rw [q] at h; cases h
    | some z =>
      rw [q] at h
      cases h
      obtain ⟨v, rs, e, h1, h2⟩ := r
      rw [e, dInts_v q h2, rep_int h1]
      rfl
  | .non :: _, _, _, h, _ | .bl _ :: _, _, _, h, _ | .str _ :: _, _, _, h, _ | .ty _ :: _, _, _, h, _ | .ref _ :: _, _, _, h, _ | .tup _ :: _, _, _, h, _ | .lst _ :: _, _, _, h, _ | .frl _ :: _, _, _, h, _ | .dK _ :: _, _, _, h, _ | .ins _ _ :: _, _, _, h, _ | .exc _ _ :: _, _, _, h, _ => by cases h
def dBls : List D → Option (List Bool)
  | [] => some []
  | .bl i :: r => match dBls r with
    | some q => some (i :: q)
    | none => none
  | _ :: _ => none
theorem dBls_v {K : PySem.W.Frag} {S : Hp} : ∀ {ds : List D} {ns : List Bool} {vs : List V}, dBls ds = some ns → Reps K S ds vs → vs = ns.map V.bl
  | [], ns, vs, h, r => by cases h; exact r
  | .bl i :: ds, ns, vs, h, r => by
    unfold dBls at h
    cases q : dBls ds with
    | none => rw [q] at h; cases h
    | some z =>
      rw [q] at h
      cases h
      obtain ⟨v, rs, e, h1, h2⟩ := r
      have h1' : v = .bl i := h1
      rw [e, dBls_v q h2, h1']
      rfl
  | .non :: _, _, _, h, _ | .int _ :: _, _, _, h, _ | .str _ :: _, _, _, h, _ | .ty _ :: _, _, _, h, _ | .ref _ :: _, _, _, h, _ | .tup _ :: _, _, _, h, _ | .lst _ :: _, _, _, h, _ | .frl _ :: _, _, _, h, _ | .dK _ :: _, _, _, h, _ | .ins _ _ :: _, _, _, h, _ | .exc _ _ :: _, _, _, h, _ => by cases h
def dStrs : List D → Option (List Str)
  | [] => some []
  | .str i :: r => match dStrs r with
    | some q => some (i :: q)
    | none => none
  | _ :: _ => none
theorem dStrs_v {K : PySem.W.Frag} {S : Hp} : ∀ {ds : List D} {ns : List Str} {vs : List V}, dStrs ds = some ns → Reps K S ds vs → vs = ns.map V.str ∧ ns.length = ds.length ∧ ∀ x ∈ ns, x.length ≤ sizeLine
  | [], ns, vs, h, r => by cases h; exact ⟨r, rfl, fun x hx => by cases hx⟩
  | .str i :: ds, ns, vs, h, r => by
    unfold dStrs at h
    cases q : dStrs ds with
    | none => rw [q] at h; cases h
    | some z =>
      rw [q] at h
      cases h
      obtain ⟨v, rs, e, h1, h2⟩ := r
      obtain ⟨h1', hl⟩ := h1
      obtain ⟨e2, l2, b2⟩ := dStrs_v q h2
      rw [e, e2, h1']
      refine ⟨rfl, by simp [l2], fun x hx => ?_⟩
      rcases List.mem_cons.mp hx with rfl | hx
      · exact hl
      · exact b2 x hx
  | .non :: _, _, _, h, _ | .int _ :: _, _, _, h, _ | .bl _ :: _, _, _, h, _ | .ty _ :: _, _, _, h, _ | .ref _ :: _, _, _, h, _ | .tup _ :: _, _, _, h, _ | .lst _ :: _, _, _, h, _ | .frl _ :: _, _, _, h, _ | .dK _ :: _, _, _, h, _ | .ins _ _ :: _, _, _, h, _ | .exc _ _ :: _, _, _, h, _ => by cases h

section
variable {X : Cx} {W : WX} {x : Str} {p pos : Pos} {e : Expr} {es : List Expr} {fas : EF (List AV)}
/-! ### len, sum, all, any, abs, min, max, int, repr -/
def oLen : D → Option D
  | .str z => some (.int z.length)
  | .lst ds => some (.int ds.length)
  | .frl ds => some (.int ds.length)
  | .tup ds => some (.int ds.length)
  | .dK kds => some (.int kds.length)
  | _ => none
theorem repK_len {K : PySem.W.Frag} {S : Hp} : ∀ {l : List (Key × D)} {vs : List (Key × V)}, RepK K S l vs → l.length = vs.length
  | [], _, h => by cases h; rfl
  | (k, a) :: as, _, h => by
    obtain ⟨v, r, e, p, q⟩ := h
    subst e
    simp [repK_len q]
theorem call_lenR : CallR X (.builtin "len") (fun xs H Q => ∃ a kvs, xs = [V.ref a] ∧ Rd H a (.dK kvs) ∧ Q (.int kvs.length) H) := by
  intro pins s σ H xs us Q I r h
  obtain ⟨a, kvs, rfl, ha, q⟩ := h
  obtain ⟨u, rfl, ru⟩ := vals1 r
  cases ru
  exact d_len I ha fun t s' I' => ⟨.int kvs.length, H, I', ⟨t, rfl⟩, q⟩
theorem de_len (hm : X.mg "len" = none) (ha : DA X W (e :: es) fas) (hg : Gl X "len" := by rfl) (he : starEach (e :: es) X.env = (false, eval e X.env) :: starEach es X.env := by rfl) (hpl : (backTo pos (starEach es X.env)).any (·.1) = false := by rfl) :
    DE X W (.Call (.Name "len" p) (e :: es) [] pos) (eBind fas (g1 fun a => eOn a oLen)) := by
  refine de_callB (CallR.or call_len call_lenR) hm PySem.boot_len ha (fun S env σ H Q as vs rv z => ?_) hg (he := he) (hpl := hpl)
  obtain ⟨a, v, rfl, ra, z⟩ := z.g1 rv
  obtain ⟨d, n, rd, ho, rel, q⟩ := z.on ra
  cases d with
  | str z =>
    cases ho
    obtain ⟨rfl, hl⟩ := rd
    exact .inl ⟨_, z.length, rfl, ⟨hl, rfl⟩, q S H rel.step _ rfl⟩
  | lst ds =>
    cases ho
    obtain ⟨b, vs, rfl, hq, hl, e, _⟩ := rd
    exact .inl ⟨_, ds.length, rfl, .inl ⟨vs, SqL.of hq, e⟩, q S H rel.step _ rfl⟩
  | frl ds =>
    cases ho
    obtain ⟨b, vs, rfl, hq, hl, e, _⟩ := rd
    exact .inl ⟨_, ds.length, rfl, .inl ⟨vs, hq, e⟩, q S H rel.step _ rfl⟩
  | tup ds =>
    cases ho
    obtain ⟨b, vs, rfl, hq, hl, e, _⟩ := rd
    exact .inl ⟨_, ds.length, rfl, .inr ⟨vs, hq.sq, e⟩, q S H rel.step _ rfl⟩
  | dK ds =>
    cases ho
    obtain ⟨b, vs, rfl, hq, hl, r⟩ := rd
    refine .inr ⟨b, vs, rfl, hq, ?_⟩
    have z := q S H rel.step (.int (ds.length : Nat)) rfl
    rw [repK_len r] at z
    exact z
  | _ => cases ho
/-- a built-in on one list (or other) of which the rule asks by its value -/
theorem de_b1 {nm : Str} {id : String} {r : List V → Hp → VK → Prop} {op : D → Option D} (hc : CallR X (.builtin id) r) (hm : X.mg nm = none) (hv : bootBuiltins nm = some (.builtin id)) (ha : DA X W (e :: es) fas)
    (h : ∀ d v S H Q x, Rep1 X.K S H d v → op d = some x → (∀ w, (∀ S, Rep X.K S x w) → Q w H) → r [v] H Q) (hx : ∀ d x, op d = some x → ∀ S S' w, Rep X.K S x w → Rep X.K S' x w)
    (hg : Gl X nm := by rfl) (hn : nm ≠ "__name__" := by decide) (hd : (nm == ("__debug__" : Str)) = false := by decide) (he : starEach (e :: es) X.env = (false, eval e X.env) :: starEach es X.env := by rfl) (hpl : (backTo pos (starEach es X.env)).any (·.1) = false := by rfl) :
    DE X W (.Call (.Name nm p) (e :: es) [] pos) (eBind fas (g1 fun a => eOn a op)) := by
  refine de_callB hc hm hv ha (fun S env σ H Q as vs rv z => ?_) hg hn hd he hpl
  obtain ⟨a, v, rfl, ra, z⟩ := z.g1 rv
  obtain ⟨d, n, rd, ho, rel, q⟩ := z.on ra
  exact h d v S H Q n rd ho fun w rw => q S H rel.step w (rw S)
def oAll : D → Option D
  | .lst ds => match dBls ds with
    | some bs => some (.bl (bs.all id))
    | none => none
  | _ => none
def oAny : D → Option D
  | .lst ds => match dBls ds with
    | some bs => some (.bl (bs.any id))
    | none => none
  | _ => none
def oSum : D → Option D
  | .lst ds => match dInts ds with
    | some bs => some (.int bs.sum)
    | none => none
  | _ => none
def oAbs : D → Option D
  | .int i => some (.int (if i < 0 then -i else i))
  | _ => none
def oRepr : D → Option D
  | .bl true => some (.str "True")
  | .bl false => some (.str "False")
  | .int i => if i.natAbs.log2 < 1920 then some (.str (toString i)) else none
  | .str _ => none
  | _ => none
theorem repB {K : PySem.W.Frag} {S S' : Hp} {b : Bool} {w : V} (h : Rep K S (.bl b) w) : Rep K S' (.bl b) w := h
theorem de_all (hc : X.calm = true) (hm : X.mg "all" = none) (ha : DA X W (e :: es) fas) (hg : Gl X "all" := by rfl) (he : starEach (e :: es) X.env = (false, eval e X.env) :: starEach es X.env := by rfl) (hpl : (backTo pos (starEach es X.env)).any (·.1) = false := by rfl) :
    DE X W (.Call (.Name "all" p) (e :: es) [] pos) (eBind fas (g1 fun a => eOn a oAll)) := by
  refine de_b1 (cr_all hc) hm (by decide +kernel) ha (fun d v S H Q x rd ho q => ?_) (fun d x ho S S' w h => ?_) hg (by decide) (by decide) he hpl
  · cases d with
    | lst ds =>
      unfold oAll at ho
      dsimp only at ho
      split at ho
      · rename_i bs hb
        cases ho
        obtain ⟨a, vs, rfl, hq, hl, e, r⟩ := rd
        have := dBls_v hb r
        subst this
        exact ⟨a, bs, rfl, SqL.of hq, q _ fun _ => rfl⟩
      · cases ho
    | _ => cases ho
  · cases d with
    | lst ds =>
      unfold oAll at ho
      dsimp only at ho
      split at ho
      · cases ho; exact h
      · cases ho
    | _ => cases ho
theorem de_any (hc : X.calm = true) (hm : X.mg "any" = none) (ha : DA X W (e :: es) fas) (hg : Gl X "any" := by rfl) (he : starEach (e :: es) X.env = (false, eval e X.env) :: starEach es X.env := by rfl) (hpl : (backTo pos (starEach es X.env)).any (·.1) = false := by rfl) :
    DE X W (.Call (.Name "any" p) (e :: es) [] pos) (eBind fas (g1 fun a => eOn a oAny)) := by
  refine de_b1 (cr_any hc) hm (by decide +kernel) ha (fun d v S H Q x rd ho q => ?_) (fun d x ho S S' w h => ?_) hg (by decide) (by decide) he hpl
  · cases d with
    | lst ds =>
      unfold oAny at ho
      dsimp only at ho
      split at ho
      · rename_i bs hb
        cases ho
        obtain ⟨a, vs, rfl, hq, hl, e, r⟩ := rd
        have := dBls_v hb r
        subst this
        exact ⟨a, bs, rfl, SqL.of hq, q _ fun _ => rfl⟩
      · cases ho
    | _ => cases ho
  · cases d with
    | lst ds =>
      unfold oAny at ho
      dsimp only at ho
      split at ho
      · cases ho; exact h
      · cases ho
    | _ => cases ho
theorem de_sum (hc : X.calm = true) (hm : X.mg "sum" = none) (ha : DA X W (e :: es) fas) (hg : Gl X "sum" := by rfl) (he : starEach (e :: es) X.env = (false, eval e X.env) :: starEach es X.env := by rfl) (hpl : (backTo pos (starEach es X.env)).any (·.1) = false := by rfl) :
    DE X W (.Call (.Name "sum" p) (e :: es) [] pos) (eBind fas (g1 fun a => eOn a oSum)) := by
  refine de_b1 (cr_sum hc) hm (by decide +kernel) ha (fun d v S H Q x rd ho q => ?_) (fun d x ho S S' w h => ?_) hg (by decide) (by decide) he hpl
  · cases d with
    | lst ds =>
      unfold oSum at ho
      dsimp only at ho
      split at ho
      · rename_i bs hb
        cases ho
        obtain ⟨a, vs, rfl, hq, hl, e, r⟩ := rd
        have := dInts_v hb r
        subst this
        exact ⟨a, bs, rfl, SqL.of hq, q _ fun _ => rfl⟩
      · cases ho
    | _ => cases ho
  · cases d with
    | lst ds =>
      unfold oSum at ho
      dsimp only at ho
      split at ho
      · cases ho; exact h
      · cases ho
    | _ => cases ho
theorem de_abs (hm : X.mg "abs" = none) (ha : DA X W (e :: es) fas) (hg : Gl X "abs" := by rfl) (he : starEach (e :: es) X.env = (false, eval e X.env) :: starEach es X.env := by rfl) (hpl : (backTo pos (starEach es X.env)).any (·.1) = false := by rfl) :
    DE X W (.Call (.Name "abs" p) (e :: es) [] pos) (eBind fas (g1 fun a => eOn a oAbs)) := by
  refine de_b1 call_abs hm (by decide +kernel) ha (fun d v S H Q x rd ho q => ?_) (fun d x ho S S' w h => ?_) hg (by decide) (by decide) he hpl
  · cases d with
    | int i =>
      cases ho
      exact ⟨i, congrArg (fun z => [z]) (show v = V.int i from rd), q _ fun _ => rfl⟩
    | _ => cases ho
  · cases d with
    | int i => cases ho; exact h
    | _ => cases ho
end
end Mir

namespace Mir
open PySem PySem.Spec PyProof.Rows L2
section
variable {X : Cx} {W : WX}
/-! ## operators by values -/
/-- the rule r of an operation does what op says -/
def OpOk (K : PySem.W.Frag) (r : R2) (op : D → D → Option D) : Prop := ∀ S env σ H (Q : VK) d d' v u x, Rel K S env σ H → Rep1 K S H d v → Rep1 K S H d' u → op d d' = some x →
  (∀ S' H', Step K S env σ H S' env σ H' → ∀ b, Rep K S' x b → Q b H') → r v u H Q
theorem OpOk.or {K : PySem.W.Frag} {r r' : R2} {op op' : D → D → Option D} (h : OpOk K r op) (h' : OpOk K r' op') : OpOk K (fun x y H Q => r x y H Q ∨ r' x y H Q) (fun a b => match op a b with
  | some x => some x
  | none => op' a b) := by
  intro S env σ H Q d d' v u x rel r1 r2 e q
  cases ho : op d d' with
  | some y =>
    simp only [ho] at e
    cases e
    exact .inl (h S env σ H Q d d' v u _ rel r1 r2 ho q)
  | none =>
    simp only [ho] at e
    exact .inr (h' S env σ H Q d d' v u _ rel r1 r2 e q)
theorem de_bin {o : Operator} {r : R2} {op : D → D → Option D} {a b : Expr} {fa fb : EF AV} {pos : Pos} (ho : OpR X (binaryOp o) r) (h : OpOk X.K r op) (ha : DV X W a fa) (hb : DV X W b fb) : DE X W (.BinOp a o b pos) (e2 fa fb fun x y => eOn2 x y op) := by
  refine de_op ho ha hb fun S env σ H Q x y vx vy rx ry z => ?_
  obtain ⟨d, d', w, r1, r2, e, rel, q⟩ := z.on2 rx ry
  exact h S env σ H Q d d' vx vy w rel r1 r2 e q
theorem de_cmpO {o : CmpOp} {r : R2} {op : D → D → Option D} {a b : Expr} {fa fb : EF AV} {pos : Pos} (ho : OpR X (compareOp o) r) (h : OpOk X.K r op) (hm : behindInMarks o b = false) (ha : DV X W a fa) (hb : DV X W b fb) : DE X W (.Compare a [o] [b] pos) (e2 fa fb fun x y => eOn2 x y op) := by
  refine de_cmp ho hm ha hb fun S env σ H Q x y vx vy rx ry z => ?_
  obtain ⟨d, d', w, r1, r2, e, rel, q⟩ := z.on2 rx ry
  exact h S env σ H Q d d' vx vy w rel r1 r2 e q
theorem dt_cmpO {o : CmpOp} {r : R2} {op : D → D → Option D} {a b : Expr} {fa fb : EF AV} {pos : Pos} (ho : OpR X (compareOp o) r) (h : OpOk X.K r op) (hm : behindInMarks o b = false) (ha : DV X W a fa) (hb : DV X W b fb) : DT X W (.Compare a [o] [b] pos) (eT (e2 fa fb fun x y => eOn2 x y op)) := by
  refine dt_cmp ho hm ha hb fun S env σ H Q x y vx vy rx ry z => ?_
  obtain ⟨d, d', w, r1, r2, e, rel, q⟩ := z.on2 rx ry
  exact h S env σ H Q d d' vx vy w rel r1 r2 e q
/-! ### ints -/
def oI (f : Int → Int → Option D) : D → D → Option D
  | .int i, .int j => f i j
  | _, _ => none
theorem oI_inv {f : Int → Int → Option D} {d d' x : D} (h : oI f d d' = some x) : ∃ i j, d = .int i ∧ d' = .int j ∧ f i j = some x := by
  cases d with
  | int i =>
    cases d' with
    | int j => exact ⟨i, j, rfl, rfl, h⟩
    | _ => cases h
  | _ => cases h
theorem ok_rI0 {K : PySem.W.Frag} {g : Int → Int → V} {f : Int → Int → D} (h : ∀ i j S, Rep K S (f i j) (g i j)) : OpOk K (rI0 g) (oI fun i j => some (f i j)) := by
  intro S env σ H Q d d' v u x rel r1 r2 e q
  obtain ⟨i, j, rfl, rfl, e⟩ := oI_inv e
  cases e
  exact ⟨i, j, r1, r2, q S H rel.step _ (h i j S)⟩
theorem ok_rI {K : PySem.W.Frag} {C : Int → Int → Prop} {g : Int → Int → V} {f : Int → Int → Option D} (hC : ∀ i j x, f i j = some x → C i j) (h : ∀ i j x S, f i j = some x → Rep K S x (g i j)) : OpOk K (rI C g) (oI f) := by
  intro S env σ H Q d d' v u x rel r1 r2 e q
  obtain ⟨i, j, rfl, rfl, e⟩ := oI_inv e
  exact ⟨i, j, r1, r2, hC i j x e, q S H rel.step _ (h i j x S e)⟩
def oLt := oI fun i j => some (.bl (decide (i < j)))
def oLe := oI fun i j => some (.bl (decide (i ≤ j)))
def oGt := oI fun i j => some (.bl (decide (j < i)))
def oGe := oI fun i j => some (.bl (decide (j ≤ i)))
theorem ok_lt {K : PySem.W.Frag} : OpOk K (rI0 fun i j => .bl (decide (i < j))) oLt := ok_rI0 fun _ _ _ => rfl
theorem ok_le {K : PySem.W.Frag} : OpOk K (rI0 fun i j => .bl (decide (i ≤ j))) oLe := ok_rI0 fun _ _ _ => rfl
theorem ok_gt {K : PySem.W.Frag} : OpOk K (rI0 fun i j => .bl (decide (j < i))) oGt := ok_rI0 fun _ _ _ => rfl
theorem ok_ge {K : PySem.W.Frag} : OpOk K (rI0 fun i j => .bl (decide (j ≤ i))) oGe := ok_rI0 fun _ _ _ => rfl
def oSub := oI fun i j => some (.int (i - j))
theorem ok_sub {K : PySem.W.Frag} : OpOk K (rI0 fun i j => .int (i - j)) oSub := ok_rI0 fun _ _ _ => rfl
def oMul := oI fun i j => if i.natAbs.log2 + j.natAbs.log2 < 1000000 then some (.int (i * j)) else if (-(2 ^ 64) < i ∧ i < 2 ^ 64) ∨ (-(2 ^ 64) < j ∧ j < 2 ^ 64) then some (.int (i * j)) else none
theorem ok_mul {K : PySem.W.Frag} : OpOk K (fun x y H Q => rI CMulW (fun i j => .int (i * j)) x y H Q ∨ rI CMul (fun i j => .int (i * j)) x y H Q) oMul := by
  intro S env σ H Q d d' v u x rel r1 r2 e q
  obtain ⟨i, j, rfl, rfl, e'⟩ := oI_inv e
  clear e
  split at e'
  · rename_i h
    cases e'
    exact .inl ⟨i, j, r1, r2, h, q S H rel.step _ rfl⟩
  · split at e'
    · rename_i h
      cases e'
      exact .inr ⟨i, j, r1, r2, h, q S H rel.step _ rfl⟩
    · cases e'
def oFdiv := oI fun i j => if 0 < j ∧ j.natAbs.log2 < 9000 then some (.int (i / j)) else none
theorem ok_fdiv {K : PySem.W.Frag} : OpOk K (rI CDivW fun i j => .int (i / j)) oFdiv := by
  refine ok_rI (fun i j x h => ?_) fun i j x S h => ?_
  · split at h
    · assumption
    · cases h
  · split at h
    · cases h; rfl
    · cases h
def oMod := oI fun i j => if 0 < j then some (.int (i % j)) else none
theorem ok_mod {K : PySem.W.Frag} : OpOk K (rI (fun _ j => 0 < j) fun i j => .int (i % j)) oMod := by
  refine ok_rI (fun i j x h => ?_) fun i j x S h => ?_
  · split at h
    · assumption
    · cases h
  · split at h
    · cases h; rfl
    · cases h
def oPow := oI fun i j => if 0 ≤ j ∧ j ≤ 1000000 ∧ i.natAbs < 2 ^ 64 then some (.int (i ^ j.toNat)) else none
theorem ok_pow {K : PySem.W.Frag} : OpOk K (rI CPow fun i j => .int (i ^ j.toNat)) oPow := by
  refine ok_rI (fun i j x h => ?_) fun i j x S h => ?_
  · split at h
    · assumption
    · cases h
  · split at h
    · cases h; rfl
    · cases h
/-! ### + of ints, texts, lists, tuples -/
def oAdd : D → D → Option D
  | .int i, .int j => some (.int (i + j))
  | .str x, .str y => if x.length + y.length ≤ sizeLine then some (.str (x ++ y)) else none
  | .lst xs, .lst ys => if xs.length + ys.length ≤ sizeLine then some (.lst (xs ++ ys)) else none
  | _, _ => none
theorem reps_app {K : PySem.W.Frag} {S : Hp} : ∀ {a b : List D} {va vb : List V}, Reps K S a va → Reps K S b vb → Reps K S (a ++ b) (va ++ vb)
  | [], b, va, vb, h, h' => by cases h; exact h'
  | d :: a, b, _, vb, h, h' => by
    obtain ⟨v, r, e, p, q⟩ := h
    subst e
    exact ⟨v, r ++ vb, rfl, p, reps_app q h'⟩
theorem str_add_len (x y : Str) : (x ++ y).length = x.length + y.length := by
  show (x.cps ++ y.cps).size = x.cps.size + y.cps.size
  simp
abbrev rAddStr : R2 := fun x y H Q => ∃ i j : Str, x = .str i ∧ y = .str j ∧ i.length + j.length ≤ sizeLine ∧ Q (.str (i ++ j)) H
abbrev rAdd3 : R2 := fun x y H Q => rI0 (fun i j => .int (i + j)) x y H Q ∨ rAddStr x y H Q ∨ rCat x y H Q
theorem op_add3 : OpR X (binaryOp .Add) rAdd3 := OpR.or op_add (OpR.or op_add_str op_cat)
theorem ok_add {K : PySem.W.Frag} : OpOk K rAdd3 oAdd := by
  intro S env σ H Q d d' v u x rel r1 r2 e q
  cases d with
  | int i =>
    cases d' with
    | int j => cases e; exact .inl ⟨i, j, r1, r2, q S H rel.step _ rfl⟩
    | _ => cases e
  | str i =>
    cases d' with
    | str j =>
      unfold oAdd at e
      dsimp only at e
      split at e
      · rename_i h
        cases e
        exact .inr (.inl ⟨i, j, r1.1, r2.1, h, q S H rel.step _ ⟨rfl, by rw [str_add_len]; exact h⟩⟩)
      · cases e
    | _ => cases e
  | lst xs =>
    cases d' with
    | lst ys =>
      unfold oAdd at e
      dsimp only at e
      split at e
      · rename_i h
        cases e
        obtain ⟨a, vs, rfl, hq, hl, el, rr⟩ := r1
        obtain ⟨b, us, rfl, hq', hl', el', rr'⟩ := r2
        refine .inr (.inr ⟨a, b, vs, us, rfl, rfl, hq, hq', by rw [← el, ← el']; exact h, fun p hp => ?_⟩)
        have al := rel.alloc (o := .lst (vs ++ us)) hp
        exact q _ _ al _ ⟨p, vs ++ us, rfl, upd_same, by rw [List.length_append]; exact h, reps_app (Reps.mono al.le _ _ rr) (Reps.mono al.le _ _ rr')⟩
      · cases e
    | _ => cases e
  | _ => cases e
/-! ### ==, != of data -/
mutual
def toPy : D → Option PyData
  | .non => some .none
  | .bl b => some (.bool b)
  | .int i => some (.int i)
  | .str x => some (.str x)
  | .tup ds => match toPys ds with
    | some l => some (.tuple l)
    | none => none
  | .lst ds => match toPys ds with
    | some l => some (.list l)
    | none => none
  | _ => none
def toPys : List D → Option (List PyData)
  | [] => some []
  | d :: ds => match toPy d, toPys ds with
    | some p, some l => some (p :: l)
    | _, _ => none
end
mutual
theorem dp_of {K : PySem.W.Frag} {S H : Hp} (sm : Same S H) : ∀ (d : D) (v : V) (p : PyData), Rep K S d v → toPy d = some p → Dp K H v p
  | .non, v, p, r, e => by cases e; cases r; exact .non
  | .bl b, v, p, r, e => by cases e; cases r; exact .bl b
  | .int i, v, p, r, e => by cases e; cases r; exact .int i
  | .str x, v, p, r, e => by cases e; cases r.1; exact .str x
  | .tup ds, v, p, r, e => by
    unfold toPy at e
    split at e
    · rename_i l hl
      cases e
      obtain ⟨a, vs, rfl, hq, _, rr⟩ := r
      exact .tup ((Le.of sm).tupAt hq).sq (dps_of sm ds vs l rr hl)
    · cases e
  | .lst ds, v, p, r, e => by
    unfold toPy at e
    split at e
    · rename_i l hl
      cases e
      obtain ⟨a, vs, rfl, hq, _, rr⟩ := r
      exact .lst (SqL.of (sm _ _ hq)) (dps_of sm ds vs l rr hl)
    · cases e
  | .frl ds, v, p, r, e => by unfold toPy at e; cases e
  | .dK ds, v, p, r, e => by unfold toPy at e; cases e
  | .ins C ds, v, p, r, e => by unfold toPy at e; cases e
  | .exc C ds, v, p, r, e => by unfold toPy at e; cases e
  | .ty n, v, p, r, e => by unfold toPy at e; cases e
  | .ref n, v, p, r, e => by unfold toPy at e; cases e
theorem dps_of {K : PySem.W.Frag} {S H : Hp} (sm : Same S H) : ∀ (ds : List D) (vs : List V) (l : List PyData), Reps K S ds vs → toPys ds = some l → DpAll K H vs l
  | [], vs, l, r, e => by cases e; cases r; exact .nil
  | d :: ds, vs, l, r, e => by
    unfold toPys at e
    split at e
    · rename_i p l' hp hl
      cases e
      obtain ⟨v, rs, rfl, r1, r2⟩ := r
      exact .cons (dp_of sm d v p r1 hp) (dps_of sm ds rs l' r2 hl)
    · cases e
end
theorem dp_one {K : PySem.W.Frag} {S H : Hp} (sm : Same S H) {d : D} {v : V} {p : PyData} (r : Rep1 K S H d v) (e : toPy d = some p) : Dp K H v p := by
  cases d with
  | tup ds =>
    unfold toPy at e
    split at e
    · rename_i l hl
      cases e
      obtain ⟨a, vs, rfl, hq, _, _, rr, _⟩ := r
      exact .tup hq.sq (dps_of sm ds vs l rr hl)
    · cases e
  | lst ds =>
    unfold toPy at e
    split at e
    · rename_i l hl
      cases e
      obtain ⟨a, vs, rfl, hq, _, _, rr⟩ := r
      exact .lst (SqL.of hq) (dps_of sm ds vs l rr hl)
    · cases e
  | non => exact dp_of (K := K) (S := S) sm .non _ _ r e
  | bl b => exact dp_of (K := K) (S := S) sm (.bl b) _ _ r e
  | int i => exact dp_of (K := K) (S := S) sm (.int i) _ _ r e
  | str x => exact dp_of (K := K) (S := S) sm (.str x) _ _ r e
  | frl ds => unfold toPy at e; cases e
  | dK ds => unfold toPy at e; cases e
  | ins C ds => unfold toPy at e; cases e
  | exc C ds => unfold toPy at e; cases e
  | ty n => unfold toPy at e; cases e
  | ref n => unfold toPy at e; cases e
def eqD (a b : D) : Option Bool := match toPy a, toPy b with
  | some p, some q => if SeqAt.shaped p = true ∧ SeqAt.shaped q = true then some (PyData.eqv p q) else none
  | _, _ => none
def oEq (a b : D) : Option D := match eqD a b with
  | some c => some (.bl c)
  | none => none
def oNe (a b : D) : Option D := match eqD a b with
  | some c => some (.bl (!c))
  | none => none
theorem eqD_inv {a b : D} {c : Bool} (h : eqD a b = some c) : ∃ p q, toPy a = some p ∧ toPy b = some q ∧ SeqAt.shaped p = true ∧ SeqAt.shaped q = true ∧ c = PyData.eqv p q := by
  unfold eqD at h
  split at h
  · rename_i p q hp hq
    split at h
    · rename_i hs
      cases h
      exact ⟨p, q, hp, hq, hs.1, hs.2, rfl⟩
    · cases h
  · cases h
theorem ok_eq {K : PySem.W.Frag} : OpOk K (rEqD K) oEq := by
  intro S env σ H Q d d' v u x rel r1 r2 e q
  unfold oEq at e
  split at e
  · rename_i c hc
    cases e
    obtain ⟨p, p', h1, h2, h3, h4, rfl⟩ := eqD_inv hc
    exact ⟨p, p', dp_one rel.sub r1 h1, dp_one rel.sub r2 h2, h3, h4, q S H rel.step _ rfl⟩
  · cases e
theorem ok_ne {K : PySem.W.Frag} : OpOk K (rNeD K) oNe := by
  intro S env σ H Q d d' v u x rel r1 r2 e q
  unfold oNe at e
  split at e
  · rename_i c hc
    cases e
    obtain ⟨p, p', h1, h2, h3, h4, rfl⟩ := eqD_inv hc
    exact ⟨p, p', dp_one rel.sub r1 h1, dp_one rel.sub r2 h2, h3, h4, q S H rel.step _ rfl⟩
  · cases e
/-! ### is None, is True -/
def isNone : D → Bool
  | .non => true
  | _ => false
/-- x is y, y None, or both truths -/
def oIs : D → D → Option D
  | d, .non => some (.bl (isNone d))
  | .bl a, .bl b => some (.bl (decide (a = b)))
  | _, _ => none
def oIsNot : D → D → Option D
  | d, .non => some (.bl (!isNone d))
  | .bl a, .bl b => some (.bl (!decide (a = b)))
  | _, _ => none
theorem none_iff {K : PySem.W.Frag} {S H : Hp} {d : D} {v : V} (r : Rep1 K S H d v) : decide (v = .non) = isNone d := by
  cases d with
  | non => cases (show v = V.non from r); rfl
  | bl b => cases (show v = V.bl b from r); rfl
  | int b => cases (show v = V.int b from r); rfl
  | str b => cases r.1; rfl
  | ty n => cases (show v = V.ty n from r); rfl
  | ref n => cases (show v = V.ref n from r); rfl
  | tup ds => obtain ⟨a, _, rfl, _⟩ := r; rfl
  | lst ds => obtain ⟨a, _, rfl, _⟩ := r; rfl
  | frl ds => obtain ⟨a, _, rfl, _⟩ := r; rfl
  | dK ds => obtain ⟨a, _, rfl, _⟩ := r; rfl
  | ins C ds => obtain ⟨Ca, a, _, _, _, rfl, _⟩ := r; rfl
  | exc C ds => obtain ⟨Ca, a, _, _, _, rfl, _⟩ := r; rfl
theorem op_is2 : OpR X (compareOp .Is) (fun x y H Q => (y = .non ∧ Q (.bl (decide (x = .non))) H) ∨ rIsB x y H Q) := OpR.or op_isN op_isBl
theorem op_isnot2 : OpR X (compareOp .IsNot) (fun x y H Q => (y = .non ∧ Q (.bl (!decide (x = .non))) H) ∨ rNotB x y H Q) := OpR.or op_notN op_notBl
theorem ok_is {K : PySem.W.Frag} : OpOk K (fun x y H Q => (y = .non ∧ Q (.bl (decide (x = .non))) H) ∨ rIsB x y H Q) oIs := by
  intro S env σ H Q d d' v u x rel r1 r2 e q
  cases d' with
  | non =>
    have e' : some (D.bl (isNone d)) = some x := by
      cases d <;> exact e
    cases e'
    exact .inl ⟨r2, by rw [none_iff r1]; exact q S H rel.step _ rfl⟩
  | bl b =>
    cases d with
    | bl a => cases e; exact .inr ⟨a, b, r1, r2, q S H rel.step _ rfl⟩
    | _ => cases e
  | _ => cases d <;> cases e
theorem ok_isnot {K : PySem.W.Frag} : OpOk K (fun x y H Q => (y = .non ∧ Q (.bl (!decide (x = .non))) H) ∨ rNotB x y H Q) oIsNot := by
  intro S env σ H Q d d' v u x rel r1 r2 e q
  cases d' with
  | non =>
    have e' : some (D.bl (!isNone d)) = some x := by
      cases d <;> exact e
    cases e'
    exact .inl ⟨r2, by rw [none_iff r1]; exact q S H rel.step _ rfl⟩
  | bl b =>
    cases d with
    | bl a => cases e; exact .inr ⟨a, b, r1, r2, q S H rel.step _ rfl⟩
    | _ => cases e
  | _ => cases d <;> cases e
end
end Mir

namespace Mir
open PySem PySem.Spec PyProof.Rows L2
/-! ## isinstance against built-in classes -/
def tyN : D → Option String
  | .non => some "NoneType"
  | .bl _ => some "bool"
  | .int _ => some "int"
  | .str _ => some "str"
  | .tup _ => some "tuple"
  | .lst _ => some "list"
  | .frl _ => some "list"
  | .dK _ => some "dict"
  | _ => none
def subT (t n : String) : Bool := t == n || (t == "bool" && n == "int")
def okT (n : String) : Bool := n == "str" || n == "int" || n == "bool" || n == "list" || n == "tuple" || n == "dict"
theorem kitB_sub {t n : String} (ht : t = "NoneType" ∨ t = "bool" ∨ t = "int" ∨ t = "str" ∨ t = "tuple" ∨ t = "list" ∨ t = "dict") (hn : okT n = true) : kitB t n = some (subT t n) := by
  have hn' : n = "str" ∨ n = "int" ∨ n = "bool" ∨ n = "list" ∨ n = "tuple" ∨ n = "dict" := by
    unfold okT at hn
    simpa [or_assoc] using hn
  rcases hn' with rfl | rfl | rfl | rfl | rfl | rfl <;> rcases ht with rfl | rfl | rfl | rfl | rfl | rfl | rfl <;> decide +kernel
theorem tyX_of {K : PySem.W.Frag} {S H : Hp} {d : D} {v : V} {t : String} (r : Rep1 K S H d v) (h : tyN d = some t) : TyX K H v (.type t) ∧ (t = "NoneType" ∨ t = "bool" ∨ t = "int" ∨ t = "str" ∨ t = "tuple" ∨ t = "list" ∨ t = "dict") := by
  cases d with
  | non => cases h; cases (show v = V.non from r); exact ⟨.base .non, by simp⟩
  | bl b => cases h; cases (show v = V.bl b from r); exact ⟨.base (.bl b), by simp⟩
  | int b => cases h; cases (show v = V.int b from r); exact ⟨.base (.int b), by simp⟩
  | str b => cases h; cases r.1; exact ⟨.base (.str b), by simp⟩
  | tup ds =>
    cases h
    obtain ⟨a, vs, rfl, hq | ⟨o, its, n, hk, hc, _⟩, _⟩ := r
    · exact ⟨.base (.tup hq), by simp⟩
    · exact ⟨.kTuple hk hc, by simp⟩
  | lst ds =>
    cases h
    obtain ⟨a, vs, rfl, hq, _⟩ := r
    exact ⟨.base (.lst hq), by simp⟩
  | frl ds =>
    cases h
    obtain ⟨a, vs, rfl, (hq | ⟨o, hq⟩) | ⟨o, its, n, hk, hc, _⟩, _⟩ := r
    · exact ⟨.base (.lst hq), by simp⟩
    · exact ⟨.base (.frz hq), by simp⟩
    · exact ⟨.kList hk hc, by simp⟩
  | dK ds =>
    cases h
    obtain ⟨a, vs, rfl, hq | ⟨o, hq⟩, _⟩ := r
    · exact ⟨.base (.dK hq), by simp⟩
    · exact ⟨.fDict hq, by simp⟩
  | ins C ds => cases h
  | exc C ds => cases h
  | ty n => cases h
  | ref n => cases h
/-- the names of built-in classes in a tuple -/
def tysOf : List D → Option (List String)
  | [] => some []
  | .ty n :: r => match tysOf r with
    | some q => if okT n then some (n :: q) else none
    | none => none
  | _ :: _ => none
theorem tysOf_inv {K : PySem.W.Frag} {S : Hp} : ∀ {ds : List D} {ns : List String} {vs : List V}, tysOf ds = some ns → Reps K S ds vs → vs = ns.map V.ty ∧ ∀ n ∈ ns, okT n = true
  | [], ns, vs, h, r => by cases h; exact ⟨r, fun n hn => by cases hn⟩
  | .ty i :: ds, ns, vs, h, r => by
    unfold tysOf at h
    cases q : tysOf ds with
    | none => rw [q] at h; cases h
    | some z =>
      rw [q] at h
      dsimp only at h
      split at h
      · rename_i hi
        cases h
        obtain ⟨v, rs, e, h1, h2⟩ := r
        have h1' : v = .ty i := h1
        obtain ⟨e2, b2⟩ := tysOf_inv q h2
        rw [e, e2, h1']
        refine ⟨rfl, fun n hn => ?_⟩
        rcases List.mem_cons.mp hn with rfl | hn
        · exact hi
        · exact b2 n hn
      · cases h
  | .non :: _, _, _, h, _ | .int _ :: _, _, _, h, _ | .bl _ :: _, _, _, h, _ | .str _ :: _, _, _, h, _ | .ref _ :: _, _, _, h, _ | .tup _ :: _, _, _, h, _ | .lst _ :: _, _, _, h, _ | .frl _ :: _, _, _, h, _ | .dK _ :: _, _, _, h, _ | .ins _ _ :: _, _, _, h, _ | .exc _ _ :: _, _, _, h, _ => by cases h
def oIsi (d c : D) : Option D := match tyN d with
  | some t => match c with
    | .ty n => if okT n then some (.bl (subT t n)) else none
    | .tup cs => match tysOf cs with
      | some ns => some (.bl (ns.any (subT t)))
      | none => none
    | _ => none
  | none => none
theorem clsV_map : ∀ (ns : List String), Paired ClsV (ns.map V.ty) (ns.map Value.type)
  | [] => .nil
  | n :: r => .cons (.ty n) (clsV_map r)
theorem kitAny_ty {K : PySem.W.Frag} {t : String} (ht : t = "NoneType" ∨ t = "bool" ∨ t = "int" ∨ t = "str" ∨ t = "tuple" ∨ t = "list" ∨ t = "dict") : ∀ (ns : List String), (∀ n ∈ ns, okT n = true) → PySem.W.kitAny K (.type t) (ns.map Value.type) = some (ns.any (subT t))
  | [], _ => rfl
  | n :: r, h => by
    have ih := kitAny_ty (K := K) ht r fun m hm => h m (List.mem_cons_of_mem _ hm)
    refine kitAny_cons (b := subT t n) (kit_ty (kitB_sub ht (h n List.mem_cons_self))) (fun e => ?_) fun e => ?_
    · rw [List.any_cons, e, Bool.false_or]; exact ih
    · rw [List.any_cons, e, Bool.true_or]
theorem vals_ty : ∀ {ns : List String} {us : List Value}, Vals (ns.map V.ty) us → us = ns.map Value.type
  | [], us, r => by cases r; rfl
  | n :: ns, us, r => by
    cases r with
    | cons h t =>
      rw [vals_ty t, show _ = Value.type n from h]
      rfl
section
variable {X : Cx} {W : WX} {p pos : Pos} {e : Expr} {es : List Expr} {fas : EF (List AV)}
theorem de_isi (hm : X.mg "isinstance" = none) (ha : DA X W (e :: es) fas) (hg : Gl X "isinstance" := by rfl) (he : starEach (e :: es) X.env = (false, eval e X.env) :: starEach es X.env := by rfl) (hpl : (backTo pos (starEach es X.env)).any (·.1) = false := by rfl) :
    DE X W (.Call (.Name "isinstance" p) (e :: es) [] pos) (eBind fas (g2 fun a b => eOn2 a b oIsi)) := by
  refine de_callB (CallR.or call_isi (CallR.or call_isiT call_isiK)) hm PyProof.Rows.boot_isinstance ha (fun S env σ H Q as vs rv z => ?_) hg (he := he) (hpl := hpl)
  obtain ⟨a, b, v, u, rfl, ra, rb, z⟩ := z.g2 rv
  obtain ⟨d, c, x, r1, r2, ho, rel, q⟩ := z.on2 ra rb
  unfold oIsi at ho
  cases ht : tyN d with
  | none => rw [ht] at ho; cases ho
  | some t =>
    rw [ht] at ho
    dsimp only at ho
    obtain ⟨ty, hts⟩ := tyX_of r1 ht
    cases c with
    | ty n =>
      dsimp only at ho
      split at ho
      · rename_i hn
        cases ho
        cases (show u = V.ty n from r2)
        exact .inl ⟨v, .ty n, .type t, .type n, subT t n, rfl, .ty n, ty, kit_ty (kitB_sub hts hn), q S H rel.step _ rfl⟩
      · cases ho
    | tup cs =>
      dsimp only at ho
      split at ho
      · rename_i ns hns
        cases ho
        obtain ⟨tp, ws, rfl, hT, _, _, rr, _⟩ := r2
        obtain ⟨ew, bn⟩ := tysOf_inv hns rr
        subst ew
        rcases hT with hT | ⟨o, its, n, hk, hc, hd, hz, hv⟩
        · exact .inr (.inl ⟨v, tp, _, .type t, _, _, rfl, hT, clsV_map ns, ty, kitAny_ty hts ns bn, q S H rel.step _ rfl⟩)
        · obtain ⟨oc, od, dt, sl⟩ := o
          dsimp only at hc hd
          subst hc hd
          have e1 := vals_ty hv
          have e2 : its = (ns.map Value.type).toArray := by rw [← e1]
          subst e2
          exact .inr (.inr ⟨v, tp, od, ns.map Value.type, n, sl, .type t, _, rfl, hk, ty, kitAny_ty hts ns bn, q S H rel.step _ rfl⟩)
      · cases ho
    | _ => cases ho
theorem de_ty {x : Str} {n : String} (hm : X.mg x = none) (hv : bootBuiltins x = some (.type n)) (hg : Gl X x := by rfl) (hn : x ≠ "__name__" := by decide) (hd : (x == ("__debug__" : Str)) = false := by decide) : DE X W (.Name x pos) (eRet (.ty n)) :=
  de_const (pe_bltn (v := .ty n) hg hm hv rfl hn hd) fun _ => rfl
/-! ## in: a sign in a text; an item in a list -/
def oInS (d c : D) : Option D := match d, c with
  | .str x, .str z => match x.cps.toList with
    | [k] => some (.bl (decide (k ∈ z.cps.toList)))
    | _ => none
  | _, _ => none
theorem str_one {x : Str} {k : Nat} (h : x.cps.toList = [k]) : x = ⟨#[k]⟩ := by
  obtain ⟨c⟩ := x
  have : c = #[k] := by
    apply Array.toList_inj.mp
    exact h
  rw [this]
theorem ok_inS {K : PySem.W.Frag} : OpOk K (fun x y H Q => ∃ (c : Nat) (z : Str), x = .str ⟨#[c]⟩ ∧ y = .str z ∧ Q (.bl (decide (c ∈ z.cps.toList))) H) oInS := by
  intro S env σ H Q d d' v u x rel r1 r2 e q
  cases d with
  | str y =>
    cases d' with
    | str z =>
      unfold oInS at e
      dsimp only at e
      split at e
      · rename_i k hk
        cases e
        refine ⟨k, z, ?_, r2.1, q S H rel.step _ rfl⟩
        rw [← str_one hk]
        exact r1.1
      · cases e
    | _ => cases e
  | _ => cases d' <;> cases e
/-- x in a list of data -/
def oInL (d c : D) : Option D := match c with
  | .lst ds => match toPy d, toPys ds with
    | some p, some l => if SeqAt.shaped p = true ∧ SeqAt.shaped (.list l) = true then some (.bl (l.any fun z => PyData.eqv z p)) else none
    | _, _ => none
  | _ => none
theorem ok_inL {K : PySem.W.Frag} : OpOk K (rInD K) oInL := by
  intro S env σ H Q d d' v u x rel r1 r2 e q
  cases d' with
  | lst ds =>
    unfold oInL at e
    dsimp only at e
    split at e
    · rename_i p l hp hl
      split at e
      · rename_i hs
        cases e
        refine ⟨p, l, dp_one rel.sub r1 hp, dp_one rel.sub r2 ?_, hs.1, hs.2, q S H rel.step _ rfl⟩
        unfold toPy
        rw [hl]
      · cases e
    · cases e
  | _ => cases e
/-! ## items -/
def oIx (d c : D) : Option D := match d, c with
  | .lst ds, .int i => atI ds i
  | .frl ds, .int i => atI ds i
  | .tup ds, .int i => atI ds i
  | .str z, .int i => match atI z.cps.toList i with
    | some c => some (.str ⟨#[c]⟩)
    | none => none
  | _, _ => none
theorem reps_at {K : PySem.W.Frag} {S : Hp} : ∀ {ds : List D} {vs : List V} {j : Nat} {d : D}, Reps K S ds vs → ds[j]? = some d → ∃ v, vs[j]? = some v ∧ Rep K S d v
  | [], _, j, d, h, e => by simp at e
  | x :: as, _, 0, a, h, e => by
    obtain ⟨v, r, e1, p, q⟩ := h
    subst e1
    simp at e
    subst e
    exact ⟨v, rfl, p⟩
  | x :: as, _, j + 1, a, h, e => by
    obtain ⟨v, r, e1, p, q⟩ := h
    subst e1
    simp only [List.getElem?_cons_succ] at e ⊢
    exact reps_at q e
theorem atI_reps {K : PySem.W.Frag} {S : Hp} {ds : List D} {vs : List V} {i : Int} {d : D} (r : Reps K S ds vs) (h : atI ds i = some d) : ∃ v, atI vs i = some v ∧ Rep K S d v := by
  unfold atI at h ⊢
  rw [← Reps.len r]
  cases e : ixN ds.length i with
  | none => rw [e] at h; cases h
  | some j =>
    rw [e] at h
    exact reps_at r h
abbrev rIx3 (K : PySem.W.Frag) : R2 := fun x y H Q => rIxL K x y H Q ∨ rIxT K x y H Q ∨ rIxS x y H Q
theorem ok_ix {K : PySem.W.Frag} : OpOk K (rIx3 K) oIx := by
  intro S env σ H Q d d' v u x rel r1 r2 e q
  cases d' with
  | int i =>
    cases (show u = V.int i from r2)
    cases d with
    | lst ds =>
      obtain ⟨a, vs, rfl, hq, _, _, rr⟩ := r1
      obtain ⟨w, hw, rw'⟩ := atI_reps rr (show atI ds i = some x from e)
      exact .inl ⟨a, vs, i, w, rfl, rfl, SqL.of hq, hw, q S H rel.step _ rw'⟩
    | frl ds =>
      obtain ⟨a, vs, rfl, hq, _, _, rr⟩ := r1
      obtain ⟨w, hw, rw'⟩ := atI_reps rr (show atI ds i = some x from e)
      exact .inl ⟨a, vs, i, w, rfl, rfl, hq, hw, q S H rel.step _ rw'⟩
    | tup ds =>
      obtain ⟨a, vs, rfl, hq, _, _, rr, _⟩ := r1
      obtain ⟨w, hw, rw'⟩ := atI_reps rr (show atI ds i = some x from e)
      exact .inr (.inl ⟨a, vs, i, w, rfl, rfl, hq.sq, hw, q S H rel.step _ rw'⟩)
    | str z =>
      obtain ⟨rfl, hl⟩ := r1
      unfold oIx at e
      dsimp only at e
      split at e
      · rename_i c hc
        cases e
        exact .inr (.inr ⟨z, i, c, rfl, rfl, hl, hc, q S H rel.step _ ⟨rfl, by show 1 ≤ sizeLine; decide⟩⟩)
      · cases e
    | _ => cases e
  | _ => cases d <;> cases e
theorem ix3 : IxR X (rIx3 X.K) := IxR.or ix_list (IxR.or ix_tup ix_str)
theorem de_ix {a b : Expr} {fa fb : EF AV} (ha : DV X W a fa) (hb : DV X W b fb) (hs : PlainIx b := by exact fun _ _ => rfl) : DE X W (.Subscript a b pos) (e2 fa fb fun x y => eOn2 x y oIx) := by
  refine pe_imp (pe_ix ix3 ha hb hs) ?_
  rintro σ H Q ⟨S, env, z⟩
  refine ⟨S, env, (At.bind (R := RAv X.K) z).imp fun vx H1 ⟨x, S1, e1, rx, st, z1⟩ => ?_⟩
  refine ⟨S1, e1, (At.bind (R := RAv X.K) z1).imp fun vy H2 ⟨y, S2, e2, ry, st2, z2⟩ => ?_⟩
  obtain ⟨d, d', w, r1, r2, e, rel, q⟩ := z2.on2 (rx.mono st2.le) ry
  exact ok_ix S2 e2 σ H2 Q d d' vx vy w rel r1 r2 e q
end
end Mir

namespace Mir
open PySem PySem.Spec PyProof.Rows L2
section
variable {X : Cx} {W : WX} {p pos : Pos} {e : Expr} {es : List Expr} {fas : EF (List AV)}
/-! ## min, max of two; int(..) -/
def oMin (d c : D) : Option D := match d, c with
  | .int i, .int j => some (.int (if j < i then j else i))
  | _, _ => none
def oMax (d c : D) : Option D := match d, c with
  | .int i, .int j => some (.int (if j > i then j else i))
  | _, _ => none
theorem de_min2 (hc : X.calm = true) (hm : X.mg "min" = none) (ha : DA X W (e :: es) fas) (hg : Gl X "min" := by rfl) (he : starEach (e :: es) X.env = (false, eval e X.env) :: starEach es X.env := by rfl) (hpl : (backTo pos (starEach es X.env)).any (·.1) = false := by rfl) :
    DE X W (.Call (.Name "min" p) (e :: es) [] pos) (eBind fas (g2 fun a b => eOn2 a b oMin)) := by
  refine de_callB (call_min2 hc) hm (by decide +kernel) ha (fun S env σ H Q as vs rv z => ?_) hg (he := he) (hpl := hpl)
  obtain ⟨a, b, v, u, rfl, ra, rb, z⟩ := z.g2 rv
  obtain ⟨d, c, x, r1, r2, ho, rel, q⟩ := z.on2 ra rb
  cases d with
  | int i =>
    cases c with
    | int j =>
      cases ho
      cases (show v = V.int i from r1)
      cases (show u = V.int j from r2)
      exact ⟨i, j, rfl, q S H rel.step _ rfl⟩
    | _ => cases ho
  | _ => cases c <;> cases ho
theorem de_max2 (hc : X.calm = true) (hm : X.mg "max" = none) (ha : DA X W (e :: es) fas) (hg : Gl X "max" := by rfl) (he : starEach (e :: es) X.env = (false, eval e X.env) :: starEach es X.env := by rfl) (hpl : (backTo pos (starEach es X.env)).any (·.1) = false := by rfl) :
    DE X W (.Call (.Name "max" p) (e :: es) [] pos) (eBind fas (g2 fun a b => eOn2 a b oMax)) := by
  refine de_callB (call_max2 hc) hm (by decide +kernel) ha (fun S env σ H Q as vs rv z => ?_) hg (he := he) (hpl := hpl)
  obtain ⟨a, b, v, u, rfl, ra, rb, z⟩ := z.g2 rv
  obtain ⟨d, c, x, r1, r2, ho, rel, q⟩ := z.on2 ra rb
  cases d with
  | int i =>
    cases c with
    | int j =>
      cases ho
      cases (show v = V.int i from r1)
      cases (show u = V.int j from r2)
      exact ⟨i, j, rfl, q S H rel.step _ rfl⟩
    | _ => cases ho
  | _ => cases c <;> cases ho
def oInt : D → Option D
  | .int i => some (.int i)
  | .bl k => some (.int (if k then 1 else 0))
  | .str a => match PySem.intText? a with
    | some n => if a.length ≤ 640 then some (.int n) else none
    | none => none
  | _ => none
theorem de_int1 (hm : X.mg "int" = none) (ha : DA X W (e :: es) fas) (hg : Gl X "int" := by rfl) (he : starEach (e :: es) X.env = (false, eval e X.env) :: starEach es X.env := by rfl) (hpl : (backTo pos (starEach es X.env)).any (·.1) = false := by rfl) :
    DE X W (.Call (.Name "int" p) (e :: es) [] pos) (eBind fas (g1 fun a => eOn a oInt)) := by
  refine de_callTy (CallR.or call_int1 call_int_str) hm (by decide +kernel) ha (fun S env σ H Q as vs rv z => ?_) hg (he := he) (hpl := hpl)
  obtain ⟨a, v, rfl, ra, z⟩ := z.g1 rv
  obtain ⟨d, x, r1, ho, rel, q⟩ := z.on ra
  cases d with
  | int i =>
    cases ho
    cases (show v = V.int i from r1)
    exact .inl (.inl ⟨i, rfl, q S H rel.step _ rfl⟩)
  | bl i =>
    cases ho
    cases (show v = V.bl i from r1)
    exact .inl (.inr ⟨i, rfl, q S H rel.step _ rfl⟩)
  | str y =>
    obtain ⟨rfl, hl⟩ := r1
    unfold oInt at ho
    dsimp only at ho
    split at ho
    · rename_i n hn
      split at ho
      · rename_i hz
        cases ho
        exact .inr ⟨y, n, rfl, hn, hz, q S H rel.step _ rfl⟩
      · cases ho
    · cases ho
  | _ => cases ho
/-! ## list(xs), tuple(xs) -/
def oListOf : D → Option D
  | .lst ds => some (.lst ds)
  | .frl ds => some (.lst ds)
  | .tup ds => some (.lst ds)
  | _ => none
def oTupOf : D → Option D
  | .lst ds => some (.tup ds)
  | .frl ds => some (.tup ds)
  | .tup ds => some (.tup ds)
  | _ => none
theorem de_listOf (hm : X.mg "list" = none) (ha : DA X W (e :: es) fas) (hg : Gl X "list" := by rfl) (he : starEach (e :: es) X.env = (false, eval e X.env) :: starEach es X.env := by rfl) (hpl : (backTo pos (starEach es X.env)).any (·.1) = false := by rfl) :
    DE X W (.Call (.Name "list" p) (e :: es) [] pos) (eBind fas (g1 fun a => eOn a oListOf)) := by
  refine de_callTy call_list_of hm (by decide +kernel) ha (fun S env σ H Q as vs rv z => ?_) hg (he := he) (hpl := hpl)
  obtain ⟨a, v, rfl, ra, z⟩ := z.g1 rv
  obtain ⟨d, x, r1, ho, rel, q⟩ := z.on ra
  have key : ∀ (ds : List D) (vs : List V) (b : Addr), x = .lst ds → v = .ref b → (SqL X.K H b vs ∨ SqT X.K H b vs) → ds.length ≤ sizeLine → Reps X.K S ds vs → ∃ p ys, [v] = [V.ref p] ∧ (SqL X.K H p ys ∨ SqT X.K H p ys) ∧ ∀ l, H l = none → Q (.ref l) (upd H l (.lst ys)) := fun ds vs b ex ev hq hl rr => by
    subst ex
    subst ev
    refine ⟨b, vs, rfl, hq, fun l hl' => ?_⟩
    have al := rel.alloc (o := .lst vs) hl'
    exact q _ _ al _ ⟨l, vs, rfl, upd_same, hl, Reps.mono al.le _ _ rr⟩
  cases d with
  | lst ds =>
    cases ho
    obtain ⟨b, vs, ev, hq, hl, _, rr⟩ := r1
    exact key ds vs b rfl ev (.inl (SqL.of hq)) hl rr
  | frl ds =>
    cases ho
    obtain ⟨b, vs, ev, hq, hl, _, rr⟩ := r1
    exact key ds vs b rfl ev (.inl hq) hl rr
  | tup ds =>
    cases ho
    obtain ⟨b, vs, ev, hq, hl, _, rr, _⟩ := r1
    exact key ds vs b rfl ev (.inr hq.sq) hl rr
  | _ => cases ho
theorem de_tupleOf (hm : X.mg "tuple" = none) (ha : DA X W (e :: es) fas) (hg : Gl X "tuple" := by rfl) (he : starEach (e :: es) X.env = (false, eval e X.env) :: starEach es X.env := by rfl) (hpl : (backTo pos (starEach es X.env)).any (·.1) = false := by rfl) :
    DE X W (.Call (.Name "tuple" p) (e :: es) [] pos) (eBind fas (g1 fun a => eOn a oTupOf)) := by
  refine de_callTy call_tuple_of hm (by decide +kernel) ha (fun S env σ H Q as vs rv z => ?_) hg (he := he) (hpl := hpl)
  obtain ⟨a, v, rfl, ra, z⟩ := z.g1 rv
  obtain ⟨d, x, r1, ho, rel, q⟩ := z.on ra
  have key : ∀ (ds : List D) (vs : List V) (b : Addr), x = .tup ds → v = .ref b → SqL X.K H b vs → ds.length ≤ sizeLine → Reps X.K S ds vs → ∃ p ys, [v] = [V.ref p] ∧ ((SqL X.K H p ys ∧ ∀ l, H l = none → Q (.ref l) (upd H l (.tup ys))) ∨ (SqT X.K H p ys ∧ Q (.ref p) H)) := fun ds vs b ex ev hq hl rr => by
    subst ex
    subst ev
    refine ⟨b, vs, rfl, .inl ⟨hq, fun l hl' => ?_⟩⟩
    have al := rel.alloc (o := .tup vs) hl'
    exact q _ _ al _ ⟨l, vs, rfl, .inl upd_same, hl, Reps.mono al.le _ _ rr⟩
  cases d with
  | lst ds =>
    cases ho
    obtain ⟨b, vs, ev, hq, hl, _, rr⟩ := r1
    exact key ds vs b rfl ev (SqL.of hq) hl rr
  | frl ds =>
    cases ho
    obtain ⟨b, vs, ev, hq, hl, _, rr⟩ := r1
    exact key ds vs b rfl ev hq hl rr
  | tup ds =>
    cases ho
    obtain ⟨b, vs, rfl, hq, hl, _, rr, hs⟩ := r1
    exact ⟨b, vs, rfl, .inr ⟨hq.sq, q S H rel.step _ ⟨b, vs, rfl, hs, hl, rr⟩⟩⟩
  | _ => cases ho
/-! ## slices -/
theorem reps_take {K : PySem.W.Frag} {S : Hp} : ∀ (n : Nat) {ds : List D} {vs : List V}, Reps K S ds vs → Reps K S (ds.take n) (vs.take n)
  | 0, _, _, _ => rfl
  | n + 1, [], _, h => by cases h; rfl
  | n + 1, d :: ds, _, h => by
    obtain ⟨v, r, e, p, q⟩ := h
    subst e
    exact ⟨v, r.take n, rfl, p, reps_take n q⟩
theorem reps_drop {K : PySem.W.Frag} {S : Hp} : ∀ (n : Nat) {ds : List D} {vs : List V}, Reps K S ds vs → Reps K S (ds.drop n) (vs.drop n)
  | 0, _, _, h => h
  | n + 1, [], _, h => by cases h; rfl
  | n + 1, d :: ds, _, h => by
    obtain ⟨v, r, e, p, q⟩ := h
    subst e
    exact reps_drop n q
/-- the items from lo to hi -/
def cutD (xs : List D) (lo hi : Option Int) : List D := (xs.drop (HT.sIx xs.length 0 lo)).take (HT.sIx xs.length xs.length hi - HT.sIx xs.length 0 lo)
theorem reps_cut {K : PySem.W.Frag} {S : Hp} {ds : List D} {vs : List V} (lo hi : Option Int) (h : Reps K S ds vs) : Reps K S (cutD ds lo hi) (cutV vs lo hi) := by
  unfold cutD cutV
  rw [Reps.len h]
  exact reps_take _ (reps_drop _ h)
theorem cutD_len (xs : List D) (lo hi : Option Int) : (cutD xs lo hi).length ≤ xs.length := by
  unfold cutD
  rw [List.length_take, List.length_drop]
  omega
/-- a part of a slice -/
def ePart : Option (EF D) → EF (Option Int)
  | none => eRet none
  | some f => eBind f fun d => match d with
    | .int i => eRet (some i)
    | _ => fun _ => none
def RP : RR (Option Int) (Option Int) := fun _ _ a b => a = b
def DP (X : Cx) (W : WX) (e : Option Expr) (f : EF (Option Int)) : Prop := PO X e (tr X.K W RP f)
theorem po_imp {e : Option Expr} {t t' : TO} (h : PO X e t) (w : ∀ σ H Q, t' σ H Q → t σ H Q) : PO X e t' := ⟨fun pins s σ H Q I q => h.run pins s σ H Q I (w σ H Q q)⟩
theorem dp_none : DP X W none (ePart none) := by
  refine po_imp po_none ?_
  rintro σ H Q ⟨S, env, z⟩
  exact z.ret rfl
theorem dp_some {e : Expr} {f : EF D} (h : DE X W e f) : DP X W (some e) (ePart (some f)) := by
  refine po_imp (po_some h) ?_
  rintro σ H Q ⟨S, env, z⟩
  refine ⟨S, env, (At.bind (R := RD X.K) z).imp fun v H1 ⟨d, S1, e1, r, st, z1⟩ => ?_⟩
  cases d with
  | int i => exact ⟨i, r, z1.ret rfl⟩
  | _ => exact no_at z1
def oSl (lo hi : Option Int) : D → Option D
  | .lst ds => some (.lst (cutD ds lo hi))
  | .frl ds => some (.lst (cutD ds lo hi))
  | .tup ds => some (.tup (cutD ds lo hi))
  | .str z => some (.str (cutS z lo hi))
  | _ => none
def eSl (fa : EF AV) (fl fh : EF (Option Int)) : EF D := eBind fa fun a => eBind fl fun l => eBind fh fun h => eOn a (oSl l h)
abbrev rSl3 (K : PySem.W.Frag) : V → Option Int → Option Int → Hp → VK → Prop := fun x lo hi H Q => rSlL K x lo hi H Q ∨ rSlA K x lo hi H Q ∨ rSlS x lo hi H Q
theorem sl3 : SlR X (rSl3 X.K) := SlR.or sl_list (SlR.or sl_tupA sl_str)
theorem de_sl {e : Expr} {lo hi : Option Expr} {fa : EF AV} {fl fh : EF (Option Int)} {p2 : Pos} (ha : DV X W e fa) (hl : DP X W lo fl) (hh : DP X W hi fh) : DE X W (.Subscript e (.Slice lo hi none p2) pos) (eSl fa fl fh) := by
  refine pe_imp (pe_slice sl3 ha hl hh) ?_
  rintro σ H Q ⟨S, env, z⟩
  refine ⟨S, env, (At.bind (R := RAv X.K) z).imp fun v H1 ⟨a, S1, e1, ra, st, z1⟩ => ?_⟩
  refine ⟨S1, e1, (At.bind (R := RP) z1).imp fun l H2 ⟨l', S2, e2, rl, st2, z2⟩ => ?_⟩
  refine ⟨S2, e2, (At.bind (R := RP) z2).imp fun h H3 ⟨h', S3, e3, rh, st3, z3⟩ => ?_⟩
  obtain rfl : l' = l := rl
  obtain rfl : h' = h := rh
  obtain ⟨d, x, r1, ho, rel, q⟩ := z3.on ((ra.mono st2.le).mono st3.le)
  have key : ∀ (ds : List D) (vs : List V) (b : Addr), x = .lst (cutD ds l' h') → v = .ref b → SqL X.K H3 b vs → ds.length ≤ sizeLine → Reps X.K S3 ds vs → rSlL X.K v l' h' H3 Q := fun ds vs b ex ev hq hl rr => by
    subst ex
    subst ev
    refine ⟨b, vs, rfl, hq, fun p hp => ?_⟩
    have al := rel.alloc (o := .lst (cutV vs l' h')) hp
    exact q _ _ al _ ⟨p, _, rfl, upd_same, Nat.le_trans (cutD_len ds l' h') hl, reps_cut _ _ (Reps.mono al.le _ _ rr)⟩
  cases d with
  | lst ds =>
    cases ho
    obtain ⟨b, vs, ev, hq, hl, _, rr⟩ := r1
    exact .inl (key ds vs b rfl ev (SqL.of hq) hl rr)
  | frl ds =>
    cases ho
    obtain ⟨b, vs, ev, hq, hl, _, rr⟩ := r1
    exact .inl (key ds vs b rfl ev hq hl rr)
  | tup ds =>
    cases ho
    obtain ⟨b, vs, rfl, hq, hl, _, rr, hs⟩ := r1
    refine .inr (.inl ⟨b, vs, rfl, hq.sq, fun hw => ?_, fun _ p hp => ?_⟩)
    · have ew : cutD ds l' h' = ds := by
        unfold cutD
        have hl' := Reps.len rr
        rw [← hl'] at hw
        rw [hw.1, hw.2, List.drop_zero, Nat.sub_zero, List.take_length]
      rw [ew] at q
      exact q S3 H3 rel.step _ ⟨b, vs, rfl, hs, hl, rr⟩
    · have al := rel.alloc (o := .tup (cutV vs l' h')) hp
      exact q _ _ al _ ⟨p, _, rfl, .inl upd_same, Nat.le_trans (cutD_len ds l' h') hl, reps_cut _ _ (Reps.mono al.le _ _ rr)⟩
  | str z =>
    cases ho
    obtain ⟨rfl, hl⟩ := r1
    exact .inr (.inr ⟨z, rfl, hl, q S3 H3 rel.step _ ⟨rfl, Nat.le_trans (cutS_length z _ _) hl⟩⟩)
  | _ => cases ho
/-! ## sep.join(texts) -/
def oJoin (d c : D) : Option D := match d with
  | .str a => match c with
    | .lst ds => match dStrs ds with
      | some ys => if (ys.map (·.length)).sum + ys.length * a.length ≤ 16777216 then if (Txt.join a ys).length ≤ sizeLine then some (.str (Txt.join a ys)) else none else none
      | none => none
    | .tup ds => match dStrs ds with
      | some ys => if (ys.map (·.length)).sum + ys.length * a.length ≤ 16777216 then if (Txt.join a ys).length ≤ sizeLine then some (.str (Txt.join a ys)) else none else none
      | none => none
    | _ => none
  | _ => none
def eJoin (fo : EF D) (fa : EF AV) : EF D := eBind fo fun o => match o with
  | .str z => eBind fa fun a => eOn2 (.d (.str z)) a oJoin
  | _ => fun _ => none
theorem de_join {o e : Expr} {fo : EF D} {fa : EF AV} {apos : Pos} (ho : DE X W o fo) (ha : DV X W e fa) (hs : starEach [e] X.env = [(false, eval e X.env)] := by rfl) (hbase : attributeBase o "join" X.env (eval o X.env) = eval o X.env := by rfl) (hline : (apos.endLine == pos.line) = true := by rfl) :
    DE X W (.Call (.Attribute o "join" apos) [e] [] pos) (eJoin fo fa) := by
  refine pe_imp (pe_join ho ha hs hbase hline) ?_
  rintro σ H Q ⟨S, env, z⟩
  refine ⟨S, env, (At.bind (R := RD X.K) z).imp fun v H1 ⟨o, S1, e1, ro, st, z1⟩ => ?_⟩
  cases o with
  | str a =>
    obtain ⟨rfl, hla⟩ := ro
    refine ⟨⟨a, rfl⟩, S1, e1, (At.bind (R := RAv X.K) z1).imp fun u H2 ⟨x, S2, e2, ru, st2, z2⟩ => ?_⟩
    obtain ⟨d, c, w, r1, r2, ho, rel, q⟩ := z2.on2 (v := V.str a) (a := .d (.str a)) ⟨rfl, hla⟩ ru
    cases d with
    | str a' =>
      cases r1.1
      cases c with
      | lst ds =>
        unfold oJoin at ho
        dsimp only at ho
        split at ho
        · rename_i ys hys
          split at ho
          · rename_i h1
            split at ho
            · rename_i h2
              cases ho
              obtain ⟨b, vs, rfl, hq, hl, _, rr⟩ := r2
              obtain ⟨ev, _, _⟩ := dStrs_v hys rr
              subst ev
              exact ⟨a, b, ys, rfl, rfl, .inl (SqL.of hq), h1, q S2 H2 rel.step _ ⟨rfl, h2⟩⟩
            · cases ho
          · cases ho
        · cases ho
      | tup ds =>
        unfold oJoin at ho
        dsimp only at ho
        split at ho
        · rename_i ys hys
          split at ho
          · rename_i h1
            split at ho
            · rename_i h2
              cases ho
              obtain ⟨b, vs, rfl, hq, hl, _, rr, _⟩ := r2
              obtain ⟨ev, _, _⟩ := dStrs_v hys rr
              subst ev
              exact ⟨a, b, ys, rfl, rfl, .inr hq.sq, h1, q S2 H2 rel.step _ ⟨rfl, h2⟩⟩
            · cases ho
          · cases ho
        · cases ho
      | _ => cases ho
    | _ => cases ho
  | _ => exact no_at z1
/-! ## chains -/
def eChain (fa fb fc : EF AV) (op op' : D → D → Option D) : EF D := eBind fa fun x => eBind fb fun y => eBind (eOn2 x y op) fun k => match k with
  | .bl true => eBind fc fun z => eOn2 y z op'
  | .bl false => eRet (.bl false)
  | _ => fun _ => none
theorem de_chain {o o' : CmpOp} {r r' : R2} {op op' : D → D → Option D} {a b c : Expr} {fa fb fc : EF AV} (ho : OpR X (compareOp o) r) (hk : OpOk X.K r op) (ho' : OpR X (compareOp o') r') (hk' : OpOk X.K r' op') (ha : DV X W a fa) (hb : DV X W b fb) (hc : DV X W c fc)
    (hm : lastMarks [o, o'] [b, c] = false := by with_unfolding_all rfl) : DE X W (.Compare a [o, o'] [b, c] pos) (eChain fa fb fc op op') := by
  refine pe_imp (pe_chain ho ho' ha hb hc hm) ?_
  rintro σ H Q ⟨S, env, z⟩
  refine ⟨S, env, (At.bind (R := RAv X.K) z).imp fun vx H1 ⟨x, S1, e1, rx, st, z1⟩ => ?_⟩
  refine ⟨S1, e1, (At.bind (R := RAv X.K) z1).imp fun vy H2 ⟨y, S2, e2, ry, st2, z2⟩ => ?_⟩
  have z3 := At.bind (R := RD X.K) z2
  obtain ⟨d, d', w, r1, r2, e, rel, q⟩ := z3.on2 (rx.mono st2.le) ry
  refine hk S2 e2 σ H2 _ d d' vx vy w rel r1 r2 e fun S' H' st3 v rv => ?_
  obtain ⟨k, S3, e3, rk, st4, z4⟩ := q S' H' st3 v rv
  cases k with
  | bl k =>
    refine ⟨k, rk, ?_⟩
    cases k with
    | false => exact iteF (z4.ret rfl)
    | true =>
      refine iteT ⟨S3, e3, (At.bind (R := RAv X.K) z4).imp fun vz H4 ⟨zz, S4, e4, rz, st5, z5⟩ => ?_⟩
      obtain ⟨d, d', w, r1, r2, e, rel, q⟩ := z5.on2 ((ry.mono st4.le).mono st5.le) rz
      exact hk' S4 e4 σ H4 Q d d' vy vz w rel r1 r2 e q
  | _ => exact no_at z4
theorem dt_chain {o o' : CmpOp} {r r' : R2} {op op' : D → D → Option D} {a b c : Expr} {fa fb fc : EF AV} (ho : OpR X (compareOp o) r) (hk : OpOk X.K r op) (ho' : OpR X (compareOp o') r') (hk' : OpOk X.K r' op') (ha : DV X W a fa) (hb : DV X W b fb) (hc : DV X W c fc)
    (hm : lastMarks [o, o'] [b, c] = false := by with_unfolding_all rfl) : DT X W (.Compare a [o, o'] [b, c] pos) (eT (eChain fa fb fc op op')) := by
  refine pt_imp (pt_chain ho ho' ha hb hc hm) ?_
  rintro σ H Q ⟨S, env, z⟩
  have z := At.bind (R := RD X.K) z
  refine ⟨S, env, (At.bind (R := RAv X.K) z).imp fun vx H1 ⟨x, S1, e1, rx, st, z1⟩ => ?_⟩
  refine ⟨S1, e1, (At.bind (R := RAv X.K) z1).imp fun vy H2 ⟨y, S2, e2, ry, st2, z2⟩ => ?_⟩
  have z3 := At.bind (R := RD X.K) z2
  obtain ⟨d, d', w, r1, r2, e, rel, q⟩ := z3.on2 (rx.mono st2.le) ry
  refine hk S2 e2 σ H2 _ d d' vx vy w rel r1 r2 e fun S' H' st3 v rv => ?_
  obtain ⟨k, S3, e3, rk, st4, z4⟩ := q S' H' st3 v rv
  have fin : ∀ v H', (∃ d S1 e1, RD X.K σ S1 d v ∧ Step X.K S env σ H S1 e1 σ H' ∧ At X.K W RB (asB d) S1 e1 σ H' Q) → ∃ k, v = .bl k ∧ Q k H' := fun v H' ⟨d, S1, e1, r, _, z⟩ => asB_of (R := RB) r z
  cases k with
  | bl k =>
    refine ⟨k, rk, ?_⟩
    cases k with
    | false => exact iteF (fin _ _ (z4.ret rfl))
    | true =>
      refine iteT ⟨S3, e3, (At.bind (R := RAv X.K) z4).imp fun vz H4 ⟨zz, S4, e4, rz, st5, z5⟩ => ?_⟩
      obtain ⟨d, d', w, r1, r2, e, rel, q⟩ := z5.on2 ((ry.mono st4.le).mono st5.le) rz
      exact hk' S4 e4 σ H4 _ d d' vy vz w rel r1 r2 e fun S' H' st v rv => fin v H' (q S' H' st v rv)
  | _ => exact no_at z4
end
end Mir

namespace Mir
open PySem PySem.Spec PyProof.Rows L2
/-! ## lists that change -/
/-- the list of a slot -/
def lstAt (env : ME) (i : Nat) : Option (Sl × List D) := match env[i]? with
  | some (some s) => match s.mo with
    | some (.lst ds) => some (s, ds)
    | _ => none
  | _ => none
theorem lstAt_inv {env : ME} {i : Nat} {s : Sl} {ds : List D} (h : lstAt env i = some (s, ds)) : env[i]? = some (some s) ∧ s.mo = some (.lst ds) := by
  unfold lstAt at h
  split at h
  · rename_i s' hs
    split at h
    · rename_i ds' hm
      cases h
      exact ⟨hs, hm⟩
    · cases h
  · cases h
/-- o.m(args), o a name that holds a list of its own (or a lent one) -/
def eMut (i : Nat) (fas : EF (List AV)) (op : List D → List AV → ME → Option (D × List D)) : EF D := fun env => match lstAt env i with
  | some _ => eBind fas (fun as env1 => match lstAt env1 i with
    | some (s, ds) => match op ds as env1 with
      | some (x, ds') => some (.ok x, env1.set i (some (s.put (.lst ds'))))
      | none => none
    | none => none) env
  | none => none
section
variable {X : Cx} {W : WX} {pos : Pos}
theorem de_mut (i : Nat) {x nm : Str} {id : String} {r : V → List V → Hp → VK → Prop} {apos cpos p : Pos} {e : Expr} {es : List Expr} {fas : EF (List AV)} {op : List D → List AV → ME → Option (D × List D)}
    (slot : Slot "list" nm id) (hty : typeOf (.builtin id) = pure (.type "method_descriptor")) (hmt : MtR X id r)
    (hop : ∀ S env σ H (Q : VK) a ds vs as ws y ds', Rel X.K S env σ H → σ[i]? = some (some (.ref a)) → (∃ s, env[i]? = some (some s) ∧ s.mo = some (.lst ds)) → H a = some (.lst vs) → ds.length ≤ sizeLine → Reps X.K S ds vs → RAs X.K σ S as ws → op ds as env = some (y, ds') →
      (∀ w vs', Reps X.K S ds' vs' → ds'.length ≤ sizeLine → (∀ S, Rep X.K S y w ∨ Rep X.K S y w) → Q w (upd H a (.lst vs'))) → r (.ref a) ws H Q)
    (ha : DA X W (e :: es) fas) (hN : X.N[i]? = some x := by rfl) (hv : Vis X.env.scope x := by first | exact Or.inl rfl | exact Or.inr (Or.inl rfl) | exact Or.inr (Or.inr rfl))
    (hd : (x == ("__debug__" : Str)) = false := by decide) (hcd : (x == ("__classdict__" : Str)) = false := by decide)
    (hbase : attributeBase (.Name x p) nm X.env (eval (.Name x p) X.env) = eval (.Name x p) X.env := by rfl)
    (hfew : ((backTo cpos (starEach (e :: es) X.env)).all (fun x => !x.1) && (backToKw cpos (keywordEach [] X.env)).all (fun x => x.1.isSome)
      && decide ((e :: es).length + ([] : List Keyword).length + (if ([] : List Keyword).isEmpty then 0 else 1) < 30)) = true := by rfl)
    (hline : (apos.endLine == cpos.line) = true := by rfl) (hs : starEach (e :: es) X.env = (false, eval e X.env) :: starEach es X.env := by rfl) (hplain : (backTo cpos (starEach es X.env)).any (·.1) = false := by rfl) :
    DE X W (.Call (.Attribute (.Name x p) nm apos) (e :: es) [] cpos) (eMut i fas op) := by
  refine pe_imp (pe_bm PySem.F.plainAttrs_list slot hty hmt (pe_var hN hv hd hcd) ha hbase hfew hline hs hplain) ?_
  rintro σ H Q ⟨S, env, rr, env', rel, ef, q⟩
  unfold eMut at ef
  cases h0 : lstAt env i with
  | none => rw [h0] at ef; cases ef
  | some p0 =>
    rw [h0] at ef
    obtain ⟨s0, ds0⟩ := p0
    obtain ⟨e1, e2⟩ := lstAt_inv h0
    obtain ⟨a, o, x1, x2, x3, x4⟩ := rel.obj i _ ⟨s0, e1, e2⟩
    obtain ⟨vs0, rfl, _, _⟩ := x4
    refine ⟨.ref a, x1, .inl ⟨rfl, vs0, SqL.of x2⟩, S, env, ?_⟩
    have z : At X.K W (RD X.K) (eBind fas (fun as env1 => match lstAt env1 i with
      | some (s, ds) => match op ds as env1 with
        | some (x, ds') => some (.ok x, env1.set i (some (s.put (.lst ds'))))
        | none => none
      | none => none)) S env σ H Q := ⟨rr, env', rel, ef, q⟩
    refine (At.bind (R := RAl X.K) z).imp fun ws H1 ⟨as, S1, en1, rw', st, z1⟩ => ?_
    obtain ⟨r1, en2, rel1, ef1, q1⟩ := z1
    dsimp only at ef1
    split at ef1
    · rename_i s ds hl
      split at ef1
      · rename_i y ds' ho
        cases ef1
        obtain ⟨e3, e4⟩ := lstAt_inv hl
        obtain ⟨a', o', y1, y2, y3, y4⟩ := rel1.obj i _ ⟨s, e3, e4⟩
        rw [x1] at y1
        cases y1
        obtain ⟨vs, rfl, hz, rv⟩ := y4
        refine hop S1 en1 σ H1 Q a ds vs as ws y ds' rel1 x1 ⟨s, e3, e4⟩ y2 hz rv rw' ho fun w vs' rv' hz' ry => ?_
        exact q1 S1 _ (rel1.mut e3 e4 x1 (m' := .lst ds') ⟨vs', rfl, hz', rv'⟩) w ((ry S1).elim (fun h => h) fun h => h)
      · cases ef1
    · cases ef1
/-- x.append(e) -/
def oAppend (ds : List D) (as : List AV) (_ : ME) : Option (D × List D) := match as with
  | [.d d] => if ds.length < sizeLine then some (.non, ds ++ [d]) else none
  | _ => none
theorem de_append (i : Nat) {x : Str} {apos cpos p : Pos} {e : Expr} {fas : EF (List AV)} (ha : DA X W [e] fas) (hN : X.N[i]? = some x := by rfl) (hv : Vis X.env.scope x := by first | exact Or.inl rfl | exact Or.inr (Or.inl rfl) | exact Or.inr (Or.inr rfl))
    (hd : (x == ("__debug__" : Str)) = false := by decide) (hcd : (x == ("__classdict__" : Str)) = false := by decide)
    (hbase : attributeBase (.Name x p) "append" X.env (eval (.Name x p) X.env) = eval (.Name x p) X.env := by rfl)
    (hfew : ((backTo cpos (starEach [e] X.env)).all (fun x => !x.1) && (backToKw cpos (keywordEach [] X.env)).all (fun x => x.1.isSome)
      && decide (([e]).length + ([] : List Keyword).length + (if ([] : List Keyword).isEmpty then 0 else 1) < 30)) = true := by rfl)
    (hline : (apos.endLine == cpos.line) = true := by rfl) (hs : starEach [e] X.env = (false, eval e X.env) :: starEach [] X.env := by rfl) (hplain : (backTo cpos (starEach [] X.env)).any (·.1) = false := by rfl) :
    DE X W (.Call (.Attribute (.Name x p) "append" apos) [e] [] cpos) (eMut i fas oAppend) := by
  refine de_mut i PySem.F.slot_list_append PySem.F.type_list_append mt_append (fun S env σ H Q a ds vs as ws y ds' rel hσ hi hH hz rv ra ho q => ?_) ha hN hv hd hcd hbase hfew hline hs hplain
  unfold oAppend at ho
  split at ho
  · rename_i d
    split at ho
    · rename_i hlt
      cases ho
      obtain ⟨v, rs, rfl, h1, h2⟩ := ra
      cases h2
      have hlen := Reps.len rv
      refine ⟨a, vs, v, rfl, rfl, hH, by rw [← hlen]; exact hlt, ?_⟩
      exact q .non (vs ++ [v]) (reps_app rv ⟨v, [], rfl, h1, rfl⟩) (by rw [List.length_append, List.length_singleton]; omega) fun _ => .inl rfl
    · cases ho
  · cases ho
/-- x.extend(ys), ys a list -/
def oExtend (ds : List D) (as : List AV) (_ : ME) : Option (D × List D) := match as with
  | [.d (.lst es)] => if ds.length + es.length ≤ sizeLine then some (.non, ds ++ es) else none
  | _ => none
theorem de_extend (i : Nat) {x : Str} {apos cpos p : Pos} {e : Expr} {fas : EF (List AV)} (ha : DA X W [e] fas) (hN : X.N[i]? = some x := by rfl) (hv : Vis X.env.scope x := by first | exact Or.inl rfl | exact Or.inr (Or.inl rfl) | exact Or.inr (Or.inr rfl))
    (hd : (x == ("__debug__" : Str)) = false := by decide) (hcd : (x == ("__classdict__" : Str)) = false := by decide)
    (hbase : attributeBase (.Name x p) "extend" X.env (eval (.Name x p) X.env) = eval (.Name x p) X.env := by rfl)
    (hfew : ((backTo cpos (starEach [e] X.env)).all (fun x => !x.1) && (backToKw cpos (keywordEach [] X.env)).all (fun x => x.1.isSome)
      && decide (([e]).length + ([] : List Keyword).length + (if ([] : List Keyword).isEmpty then 0 else 1) < 30)) = true := by rfl)
    (hline : (apos.endLine == cpos.line) = true := by rfl) (hs : starEach [e] X.env = (false, eval e X.env) :: starEach [] X.env := by rfl) (hplain : (backTo cpos (starEach [] X.env)).any (·.1) = false := by rfl) :
    DE X W (.Call (.Attribute (.Name x p) "extend" apos) [e] [] cpos) (eMut i fas oExtend) := by
  refine de_mut i PySem.F.slot_list_extend PySem.F.type_list_extend mt_extend (fun S env σ H Q a ds vs as ws y ds' rel hσ hi hH hz rv ra ho q => ?_) ha hN hv hd hcd hbase hfew hline hs hplain
  unfold oExtend at ho
  split at ho
  · rename_i d es
    split at ho
    · rename_i hlt
      cases ho
      obtain ⟨v, rs, rfl, h1, h2⟩ := ra
      cases h2
      obtain ⟨b, us, rfl, hb, hl, hr⟩ := h1
      have hlen := Reps.len rv
      have hlen2 := Reps.len hr
      refine ⟨a, b, vs, us, rfl, rfl, hH, rel.sub _ _ hb, by rw [← hlen, ← hlen2]; exact hlt, ?_⟩
      exact q .non (vs ++ us) (reps_app rv hr) (by rw [List.length_append]; exact hlt) fun _ => .inl rfl
    · cases ho
  · cases ho
/-- xs[k] = e, xs a name -/
def sPutIx (i : Nat) (fe : EF D) (fk : EF D) : SF := sBind fe fun d env => match lstAt env i with
  | some _ => sBind fk (fun k env => match k with
    | .int k => match lstAt env i with
      | some (s, ds) => match ixN ds.length k with
        | some j => some (.nx, env.set i (some (s.put (.lst (ds.set j d)))))
        | none => none
      | none => none
    | _ => none) env
  | none => none
theorem reps_set {K : PySem.W.Frag} {S : Hp} {d : D} {v : V} (h : Rep K S d v) : ∀ {ds : List D} {vs : List V} (j : Nat), Reps K S ds vs → Reps K S (ds.set j d) (vs.set j v)
  | [], _, j, r => by cases r; exact rfl
  | x :: ds, _, 0, r => by
    obtain ⟨w, rs, e, p, q⟩ := r
    subst e
    exact ⟨v, rs, rfl, h, q⟩
  | x :: ds, _, j + 1, r => by
    obtain ⟨w, rs, e, p, q⟩ := r
    subst e
    exact ⟨w, rs.set j v, rfl, p, reps_set h j q⟩
theorem ds_putIx (i : Nat) {x : Str} {p tp : Pos} {k e : Expr} {fe fk : EF D} (he : DE X W e fe) (hk : DE X W k fk) (hN : X.N[i]? = some x := by rfl) (hv : Vis X.env.scope x := by first | exact Or.inl rfl | exact Or.inr (Or.inl rfl) | exact Or.inr (Or.inr rfl))
    (hd : (x == ("__debug__" : Str)) = false := by decide) (hcd : (x == ("__classdict__" : Str)) = false := by decide)
    (ha : ∀ v, assign (.Subscript (.Name x p) k tp) X.env v = (do
      let ov ← holding [v] (eval (.Name x p) X.env)
      let iv ← holding [v, ov] (eval k X.env)
      standAt tp
      holding [v, ov, iv] (setItem ov iv v)
      release [v, ov, iv] []) := by intro _; rfl)
    (hs : swapsWithSole [.Subscript (.Name x p) k tp] e pos.line X.env = pure false := by rfl) (hw : swappedStores [.Subscript (.Name x p) k tp] e X.env = pure none := by rfl)
    (h1 : (assignEach [.Subscript (.Name x p) k tp] X.env).map (·.2) = [assign (.Subscript (.Name x p) k tp) X.env] := by rfl) : DS X W (.Assign [.Subscript (.Name x p) k tp] e pos) (sPutIx i fe fk) := by
  refine ps_imp (ps_asg he (pg_sub (pe_var hN hv hd hcd) hk set_list ha) hs hw h1) ?_
  rintro Dn σ H ⟨S, env, z⟩
  refine ⟨S, env, (AtS.bind (R := RD X.K) z).imp fun v H1 ⟨d, S1, en1, rd, st, z1⟩ => ?_⟩
  obtain ⟨o1, en', rel1, ef, q1⟩ := z1
  dsimp only at ef
  cases h0 : lstAt en1 i with
  | none => rw [h0] at ef; cases ef
  | some p0 =>
    rw [h0] at ef
    obtain ⟨s0, ds0⟩ := p0
    obtain ⟨e1, e2⟩ := lstAt_inv h0
    obtain ⟨a, o, x1, x2, x3, x4⟩ := rel1.obj i _ ⟨s0, e1, e2⟩
    refine ⟨.ref a, x1, S1, en1, ?_⟩
    have z2 : AtS X.K W (sBind fk (fun k env => match k with
      | .int k => match lstAt env i with
        | some (s, ds) => match ixN ds.length k with
          | some j => some (.nx, env.set i (some (s.put (.lst (ds.set j d)))))
          | none => none
        | none => none
      | _ => none)) S1 en1 σ H1 Dn := ⟨o1, en', rel1, ef, q1⟩
    refine (AtS.bind (R := RD X.K) z2).imp fun u H2 ⟨k, S2, en2, rk, st2, z3⟩ => ?_
    obtain ⟨o3, en3, rel3, ef3, q3⟩ := z3
    cases k with
    | int k =>
      dsimp only at ef3
      split at ef3
      · rename_i s ds hl
        split at ef3
        · rename_i j hj
          cases ef3
          obtain ⟨e3, e4⟩ := lstAt_inv hl
          obtain ⟨a', o', y1, y2, y3, y4⟩ := rel3.obj i _ ⟨s, e3, e4⟩
          rw [x1] at y1
          cases y1
          obtain ⟨vs, rfl, hz, rv⟩ := y4
          have hlen := Reps.len rv
          refine ⟨a, vs, k, j, rfl, rk, y2, by rw [← hlen]; exact hj, ?_⟩
          exact q3 _ _ _ (rel3.mut e3 e4 x1 (m' := .lst (ds.set j d)) ⟨vs.set j v, rfl, by rw [List.length_set]; exact hz, reps_set (Rep.mono st2.le _ _ rd) j rv⟩)
        · cases ef3
      · cases ef3
    | _ => cases ef3
end
end Mir

namespace Mir
open PySem PySem.Spec PyProof.Rows L2
/-! ## what is walked -/
/-- J gives ds, one at each turn, whatever else is made meanwhile -/
structure ItOk (K : PySem.W.Frag) (S : Hp) (J : It) (ds : List D) : Prop where
  goes : ∀ (i : Nat) (S' : Hp) (env : ME) (σ : St) (H : Hp), i < ds.length → Le S S' → Rel K S' env σ H → J.go i H
  stops : ∀ (S' : Hp) (env : ME) (σ : St) (H : Hp), Le S S' → Rel K S' env σ H → J.stop ds.length H
  yields : ∀ (i : Nat) (S' : Hp) (env : ME) (σ : St) (H : Hp) (x : V) (H' : Hp), i < ds.length → Le S S' → Rel K S' env σ H → J.yld i H x H' → ∃ S2 d, Step K S' env σ H S2 env σ H' ∧ ds[i]? = some d ∧ Rep K S2 d x ∧
    (∀ b, H b ≠ none → H' b = H b) ∧ (∀ b, S' b = none → H b ≠ none → S2 b = none)
def RI (K : PySem.W.Frag) : RR (List D) It := fun _ S ds J => ItOk K S J ds
def DI (X : Cx) (W : WX) (tg iter : Expr) (f : EF (List D)) : Prop := PI X tg iter (tr X.K W (RI X.K) f)
theorem pi_imp {X : Cx} {tg e : Expr} {t t' : TI} (h : PI X tg e t) (w : ∀ σ H Q, t' σ H Q → t σ H Q) : PI X tg e t' := ⟨fun pins s σ H Q I q => h.run pins s σ H Q I (w σ H Q q)⟩
/-! ### targets -/
abbrev TF := D → ME → Option ME
def trG (K : PySem.W.Frag) (f : TF) : TG := fun v σ H Q => ∃ S env d env', Rel K S env σ H ∧ Rep K S d v ∧ f d env = some env' ∧ ∀ S' σ' H', Step K S env σ H S' env' σ' H' → S' = S → H' = H → Q σ' H'
def DG (X : Cx) (tg : Expr) (f : TF) : Prop := PG X tg (trG X.K f)
theorem pg_imp {X : Cx} {e : Expr} {t t' : TG} (h : PG X e t) (w : ∀ v σ H Q, t' v σ H Q → t v σ H Q) : PG X e t' := ⟨fun pins s σ H v u Q I r q => h.run pins s σ H v u Q I r (w v σ H Q q)⟩
def gSl (i : Nat) : TF := fun d e => if isB e i then none else some (e.set i (some (.v d)))
section
variable {X : Cx} {W : WX} {pos : Pos}
theorem dg_name (i : Nat) {x : Str} (hN : X.N.Nodup) (hi : X.N[i]? = some x := by rfl) (hx : Loc X.env.scope x := by first | exact Or.inl rfl | exact Or.inr rfl) (hf : X.fn x = true ∨ X.env.scope.names.lookup x = some .local := by first | exact .inl rfl | exact .inr rfl | assumption) : DG X (.Name x pos) (gSl i) := by
  refine pg_imp (pg_name hN hi hx hf) ?_
  rintro v σ H Q ⟨S, env, d, env', rel, rd, e, q⟩
  unfold gSl at e
  cases hb : isB env i with
  | true => rw [hb] at e; cases e
  | false =>
    rw [hb] at e
    cases e
    exact q _ _ _ (rel.setV (notB_of hb) rd) rfl rfl
/-- several -/
def gSls : List TF → List D → ME → Option ME
  | [], [], e => some e
  | f :: fs, d :: ds, e => match f d e with
    | some e1 => gSls fs ds e1
    | none => none
  | _, _, _ => none
def trGs (K : PySem.W.Frag) (fs : List TF) : TGs := fun vs σ H Q => ∃ S env ds env', Rel K S env σ H ∧ Reps K S ds vs ∧ gSls fs ds env = some env' ∧ ∀ S' σ' H', Step K S env σ H S' env' σ' H' → S' = S → H' = H → Q σ' H'
def DGs (X : Cx) (tgs : List Expr) (fs : List TF) : Prop := PGs X tgs (trGs X.K fs)
theorem pgs_imp {X : Cx} {e : List Expr} {t t' : TGs} (h : PGs X e t) (w : ∀ v σ H Q, t' v σ H Q → t v σ H Q) : PGs X e t' := ⟨fun pins s σ H v u Q I r q => h.run pins s σ H v u Q I r (w v σ H Q q)⟩
theorem dgs_nil : DGs X [] [] := by
  refine pgs_imp pgs_nil ?_
  rintro vs σ H Q ⟨S, env, ds, env', rel, rd, e, q⟩
  cases ds with
  | nil => cases rd; cases e; exact ⟨rfl, q _ _ _ rel.step rfl rfl⟩
  | cons d ds => cases e
theorem dgs_cons {e : Expr} {es : List Expr} {f : TF} {fs : List TF} (h1 : DG X e f) (h2 : DGs X es fs) (hs : (assignEach (e :: es) X.env).map (·.2) = assign e X.env :: (assignEach es X.env).map (·.2) := by rfl) : DGs X (e :: es) (f :: fs) := by
  refine pgs_imp (pgs_cons h1 h2 hs) ?_
  rintro vs σ H Q ⟨S, env, ds, env', rel, rd, e, q⟩
  cases ds with
  | nil => cases e
  | cons d ds =>
    obtain ⟨v, r, rfl, r1, r2⟩ := rd
    unfold gSls at e
    split at e
    · rename_i e1 he
      refine ⟨v, r, rfl, S, env, d, e1, rel, r1, he, fun S' σ' H' st es eh => ?_⟩
      subst es eh
      exact ⟨_, e1, ds, env', st.rel, r2, e, fun S2 σ2 H2 st2 es2 eh2 => q S2 σ2 H2 (st.trans st2) es2 eh2⟩
    · cases e
def gTupM (fs : List TF) : TF := fun d e => match d with
  | .tup ds => if ds.length = fs.length then gSls fs ds e else none
  | _ => none
theorem dg_tup {es : List Expr} {k : Nat} {fs : List TF} (hc : X.calm = true) (h : DGs X es fs) (hn : (assignEach es X.env).length = fs.length := by rfl) (hst : (assignEach es X.env).findIdx? (·.1) = none := by rfl) : DG X (.Tuple es k pos) (gTupM fs) := by
  refine pg_imp (pg_tup hc h hn hst) ?_
  rintro v σ H Q ⟨S, env, d, env', rel, rd, e, q⟩
  cases d with
  | tup ds =>
    unfold gTupM at e
    dsimp only at e
    split at e
    · rename_i hl
      obtain ⟨a, vs, rfl, hq, hz, rr⟩ := rd
      exact ⟨a, vs, rfl, ((Le.of rel.sub).tupAt hq).sq, by rw [← Reps.len rr]; exact hl, S, env, ds, env', rel, rr, e, q⟩
    · cases e
  | _ => cases e
/-- a, b = e -/
def sTo (f : EF D) (g : TF) : SF := sBind f fun d e => match g d e with
  | some e1 => some (.nx, e1)
  | none => none
theorem ds_to {tg e : Expr} {f : EF D} {g : TF} (he : DE X W e f) (hg : DG X tg g) (hs : swapsWithSole [tg] e pos.line X.env = pure false := by rfl) (hw : swappedStores [tg] e X.env = pure none := by rfl)
    (h1 : (assignEach [tg] X.env).map (·.2) = [assign tg X.env] := by rfl) : DS X W (.Assign [tg] e pos) (sTo f g) := by
  refine ps_imp (ps_asg he hg hs hw h1) ?_
  rintro Dn σ H ⟨S, env, z⟩
  refine ⟨S, env, (AtS.bind (R := RD X.K) z).imp fun v H1 ⟨d, S1, en1, rd, st, z1⟩ => ?_⟩
  obtain ⟨o1, en', rel1, ef, q1⟩ := z1
  dsimp only at ef
  split at ef
  · rename_i e1 hg'
    cases ef
    exact ⟨S1, en1, d, _, rel1, rd, hg', fun S' σ' H' st _ _ => q1 S' σ' H' st⟩
  · cases ef
/-! ## for -/
def sLoop (tgt : TF) (body : SF) : List D → SF
  | [], e => some (.nx, e)
  | d :: ds, e => match tgt d e with
    | some e1 => match body e1 with
      | some (.nx, e2) => sLoop tgt body ds e2
      | some (.cnt, e2) => sLoop tgt body ds e2
      | some (.brk, e2) => some (.nx, e2)
      | r => r
    | none => none
def sFor (fi : EF (List D)) (tgt : TF) (body : SF) : SF := sBind fi fun ds => sLoop tgt body ds
theorem ds_for {tg iter : Expr} {body : List Stmt} {fi : EF (List D)} {g : TF} {fb : SF} (hp : PassesOwn (model X.prog X.w) X.A X.env X.xe) (hc : X.calm = true) (hi : DI X W tg iter fi) (hg : DG X tg g) (hb : DB X W body fb)
    (hs : ∀ x, foldedSetIterable iter X.env x = pure x := by intro _; rfl) : DS X W (.For tg iter body [] pos) (sFor fi g fb) := by
  refine ps_imp (ps_for hp hc hi hg hb hs) ?_
  rintro Dn σ H ⟨S, env, z⟩
  refine ⟨S, env, (AtS.bind (R := RI X.K) z).imp fun J H1 ⟨ds, S1, en1, io, st, z1⟩ => ?_⟩
  obtain ⟨o1, en', rel1, ef, q1⟩ := z1
  refine ⟨fun i m σ' H' => m = ds.length - i ∧ i ≤ ds.length ∧ ∃ S2 en2 o2 en3, Le S1 S2 ∧ Rel X.K S2 en2 σ' H' ∧ sLoop g fb (ds.drop i) en2 = some (o2, en3) ∧ ∀ S' σ2 H2, Step X.K S2 en2 σ' H' S' en3 σ2 H2 → PostS X.K W Dn o2 S' σ2 H2,
    ⟨ds.length, rfl, Nat.zero_le _, S1, en1, o1, en', Le.refl _, rel1, ef, q1⟩, ?_⟩
  rintro i m σ' H' ⟨rfl, hi, S2, en2, o2, en3, le, rel2, ef2, q2⟩
  by_cases hlt : i < ds.length
  · rw [List.drop_eq_getElem_cons hlt] at ef2
    unfold sLoop at ef2
    refine .inr ⟨io.goes i S2 en2 σ' H' hlt le rel2, fun σ3 H3 => ∃ S3 en4 o4 en5, Le S1 S3 ∧ Rel X.K S3 en4 σ3 H3 ∧ sLoop g fb (ds.drop (i + 1)) en4 = some (o4, en5) ∧ ∀ S' σ2 H2, Step X.K S3 en4 σ3 H3 S' en5 σ2 H2 → PostS X.K W Dn o4 S' σ2 H2,
      fun σ3 H3 h => ⟨ds.length - (i + 1), by omega, rfl, hlt, h⟩, fun x H3 hy => ?_⟩
    obtain ⟨S3, d, st3, hd, rd, _⟩ := io.yields i S2 en2 σ' H' x H3 hlt le rel2 hy
    rw [List.getElem?_eq_getElem hlt] at hd
    cases hd
    split at ef2
    · rename_i e1 hg1
      refine ⟨S3, en2, _, e1, st3.rel, rd, hg1, fun S4 σ4 H4 st4 es eh => ?_⟩
      have st34 := st3.trans st4
      have fin : ∀ (o5 : Out) (en5 : ME), fb e1 = some (o5, en5) → (∀ S' σ2 H2, Step X.K S2 en2 σ' H' S' en5 σ2 H2 → PostS X.K W ⟨fun σ3 H3 => ∃ S3 en4 o4 en5, Le S1 S3 ∧ Rel X.K S3 en4 σ3 H3 ∧ sLoop g fb (ds.drop (i + 1)) en4 = some (o4, en5) ∧ ∀ S' σ2 H2, Step X.K S3 en4 σ3 H3 S' en5 σ2 H2 → PostS X.K W Dn o4 S' σ2 H2, Dn.rt, Dn.nx,
          fun σ3 H3 => ∃ S3 en4 o4 en5, Le S1 S3 ∧ Rel X.K S3 en4 σ3 H3 ∧ sLoop g fb (ds.drop (i + 1)) en4 = some (o4, en5) ∧ ∀ S' σ2 H2, Step X.K S3 en4 σ3 H3 S' en5 σ2 H2 → PostS X.K W Dn o4 S' σ2 H2⟩ o5 S' σ2 H2) → trS X.K W fb ⟨fun σ3 H3 => ∃ S3 en4 o4 en5, Le S1 S3 ∧ Rel X.K S3 en4 σ3 H3 ∧ sLoop g fb (ds.drop (i + 1)) en4 = some (o4, en5) ∧ ∀ S' σ2 H2, Step X.K S3 en4 σ3 H3 S' en5 σ2 H2 → PostS X.K W Dn o4 S' σ2 H2, Dn.rt, Dn.nx,
          fun σ3 H3 => ∃ S3 en4 o4 en5, Le S1 S3 ∧ Rel X.K S3 en4 σ3 H3 ∧ sLoop g fb (ds.drop (i + 1)) en4 = some (o4, en5) ∧ ∀ S' σ2 H2, Step X.K S3 en4 σ3 H3 S' en5 σ2 H2 → PostS X.K W Dn o4 S' σ2 H2⟩ σ4 H4 :=
        fun o5 en5 h5 hq => ⟨S4, e1, o5, en5, st4.rel, h5, fun S' σ2 H2 st5 => hq S' σ2 H2 (st34.trans st5)⟩
      cases hb5 : fb e1 with
      | none => rw [hb5] at ef2; cases ef2
      | some p =>
        obtain ⟨o5, en5⟩ := p
        rw [hb5] at ef2
        refine fin o5 en5 hb5 fun S' σ2 H2 st6 => ?_
        cases o5 with
        | nx => exact ⟨S', en5, o2, en3, le.trans st6.le, st6.rel, ef2, fun S7 σ7 H7 st7 => q2 S7 σ7 H7 (st6.trans st7)⟩
        | cnt => exact ⟨S', en5, o2, en3, le.trans st6.le, st6.rel, ef2, fun S7 σ7 H7 st7 => q2 S7 σ7 H7 (st6.trans st7)⟩
        | brk =>
          have ef3 : some (Out.nx, en5) = some (o2, en3) := ef2
          cases ef3
          exact q2 S' σ2 H2 st6
        | ret r =>
          have ef3 : some (Out.ret r, en5) = some (o2, en3) := ef2
          cases ef3
          exact q2 S' σ2 H2 st6
        | ex x =>
          have ef3 : some (Out.ex x, en5) = some (o2, en3) := ef2
          cases ef3
          exact q2 S' σ2 H2 st6
    · cases ef2
  · have e : i = ds.length := by omega
    subst e
    rw [List.drop_length] at ef2
    cases ef2
    exact .inl ⟨io.stops S2 en2 σ' H' le rel2, q2 S2 σ' H' rel2.step⟩
/-! ## while -/
def sWhile (c : EF Bool) (body : SF) : Nat → SF
  | 0, _ => none
  | n + 1, e => match c e with
    | some (.ok false, e1) => some (.nx, e1)
    | some (.ok true, e1) => match body e1 with
      | some (.nx, e2) => sWhile c body n e2
      | some (.cnt, e2) => sWhile c body n e2
      | some (.brk, e2) => some (.nx, e2)
      | r => r
    | some (.ex x, e1) => some (.ex x, e1)
    | none => none
theorem sWhile_mono {c : EF Bool} {b : SF} : ∀ {n : Nat} {m : Nat} {e : ME} {r : Out × ME}, sWhile c b n e = some r → n ≤ m → sWhile c b m e = some r
  | 0, m, e, r, h, _ => by cases h
  | n + 1, 0, e, r, h, hm => by omega
  | n + 1, m + 1, e, r, h, hm => by
    unfold sWhile at h ⊢
    split at h
    · exact h
    · split at h
      · rename_i e1 h1 e2 h2
        exact sWhile_mono h (by omega)
      · rename_i e1 h1 e2 h2
        exact sWhile_mono h (by omega)
      · exact h
      · exact h
    · exact h
    · cases h
open Classical in
/-- however many turns -/
noncomputable def sWhl (c : EF Bool) (b : SF) : SF := fun e => if h : ∃ r, ∃ n, sWhile c b n e = some r then some h.choose else none
theorem sWhl_of {c : EF Bool} {b : SF} {n : Nat} {e : ME} {r : Out × ME} (h : sWhile c b n e = some r) : sWhl c b e = some r := by
  have hx : ∃ r, ∃ n, sWhile c b n e = some r := ⟨r, n, h⟩
  unfold sWhl
  rw [dif_pos hx]
  obtain ⟨m, hm⟩ := hx.choose_spec
  have h1 := sWhile_mono h (Nat.le_max_left n m)
  have h2 := sWhile_mono hm (Nat.le_max_right n m)
  rw [h1] at h2
  exact h2.symm
theorem sWhl_inv {c : EF Bool} {b : SF} {e : ME} {r : Out × ME} (h : sWhl c b e = some r) : ∃ n, sWhile c b n e = some r := by
  unfold sWhl at h
  split at h
  · rename_i hx
    obtain ⟨n, hn⟩ := hx.choose_spec
    cases h
    exact ⟨n, hn⟩
  · cases h
theorem ds_while {c : Expr} {body : List Stmt} {fc : EF Bool} {fb : SF} (hp : PassesOwn (model X.prog X.w) X.A X.env X.xe) (hc : DT X W c fc) (hb : DB X W body fb) : DS X W (.While c body [] pos) (sWhl fc fb) := by
  refine ps_imp (ps_while hp hc hb) ?_
  rintro Dn σ H ⟨S, env, o, env', rel, ef, q⟩
  obtain ⟨n, ef⟩ := sWhl_inv ef
  refine ⟨fun m σ' H' => ∃ S2 en2 o2 en3, Rel X.K S2 en2 σ' H' ∧ sWhile fc fb m en2 = some (o2, en3) ∧ ∀ S' σ2 H2, Step X.K S2 en2 σ' H' S' en3 σ2 H2 → PostS X.K W Dn o2 S' σ2 H2, ⟨n, S, env, o, env', rel, ef, q⟩, ?_⟩
  rintro m σ' H' ⟨S2, en2, o2, en3, rel2, ef2, q2⟩
  cases m with
  | zero => cases ef2
  | succ m =>
    unfold sWhile at ef2
    refine ⟨S2, en2, ?_⟩
    cases hce : fc en2 with
    | none => rw [hce] at ef2; cases ef2
    | some p =>
      obtain ⟨r1, e1⟩ := p
      rw [hce] at ef2
      refine ⟨r1, e1, rel2, hce, fun S3 H3 st3 => ?_⟩
      cases r1 with
      | ex x =>
        have ef3 : some (Out.ex x, e1) = some (o2, en3) := ef2
        cases ef3
        exact q2 S3 σ' H3 st3
      | ok b =>
        rintro b' rfl
        cases b with
        | false =>
          have ef3 : some (Out.nx, e1) = some (o2, en3) := ef2
          cases ef3
          exact iteF (q2 S3 σ' H3 st3)
        | true =>
          dsimp only at ef2
          refine iteT ⟨fun σ4 H4 => ∃ S2 en2 o2 en3, Rel X.K S2 en2 σ4 H4 ∧ sWhile fc fb m en2 = some (o2, en3) ∧ ∀ S' σ2 H2, Step X.K S2 en2 σ4 H4 S' en3 σ2 H2 → PostS X.K W Dn o2 S' σ2 H2, fun σ4 H4 h => ⟨m, Nat.lt_succ_self m, h⟩, ?_⟩
          cases hb5 : fb e1 with
          | none => rw [hb5] at ef2; cases ef2
          | some p =>
            obtain ⟨o5, en5⟩ := p
            rw [hb5] at ef2
            refine ⟨S3, e1, o5, en5, st3.rel, hb5, fun S' σ2 H2 st5 => ?_⟩
            have st6 := st3.trans st5
            cases o5 with
            | nx => exact ⟨S', en5, o2, en3, st6.rel, ef2, fun S7 σ7 H7 st7 => q2 S7 σ7 H7 (st6.trans st7)⟩
            | cnt => exact ⟨S', en5, o2, en3, st6.rel, ef2, fun S7 σ7 H7 st7 => q2 S7 σ7 H7 (st6.trans st7)⟩
            | brk =>
              have ef3 : some (Out.nx, en5) = some (o2, en3) := ef2
              cases ef3
              exact q2 S' σ2 H2 st6
            | ret r =>
              have ef3 : some (Out.ret r, en5) = some (o2, en3) := ef2
              cases ef3
              exact q2 S' σ2 H2 st6
            | ex x =>
              have ef3 : some (Out.ex x, en5) = some (o2, en3) := ef2
              cases ef3
              exact q2 S' σ2 H2 st6
end
end Mir

namespace Mir
open PySem PySem.Spec PyProof.Rows L2
/-! ## what a loop walks over -/
theorem reps_at2 {K : PySem.W.Frag} {S : Hp} : ∀ {ds : List D} {vs : List V} {i : Nat} {v : V}, Reps K S ds vs → vs[i]? = some v → ∃ d, ds[i]? = some d ∧ Rep K S d v
  | [], vs, i, v, h, e => by
    have h' : vs = [] := h
    subst h'
    simp at e
  | d :: ds, vs, i, v, h, e => by
    obtain ⟨w, r, rfl, p, q⟩ := h
    cases i with
    | zero =>
      simp at e
      subst e
      exact ⟨d, rfl, p⟩
    | succ j =>
      simp at e
      obtain ⟨d', e1, e2⟩ := reps_at2 q e
      exact ⟨d', by simpa using e1, e2⟩
section
variable {K : PySem.W.Frag} {S : Hp} {J : It} {ds : List D}
/-- a walk that leaves the heap as it is -/
theorem ItOk.still {G : Hp → Prop} {Y : Nat → Hp → V → Hp → Prop} (w : Walk J ds.length G Y) (hG : ∀ (S' : Hp) (H : Hp), Le S S' → Same S' H → G H)
    (hY : ∀ (i : Nat) (S' H : Hp) (x : V) (H' : Hp), Le S S' → Y i H x H' → H' = H ∧ ∃ d, ds[i]? = some d ∧ Rep K S' d x) : ItOk K S J ds := by
  refine ⟨fun i S' env σ H hi le rel => w.goes i H hi (hG S' H le rel.sub), fun S' env σ H le rel => w.stops H (hG S' H le rel.sub), fun i S' env σ H x H' hi le rel y => ?_⟩
  obtain ⟨e, d, h1, h2⟩ := hY i S' H x H' le (w.yields i H x H' hi (hG S' H le rel.sub) y)
  subst e
  exact ⟨S', d, rel.step, h1, h2, fun b _ => rfl, fun b h _ => h⟩
/-- .. that gives new pairs -/
theorem ItOk.pairs {G : Hp → Prop} {fx fy : Nat → Option V} (w : Walk J ds.length G (YPair fx fy)) (hG : ∀ (S' : Hp) (H : Hp), Le S S' → Same S' H → G H)
    (hY : ∀ (i : Nat) (S' : Hp) (x y : V), Le S S' → fx i = some x → fy i = some y → ∃ dx dy, ds[i]? = some (.tup [dx, dy]) ∧ Rep K S' dx x ∧ Rep K S' dy y) : ItOk K S J ds := by
  refine ⟨fun i S' env σ H hi le rel => w.goes i H hi (hG S' H le rel.sub), fun S' env σ H le rel => w.stops H (hG S' H le rel.sub), fun i S' env σ H x H' hi le rel y => ?_⟩
  obtain ⟨T, a, b, e1, e2, e3, e4, e5⟩ := w.yields i H x H' hi (hG S' H le rel.sub) y
  subst e1 e3
  obtain ⟨dx, dy, h1, h2, h3⟩ := hY i S' a b le e4 e5
  have st : Step K S' env σ H (upd S' T (.tup [a, b])) env σ (upd H T (.tup [a, b])) := rel.alloc e2
  refine ⟨_, _, st, h1, ⟨T, [a, b], rfl, .inl upd_same, by show 2 ≤ sizeLine; decide, a, [b], rfl, Rep.mono st.le _ _ h2, b, [], rfl, Rep.mono st.le _ _ h3, rfl⟩, fun c hc => ?_, fun c h hc => ?_⟩
  · exact upd_ne (fun z => hc (by rw [z]; exact e2))
  · rw [upd_ne (fun z => hc (by rw [z]; exact e2))]; exact h
theorem itOk_list {a : Addr} {vs : List V} (hq : SqL K S a vs) (r : Reps K S ds vs) : ItOk K S (Itl K a) ds := by
  have hl := Reps.len r
  refine ItOk.still (G := fun H => SqL K H a vs) (Y := YAt vs) (by rw [hl]; exact walk_list) (fun S' H le sm => (Le.of sm).sqL (le.sqL hq)) ?_
  rintro i S' H x H' le ⟨e, h⟩
  exact ⟨e, reps_at2 (Reps.mono le _ _ r) h⟩
theorem itOk_tup {a : Addr} {vs : List V} (hq : TupAt K S a vs) (r : Reps K S ds vs) : ItOk K S (Itt K a) ds := by
  have hl := Reps.len r
  refine ItOk.still (G := fun H => SqT K H a vs) (Y := YAt vs) (by rw [hl]; exact walk_tup) (fun S' H le sm => ((Le.of sm).tupAt (le.tupAt hq)).sq) ?_
  rintro i S' H x H' le ⟨e, h⟩
  exact ⟨e, reps_at2 (Reps.mono le _ _ r) h⟩
/-- a text's signs -/
def signs (x : Str) : List D := x.cps.toList.map fun c => .str ⟨#[c]⟩
theorem itOk_str {x : Str} : ItOk K S (Its x) (signs x) := by
  have hl : (signs x).length = x.cps.size := by unfold signs; simp
  refine ItOk.still (G := fun _ => True) (Y := fun i H v H' => H' = H ∧ ∃ c, x.cps[i]? = some c ∧ v = .str ⟨#[c]⟩) (by rw [hl]; exact walk_str) (fun S' H le sm => trivial) ?_
  rintro i S' H v H' le ⟨e, c, h, rfl⟩
  refine ⟨e, .str ⟨#[c]⟩, ?_, rfl, ?_⟩
  · unfold signs
    rw [List.getElem?_map]
    simp [h]
  · show 1 ≤ sizeLine; decide
def rng (lo : Int) (n : Nat) : List D := (List.range n).map fun i => .int (lo + (i : Nat))
theorem itOk_range {lo : Int} {n : Nat} : ItOk K S (Itr lo n) (rng lo n) := by
  have hl : (rng lo n).length = n := by unfold rng; simp
  refine ItOk.still (G := fun _ => 0 ≤ n) (Y := fun i H x H' => H' = H ∧ i < n ∧ x = .int (lo + i)) ?_ (fun S' H le sm => Nat.zero_le _) ?_
  · rw [hl]
    exact ⟨fun _ _ hi _ => hi, fun _ _ => Nat.le_refl _, fun _ _ _ _ hi _ y => ⟨y.1, hi, y.2⟩⟩
  rintro i S' H x H' le ⟨e, h, rfl⟩
  refine ⟨e, .int (lo + i), ?_, rfl⟩
  unfold rng
  rw [List.getElem?_map]
  simp [h]
def enm : Nat → List D → List D
  | _, [] => []
  | i, d :: ds => .tup [.int (i : Nat), d] :: enm (i + 1) ds
theorem enm_len : ∀ (i : Nat) (ds : List D), (enm i ds).length = ds.length
  | _, [] => rfl
  | i, d :: ds => by simp [enm, enm_len (i + 1) ds]
theorem enm_at : ∀ (i j : Nat) (ds : List D) (d : D), ds[j]? = some d → (enm i ds)[j]? = some (.tup [.int ((i + j : Nat) : Int), d])
  | i, 0, d0 :: ds, d, h => by simp at h; subst h; rfl
  | i, j + 1, d0 :: ds, d, h => by
    simp at h
    have := enm_at (i + 1) j ds d h
    have e : i + 1 + j = i + (j + 1) := by omega
    rw [e] at this
    simpa [enm] using this
theorem itOk_enum {a : Addr} {vs : List V} (hq : SqL K S a vs) (r : Reps K S ds vs) : ItOk K S (Ite K a) (enm 0 ds) := by
  have hl := Reps.len r
  refine ItOk.pairs (G := fun H => SqL K H a vs) (by rw [enm_len, hl]; exact walk_enum) (fun S' H le sm => (Le.of sm).sqL (le.sqL hq)) ?_
  intro i S' x y le hx hy
  cases hx
  obtain ⟨d, e1, e2⟩ := reps_at2 (Reps.mono le _ _ r) hy
  refine ⟨.int (i : Nat), d, ?_, rfl, e2⟩
  have := enm_at 0 i ds d e1
  simpa using this
def zipM : List D → List D → List D
  | a :: as, b :: bs => .tup [a, b] :: zipM as bs
  | _, _ => []
theorem zipM_len : ∀ (xs ys : List D), (zipM xs ys).length = min xs.length ys.length
  | [], ys => by simp [zipM]
  | x :: xs, [] => by simp [zipM]
  | x :: xs, y :: ys => by simp [zipM, zipM_len xs ys]
theorem zipM_at : ∀ (xs ys : List D) (i : Nat) (x y : D), xs[i]? = some x → ys[i]? = some y → (zipM xs ys)[i]? = some (.tup [x, y])
  | a :: xs, b :: ys, 0, x, y, h1, h2 => by simp at h1 h2; subst h1 h2; rfl
  | a :: xs, b :: ys, i + 1, x, y, h1, h2 => by
    simp at h1 h2
    simpa [zipM] using zipM_at xs ys i x y h1 h2
theorem itOk_zip {a b : Addr} {vs ws : List V} {es : List D} (hq : SqL K S a vs) (r : Reps K S ds vs) (hq2 : SqL K S b ws) (r2 : Reps K S es ws) : ItOk K S (Itz K a b) (zipM ds es) := by
  have hl := Reps.len r
  have hl2 := Reps.len r2
  refine ItOk.pairs (G := fun H => SqL K H a vs ∧ SqL K H b ws) (by rw [zipM_len, hl, hl2]; exact walk_zip rfl) (fun S' H le sm => ⟨(Le.of sm).sqL (le.sqL hq), (Le.of sm).sqL (le.sqL hq2)⟩) ?_
  intro i S' x y le hx hy
  obtain ⟨d, e1, e2⟩ := reps_at2 (Reps.mono le _ _ r) hx
  obtain ⟨d', e3, e4⟩ := reps_at2 (Reps.mono le _ _ r2) hy
  exact ⟨d, d', zipM_at _ _ _ _ _ e1 e3, e2, e4⟩
end
/-! ### the sources -/
def oIter : D → EF (List D)
  | .tup ds => eRet ds
  | .lst ds => eRet ds
  | .frl ds => eRet ds
  | .str x => eRet (signs x)
  | _ => fun _ => none
def eOf (f : EF D) : EF (List D) := eBind f oIter
def lsOf : D → Option (List D)
  | .lst ds => some ds
  | .frl ds => some ds
  | _ => none
theorem lsOf_rep {K : PySem.W.Frag} {S : Hp} {d : D} {ds : List D} {v : V} (h : lsOf d = some ds) (r : Rep K S d v) : ∃ a vs, v = .ref a ∧ SqL K S a vs ∧ Reps K S ds vs := by
  cases d with
  | lst xs =>
    cases h
    obtain ⟨a, vs, e, q, l, rr⟩ := r
    exact ⟨a, vs, e, .inl (.inl q), rr⟩
  | frl xs =>
    cases h
    obtain ⟨a, vs, e, q, l, rr⟩ := r
    exact ⟨a, vs, e, q, rr⟩
  | _ => cases h
theorem At.none {α β : Type} {K : PySem.W.Frag} {W : WX} {R : RR α β} {S : Hp} {env : ME} {σ : St} {H : Hp} {Q : β → Hp → Prop} {f : EF α} (h : At K W R f S env σ H Q) (e : f env = none) : False := by
  obtain ⟨r, e', rel, h1, _⟩ := h
  rw [e] at h1
  cases h1
section
variable {X : Cx} {W : WX} {pos : Pos} {tg : Expr}
theorem di_val {e : Expr} {f : EF D} (he : DE X W e f) : DI X W tg e (eOf f) := by
  refine ⟨fun pins s σ H R I h => ?_⟩
  obtain ⟨S, env, h⟩ := h
  refine thn (PE.run he pins s σ H _ I ⟨S, env, At.bind (R := RD X.K) h⟩) fun v s1 ⟨x, H1, I1, r1, d, S1, env1, rd, st, z⟩ => ?_
  cases d with
  | tup ds =>
    obtain ⟨a, vs, rfl, hq, l, rr⟩ := rd
    cases r1
    obtain ⟨its, rv, p, hz⟩ := I1.tuple ((Le.of st.rel.sub).tupAt hq).sq
    exact wpAny_pyIter_tuple (show s1.heap.IsTuple a its.toArray from p) (pi_one (tk := s1.toks) I1 _ (turn_tuple a _) ⟨_, Heap.get?_push_size _ rfl, rfl, rfl⟩ (z.ret (itOk_tup hq rr)))
  | lst ds =>
    obtain ⟨a, vs, rfl, hq, l, rr⟩ := rd
    cases r1
    have hq' : SqL X.K S1 a vs := .inl (.inl hq)
    obtain ⟨its, rv, p, hz⟩ := I1.list ((Le.of st.rel.sub).sqL hq')
    exact wpAny_pyIter_list p.isList (pi_one (tk := s1.toks) I1 _ (turn_list a _) ⟨_, Heap.get?_push_size _ rfl, rfl, rfl⟩ (z.ret (itOk_list hq' rr)))
  | frl ds =>
    obtain ⟨a, vs, rfl, hq, l, rr⟩ := rd
    cases r1
    obtain ⟨its, rv, p, hz⟩ := I1.list ((Le.of st.rel.sub).sqL hq)
    exact wpAny_pyIter_list p.isList (pi_one (tk := s1.toks) I1 _ (turn_list a _) ⟨_, Heap.get?_push_size _ rfl, rfl, rfl⟩ (z.ret (itOk_list hq rr)))
  | str y =>
    obtain ⟨rfl, hl⟩ := rd
    obtain ⟨t, rfl⟩ := r1
    have q := z.ret (itOk_str (K := X.K) (S := S1) (x := y))
    cases ha : y.cps.all (· < 128)
    · exact wpAny_pyIter_wide ha (pi_one (tk := s1.toks) I1 _ (turn_str _ y t "str_iterator" (.inr rfl)) ⟨_, Heap.get?_push_size _ rfl, rfl, rfl⟩ q)
    · exact wpAny_pyIter_ascii ha (pi_one (tk := s1.toks) I1 _ (turn_str _ y t "str_ascii_iterator" (.inl rfl)) ⟨_, Heap.get?_push_size _ rfl, rfl, rfl⟩ q)
  | _ => exact (z.none rfl).elim
/-- range(n), range(i, j) -/
def gRng1 : List AV → EF (List D)
  | [.d (.int j)] => if -(2 ^ 62) ≤ j ∧ j < 2 ^ 62 then eRet (rng 0 j.toNat) else fun _ => none
  | _ => fun _ => none
def gRng2 : List AV → EF (List D)
  | [.d (.int i), .d (.int j)] => if -(2 ^ 62) ≤ i ∧ i < 2 ^ 62 ∧ -(2 ^ 62) ≤ j ∧ j < 2 ^ 62 then eRet (rng i (j - i).toNat) else fun _ => none
  | _ => fun _ => none
theorem di_range1 {a : Expr} {f : EF (List AV)} {p : Pos} (hm : X.mg "range" = none) (ha : DA X W [a] f) (hs : starEach [a] X.env = [(false, eval a X.env)] := by rfl) (hg : Gl X "range" := by rfl) :
    DI X W tg (.Call (.Name "range" p) [a] [] pos) (eBind f gRng1) := by
  refine pi_imp (pi_range1 hg hm ha hs) ?_
  rintro σ H R ⟨S, env, z⟩
  refine ⟨S, env, (At.bind (R := RAl X.K) z).imp fun vs H1 ⟨as, S1, e1, r, st, z1⟩ => ?_⟩
  unfold gRng1 at z1
  split at z1
  · split at z1
    · rename_i j hj
      obtain ⟨v, r0, rfl, rv, e0⟩ := r
      have e0' : r0 = [] := e0
      have rv' : v = .int j := rv
      subst e0' rv'
      exact ⟨j, rfl, hj.1, hj.2, z1.ret itOk_range⟩
    · exact (z1.none rfl).elim
  · exact (z1.none rfl).elim
theorem di_range2 {a b : Expr} {f : EF (List AV)} {p : Pos} (hm : X.mg "range" = none) (ha : DA X W [a, b] f) (hs : starEach [a, b] X.env = [(false, eval a X.env), (false, eval b X.env)] := by rfl) (hs2 : starEach [b] X.env = [(false, eval b X.env)] := by rfl) (hg : Gl X "range" := by rfl) :
    DI X W tg (.Call (.Name "range" p) [a, b] [] pos) (eBind f gRng2) := by
  refine pi_imp (pi_range2 hg hm ha hs hs2) ?_
  rintro σ H R ⟨S, env, z⟩
  refine ⟨S, env, (At.bind (R := RAl X.K) z).imp fun vs H1 ⟨as, S1, e1, r, st, z1⟩ => ?_⟩
  unfold gRng2 at z1
  split at z1
  · split at z1
    · rename_i i j hj
      obtain ⟨v, r0, rfl, rv, w, r1, rfl, rw', e0⟩ := r
      have e0' : r1 = [] := e0
      have rv' : v = .int i := rv
      have rw2 : w = .int j := rw'
      subst e0' rv' rw2
      exact ⟨i, j, rfl, hj, z1.ret itOk_range⟩
    · exact (z1.none rfl).elim
  · exact (z1.none rfl).elim
/-- enumerate(list) -/
def gEnm : List AV → EF (List D)
  | [.d d] => match lsOf d with
    | some ds => eRet (enm 0 ds)
    | none => fun _ => none
  | _ => fun _ => none
theorem di_enum {a : Expr} {f : EF (List AV)} {p tpos : Pos} {elts : List Expr} {kk : Nat} (hm : X.mg "enumerate" = none) (ha : DA X W [a] f) (hs : starEach [a] X.env = [(false, eval a X.env)] := by rfl) (hg : Gl X "enumerate" := by rfl) :
    DI X W (.Tuple elts kk tpos) (.Call (.Name "enumerate" p) [a] [] pos) (eBind f gEnm) := by
  refine pi_imp (pi_enum hg hm ha hs) ?_
  rintro σ H R ⟨S, env, z⟩
  refine ⟨S, env, (At.bind (R := RAl X.K) z).imp fun vs H1 ⟨as, S1, e1, r, st, z1⟩ => ?_⟩
  unfold gEnm at z1
  split at z1
  · split at z1
    · rename_i d ds hd
      obtain ⟨v, r0, rfl, rv, e0⟩ := r
      have e0' : r0 = [] := e0
      subst e0'
      obtain ⟨a, xs, rfl, hq, rr⟩ := lsOf_rep hd rv
      exact ⟨a, xs, rfl, (Le.of z1.rel.sub).sqL hq, z1.ret (itOk_enum hq rr)⟩
    · exact (z1.none rfl).elim
  · exact (z1.none rfl).elim
/-- zip(list, list) -/
def gZip : List AV → EF (List D)
  | [.d d, .d d'] => match lsOf d, lsOf d' with
    | some ds, some es => eRet (zipM ds es)
    | _, _ => fun _ => none
  | _ => fun _ => none
theorem di_zip {a b : Expr} {f : EF (List AV)} {p tpos : Pos} {elts : List Expr} {kk : Nat} (hm : X.mg "zip" = none) (ha : DA X W [a, b] f) (hs : starEach [a, b] X.env = (false, eval a X.env) :: starEach [b] X.env := by rfl)
    (hpl : (backTo pos (starEach [b] X.env)).any (·.1) = false := by rfl) (hg : Gl X "zip" := by rfl) :
    DI X W (.Tuple elts kk tpos) (.Call (.Name "zip" p) [a, b] [] pos) (eBind f gZip) := by
  refine pi_imp (pi_zip hg hm ha hs hpl) ?_
  rintro σ H R ⟨S, env, z⟩
  refine ⟨S, env, (At.bind (R := RAl X.K) z).imp fun vs H1 ⟨as, S1, e1, r, st, z1⟩ => ?_⟩
  unfold gZip at z1
  split at z1
  · split at z1
    · rename_i d d' ds es hd hd'
      obtain ⟨v, r0, rfl, rv, w, r1, rfl, rw', e0⟩ := r
      have e0' : r1 = [] := e0
      subst e0'
      obtain ⟨a, xs, rfl, hq, rr⟩ := lsOf_rep hd rv
      obtain ⟨b, ys, rfl, hq2, rr2⟩ := lsOf_rep hd' rw'
      exact ⟨a, b, xs, ys, rfl, (Le.of z1.rel.sub).sqL hq, (Le.of z1.rel.sub).sqL hq2, z1.ret (itOk_zip hq rr hq2 rr2)⟩
    · exact (z1.none rfl).elim
  · exact (z1.none rfl).elim
end
/-! ### an own object that from now on is only read -/
def eFrz (i : Nat) : EF D := fun e => match e[i]? with
  | some (some (.v d)) => some (.ok d, e)
  | some (some (.o m)) => some (.ok m.d, e.set i (some (.v m.d)))
  | _ => none
theorem de_frz {X : Cx} {W : WX} (i : Nat) {x : Str} {pos : Pos} (hN : X.N[i]? = some x := by rfl) (hv : Vis X.env.scope x := by first | exact Or.inl rfl | exact Or.inr (Or.inl rfl) | exact Or.inr (Or.inr rfl))
    (hd : (x == ("__debug__" : Str)) = false := by decide) (hcd : (x == ("__classdict__" : Str)) = false := by decide) : DE X W (.Name x pos) (eFrz i) := by
  refine pe_imp (pe_var hN hv hd hcd) ?_
  rintro σ H Q ⟨S, env, r, env', rel, e, q⟩
  unfold eFrz at e
  split at e
  · rename_i d hd
    cases e
    obtain ⟨v, e1, e2⟩ := rel.val i d hd
    exact ⟨v, e1, q S H rel.step v e2⟩
  · rename_i m hm
    cases e
    obtain ⟨S', st⟩ := rel.frz hm
    obtain ⟨v, e1, e2⟩ := st.rel.val i m.d (List.getElem?_set_self (lt_of_at hm))
    exact ⟨v, e1, q S' H st v e2⟩
  · cases e
end Mir

namespace Mir
open PySem PySem.Spec PyProof.Rows L2
/-! ## slots wiped -/
theorem wipe_in {σ : St} {i : Nat} (hi : i < σ.length) : ∀ {vs : List Nat}, i ∈ vs → (wipe σ vs)[i]? = some none
  | v :: vs, h => by
    unfold wipe
    by_cases e : v = i
    · subst e
      exact List.getElem?_set_self (by rw [wipe_length]; exact hi)
    · rw [List.getElem?_set_ne e]
      rcases List.mem_cons.mp h with h | h
      · exact absurd h.symm e
      · exact wipe_in hi h
theorem wipe_eq {σ τ : St} {vs : List Nat} (hl : σ.length = τ.length) (h : ∀ j, j ∉ vs → σ[j]? = τ[j]?) : wipe σ vs = wipe τ vs := by
  apply List.ext_getElem?
  intro j
  by_cases hj : j ∈ vs
  · by_cases hb : j < σ.length
    · rw [wipe_in hb hj, wipe_in (by rw [← hl]; exact hb) hj]
    · rw [List.getElem?_eq_none (by rw [wipe_length]; omega), List.getElem?_eq_none (by rw [wipe_length]; omega)]
  · rw [wipe_out hj, wipe_out hj, h j hj]
theorem wipe_set {σ : St} {vs : List Nat} {i : Nat} {x : Option V} (hi : i ∈ vs) : wipe (σ.set i x) vs = wipe σ vs :=
  wipe_eq (by simp) fun j hj => by rw [List.getElem?_set_ne (fun e => hj (by rw [← e]; exact hi))]
theorem wipe_idem {σ : St} {vs : List Nat} : wipe (wipe σ vs) vs = wipe σ vs := wipe_eq (wipe_length _ _) fun j hj => wipe_out hj
def wipeE (e : ME) : List Nat → ME
  | [] => e
  | v :: vs => (wipeE e vs).set v none
theorem wipeE_some {e : ME} {i : Nat} {s : Sl} : ∀ {vs : List Nat}, (wipeE e vs)[i]? = some (some s) → e[i]? = some (some s) ∧ i ∉ vs
  | [], h => ⟨h, by simp⟩
  | v :: vs, h => by
    unfold wipeE at h
    by_cases hv : v = i
    · subst hv
      have := set_self h
      cases this
    · rw [List.getElem?_set_ne hv] at h
      obtain ⟨h1, h2⟩ := wipeE_some h
      exact ⟨h1, by simp [h2, Ne.symm hv]⟩
section
variable {K : PySem.W.Frag} {S S' : Hp} {env env' : ME} {σ σ' τ τ' : St} {H H' : Hp}
theorem Rel.wipe (r : Rel K S env σ H) : ∀ {vs : List Nat}, (∀ i ∈ vs, NotB env i) → Step K S env σ H S (wipeE env vs) (wipe σ vs) H
  | [], _ => r.step
  | v :: vs, h => by
    have st := Rel.wipe r (vs := vs) fun i hi => h i (List.mem_cons_of_mem _ hi)
    refine st.trans (st.rel.forget fun m e => ?_)
    exact h v List.mem_cons_self m (wipeE_some e).1
/-- slots of which nothing is said may differ -/
theorem Step.off (st : Step K S env τ H S' env' τ' H') (h : ∀ (i : Nat) (s : Sl), env[i]? = some (some s) → σ[i]? = τ[i]?) (h' : ∀ (i : Nat) (s : Sl), env'[i]? = some (some s) → σ'[i]? = τ'[i]?) (l : σ.length = τ.length) (l' : σ'.length = τ'.length) : Step K S env σ H S' env' σ' H' := by
  have ob : ∀ {e : ME} {i : Nat} {m : MO}, Has e i m → ∃ s, e[i]? = some (some s) := fun h => h.elim fun s h => ⟨s, h.1⟩
  have ow : ∀ {a : Addr}, OwnO env τ a → OwnO env σ a := fun ⟨i, m, e1, e2⟩ => ⟨i, m, e1, (h i _ e1).trans e2⟩
  refine ⟨⟨st.rel.len.trans l'.symm, st.rel.sub, fun i d e => ?_, fun i m e => ?_, fun i j m m' a e1 e2 e3 e4 => ?_⟩, st.le, fun b hb => ?_, fun b o e hS n => st.frame b o e hS fun ⟨i, m, e1, e2⟩ => n ⟨i, m, e1, ?_⟩, fun i m e => ?_, st.borr, fun a ha => ?_, ?_, st.keep⟩
  · rw [h' i _ e]; exact st.rel.val i d e
  · obtain ⟨s, e0⟩ := ob e
    rw [h' i _ e0]; exact st.rel.obj i m e
  · obtain ⟨s, q⟩ := ob e1
    obtain ⟨s', q'⟩ := ob e2
    rw [h' i _ q] at e3
    rw [h' j _ q'] at e4
    exact st.rel.dis i j m m' a e1 e2 e3 e4
  · rcases st.fresh b hb with z | z | z
    · exact .inl z
    · exact .inr (.inl z)
    · exact .inr (.inr (ow z))
  · obtain ⟨s, q⟩ := ob e1
    rw [h i _ q]; exact e2
  · obtain ⟨⟨m', q1⟩, q2⟩ := st.bor i m e
    exact ⟨⟨m', q1⟩, by rw [h' i _ q1, h i _ e]; exact q2⟩
  · obtain ⟨i, m, e1, e2⟩ := ha
    rw [h' i _ e1] at e2
    rcases st.own a ⟨i, m, e1, e2⟩ with z | z
    · exact .inl (ow z)
    · exact .inr z
  · rw [l, l']; exact st.len
theorem less_upd {p : Addr} {o : HO} : less (upd H p o) p = less H p := by
  funext b
  unfold less upd
  by_cases e : b = p <;> simp [e]
theorem less_id {p : Addr} (h : H p = none) : less H p = H := by
  funext b
  unfold less
  by_cases e : b = p
  · subst e; simp [h]
  · simp [e]
/-- a step beside an object that is no slot's -/
theorem Step.lessen (st : Step K S env σ H S' env' σ' H') {p : Addr} {o : HO} (hp : H p = some o) (hS : S p = none) (n : ¬ Own env σ p) : Step K S env σ (less H p) S' env' σ' (less H' p) := by
  have nO : ¬ OwnO env σ p := fun h => n h.own
  have hS' : S' p = none := by
    cases e : S' p with
    | none => rfl
    | some u =>
      rcases st.fresh p (by rw [e]; simp) with z | z | z
      · exact absurd hS z
      · rw [hp] at z; cases z
      · exact absurd z nO
  have n' : ¬ Own env' σ' p := by
    rintro ⟨i, m, ⟨s, e1, e2⟩, e3⟩
    cases s with
    | v d => cases e2
    | o m' =>
      rcases st.own p ⟨i, m', e1, e3⟩ with z | z
      · exact nO z
      · rw [hp] at z; cases z
    | b m' =>
      obtain ⟨m0, q⟩ := st.borr i m' e1
      obtain ⟨_, q2⟩ := st.bor i m0 q
      exact n ⟨i, m0, ⟨_, q, rfl⟩, by rw [← q2]; exact e3⟩
  refine ⟨⟨st.rel.len, fun b u e => ?_, st.rel.val, fun i m e => ?_, st.rel.dis⟩, st.le, fun b hb => ?_, fun b u e nS nb => ?_, st.bor, st.borr, fun a ha => ?_, st.len, st.keep⟩
  · have hb : b ≠ p := fun z => by subst z; rw [hS'] at e; cases e
    rw [less_ne hb]; exact st.rel.sub b u e
  · obtain ⟨a, u, e1, e2, e3, e4⟩ := st.rel.obj i m e
    have ha : a ≠ p := fun z => by subst z; exact n' ⟨i, m, e, e1⟩
    exact ⟨a, u, e1, by rw [less_ne ha]; exact e2, e3, e4⟩
  · rcases st.fresh b hb with z | z | z
    · exact .inl z
    · refine .inr (.inl ?_)
      by_cases e : b = p
      · subst e; exact less_same
      · rw [less_ne e]; exact z
    · exact .inr (.inr z)
  · have hb : b ≠ p := fun z => by subst z; rw [less_same] at e; cases e
    rw [less_ne hb] at e
    rw [less_ne hb]
    exact st.frame b u e nS nb
  · rcases st.own a ha with z | z
    · exact .inl z
    · refine .inr ?_
      by_cases e : a = p
      · subst e; exact less_same
      · rw [less_ne e]; exact z
end
/-! ## targets that store into vs -/
def trGv (vs : List Nat) (K : PySem.W.Frag) (f : TF) : TG := fun v σ H Q => ∃ S env d env', Rel K S env σ H ∧ Rep K S d v ∧ f d env = some env' ∧ ∀ S' σ' H', Step K S env σ H S' env' σ' H' → S' = S → H' = H → wipe σ' vs = wipe σ vs → Q σ' H'
def DGv (X : Cx) (vs : List Nat) (tg : Expr) (f : TF) : Prop := PG X tg (trGv vs X.K f)
section
variable {X : Cx} {W : WX} {pos : Pos} {vs : List Nat}
theorem dgv_name (i : Nat) {x : Str} (hN : X.N.Nodup) (hm : i ∈ vs := by decide) (hi : X.N[i]? = some x := by rfl) (hx : Loc X.env.scope x := by first | exact Or.inl rfl | exact Or.inr rfl) (hf : X.fn x = true ∨ X.env.scope.names.lookup x = some .local := by first | exact .inl rfl | exact .inr rfl | assumption) : DGv X vs (.Name x pos) (gSl i) := by
  refine pg_imp (pg_name hN hi hx hf) ?_
  rintro v σ H Q ⟨S, env, d, env', rel, rd, e, q⟩
  unfold gSl at e
  cases hb : isB env i with
  | true => rw [hb] at e; cases e
  | false =>
    rw [hb] at e
    cases e
    exact q _ _ _ (rel.setV (notB_of hb) rd) rfl rfl (wipe_set hm)
def trGvs (vs : List Nat) (K : PySem.W.Frag) (fs : List TF) : TGs := fun ws σ H Q => ∃ S env ds env', Rel K S env σ H ∧ Reps K S ds ws ∧ gSls fs ds env = some env' ∧ ∀ S' σ' H', Step K S env σ H S' env' σ' H' → S' = S → H' = H → wipe σ' vs = wipe σ vs → Q σ' H'
def DGvs (X : Cx) (vs : List Nat) (tgs : List Expr) (fs : List TF) : Prop := PGs X tgs (trGvs vs X.K fs)
theorem dgvs_nil : DGvs X vs [] [] := by
  refine pgs_imp pgs_nil ?_
  rintro ws σ H Q ⟨S, env, ds, env', rel, rd, e, q⟩
  cases ds with
  | nil => cases rd; cases e; exact ⟨rfl, q _ _ _ rel.step rfl rfl rfl⟩
  | cons d ds => cases e
theorem dgvs_cons {e : Expr} {es : List Expr} {f : TF} {fs : List TF} (h1 : DGv X vs e f) (h2 : DGvs X vs es fs) (hs : (assignEach (e :: es) X.env).map (·.2) = assign e X.env :: (assignEach es X.env).map (·.2) := by rfl) : DGvs X vs (e :: es) (f :: fs) := by
  refine pgs_imp (pgs_cons h1 h2 hs) ?_
  rintro ws σ H Q ⟨S, env, ds, env', rel, rd, e, q⟩
  cases ds with
  | nil => cases e
  | cons d ds =>
    obtain ⟨v, r, rfl, r1, r2⟩ := rd
    unfold gSls at e
    split at e
    · rename_i e1 he
      refine ⟨v, r, rfl, S, env, d, e1, rel, r1, he, fun S' σ' H' st es eh ew => ?_⟩
      subst es eh
      exact ⟨_, e1, ds, env', st.rel, r2, e, fun S2 σ2 H2 st2 es2 eh2 ew2 => q S2 σ2 H2 (st.trans st2) es2 eh2 (ew2.trans ew)⟩
    · cases e
theorem dgv_tup {es : List Expr} {k : Nat} {fs : List TF} (hc : X.calm = true) (h : DGvs X vs es fs) (hn : (assignEach es X.env).length = fs.length := by rfl) (hst : (assignEach es X.env).findIdx? (·.1) = none := by rfl) : DGv X vs (.Tuple es k pos) (gTupM fs) := by
  refine pg_imp (pg_tup hc h hn hst) ?_
  rintro v σ H Q ⟨S, env, d, env', rel, rd, e, q⟩
  cases d with
  | tup ds =>
    unfold gTupM at e
    dsimp only at e
    split at e
    · rename_i hl
      obtain ⟨a, ws, rfl, hq, hz, rr⟩ := rd
      exact ⟨a, ws, rfl, ((Le.of rel.sub).tupAt hq).sq, by rw [← Reps.len rr]; exact hl, S, env, ds, env', rel, rr, e, q⟩
    · cases e
  | _ => cases e
/-! ## [el for tg in iter if tst] -/
abbrev W0 : WX := fun _ _ _ _ => False
def cLoop (vs : List Nat) (tgt : TF) (tst : EF Bool) (el : EF D) : List D → List D → ME → Option (List D × ME)
  | [], acc, e => some (acc, e)
  | d :: ds, acc, e => match tgt d e with
    | some e1 => match tst e1 with
      | some (.ok true, e2) => match el e2 with
        | some (.ok x, e3) => cLoop vs tgt tst el ds (acc ++ [x]) (wipeE e3 vs)
        | _ => none
      | some (.ok false, e2) => cLoop vs tgt tst el ds acc (wipeE e2 vs)
      | _ => none
    | none => none
def offAt (vs : List Nat) (e : ME) : Bool := vs.all fun i => match e[i]? with
  | some (some _) => false
  | _ => true
theorem offAt_of {vs : List Nat} {e : ME} (h : offAt vs e = true) : ∀ i s, e[i]? = some (some s) → i ∉ vs := fun i s he hi => by
  have := List.all_eq_true.mp h i hi
  rw [he] at this
  cases this
def eLc (vs : List Nat) (fi : EF (List D)) (tgt : TF) (tst : EF Bool) (el : EF D) : EF FR := eBind fi fun ds e => if offAt vs e = true ∧ ds.length ≤ sizeLine then match cLoop vs tgt tst el ds [] e with
    | some (acc, e') => some (.ok (.o (.lst acc)), e')
    | none => none
  else none
theorem reps_snoc {K : PySem.W.Frag} {S : Hp} {d : D} {v : V} : ∀ {ds : List D} {vs : List V}, Reps K S ds vs → Rep K S d v → Reps K S (ds ++ [d]) (vs ++ [v])
  | [], vs, h, r => by
    have h' : vs = [] := h
    subst h'
    exact ⟨v, [], rfl, r, rfl⟩
  | a :: as, vs, h, r => by
    obtain ⟨w, ws, rfl, p, q⟩ := h
    exact ⟨w, ws ++ [v], rfl, p, reps_snoc q r⟩
theorem lc_tr {K : PySem.W.Frag} {fi : EF (List D)} {tgt : TF} {tst : EF Bool} {el : EF D} {σ : St} {H : Hp} {Q : VK} (h : trF K W (eLc vs fi tgt tst el) σ H Q) :
    tLc (tr K W (RI K) fi) (trGv vs K tgt) (tr K W0 RB tst) (tr K W0 (RD K) el) vs σ H Q := by
  obtain ⟨S, env, r, env', rel, ef, q⟩ := h
  unfold eLc eBind at ef
  refine ⟨S, env, ?_⟩
  cases ea : fi env with
  | none => rw [ea] at ef; cases ef
  | some p =>
    obtain ⟨r1, e1⟩ := p
    rw [ea] at ef
    cases r1 with
    | ex x =>
      have ef' : some (Res.ex x, e1) = some (r, env') := ef
      cases ef'
      exact ⟨.ex x, _, rel, ea, q⟩
    | ok ds =>
      refine ⟨.ok ds, e1, rel, ea, fun S1 H1 st J io L hL => ?_⟩
      dsimp only at ef
      split at ef
      · rename_i hc
        obtain ⟨hoff, hlen⟩ := hc
        split at ef
        · rename_i out e' hcl
          cases ef
          have hoff := offAt_of hoff
          have l0 : (wipe σ vs).length = σ.length := wipe_length _ _
          have st0 : Step K S1 e1 (wipe σ vs) H1 S1 e1 (wipe σ vs) H1 := st.rel.step.off (fun i s h => wipe_out (hoff i s h)) (fun i s h => wipe_out (hoff i s h)) l0 l0
          refine ⟨fun i m H => m = ds.length - i ∧ i ≤ ds.length ∧ ∃ S2 e2 acc vacc, Step K S1 e1 (wipe σ vs) H1 S2 e2 (wipe σ vs) (less H L) ∧ H L = some (.lst vacc) ∧ Reps K S2 acc vacc ∧ acc.length ≤ i ∧ (∀ i s, e2[i]? = some (some s) → i ∉ vs) ∧ cLoop vs tgt tst el (ds.drop i) acc e2 = some (out, env'),
            ⟨ds.length, rfl, Nat.zero_le _, S1, e1, [], [], by rw [less_upd, less_id hL]; exact st0, upd_same, rfl, Nat.zero_le _, hoff, hcl⟩, ?_⟩
          rintro i m H2 ⟨rfl, hi, S2, en2, acc, vacc, st2, hH, rr, hal, hoff2, hcl2⟩
          have bst : Step K S2 en2 (wipe σ vs) (less H2 L) S2 en2 (wipe σ vs) H2 := by
            have := st2.rel.beside (p := L) (o := .lst vacc) less_same
            rwa [upd_less hH] at this
          have nS : S2 L = none := by
            cases e : S2 L with
            | none => rfl
            | some u =>
              have := st2.rel.sub _ _ e
              rw [less_same] at this
              cases this
          have nO : ¬ Own en2 (wipe σ vs) L := by
            rintro ⟨j, m, h1, h2⟩
            obtain ⟨a, o, q1, q2, _, _⟩ := st2.rel.obj j m h1
            rw [h2] at q1
            cases q1
            rw [less_same] at q2
            cases q2
          by_cases hlt : i < ds.length
          · rw [List.drop_eq_getElem_cons hlt] at hcl2
            unfold cLoop at hcl2
            refine .inr ⟨io.goes i S2 en2 _ H2 hlt st2.le bst.rel, fun H3 => i + 1 ≤ ds.length ∧ ∃ S2 en2 acc vacc, Step K S1 e1 (wipe σ vs) H1 S2 en2 (wipe σ vs) (less H3 L) ∧ H3 L = some (.lst vacc) ∧ Reps K S2 acc vacc ∧ acc.length ≤ i + 1 ∧ (∀ i s, en2[i]? = some (some s) → i ∉ vs) ∧ cLoop vs tgt tst el (ds.drop (i + 1)) acc en2 = some (out, env'),
              fun H3 h3 => ⟨ds.length - (i + 1), by omega, rfl, h3⟩, fun x H3 hy => ?_⟩
            obtain ⟨S3, d, st3, hd, rd, _⟩ := io.yields i S2 en2 _ H2 x H3 hlt st2.le bst.rel hy
            rw [List.getElem?_eq_getElem hlt] at hd
            cases hd
            split at hcl2
            · rename_i e3 hg3
              refine ⟨S3, en2, _, e3, st3.rel, rd, hg3, fun S4 σ4 H4 st4 es eh ew => ?_⟩
              have ew' : wipe σ4 vs = wipe σ vs := ew.trans wipe_idem
              have st24 := st3.trans st4
              have fin : ∀ (S5 : Hp) (e5 : ME) (H5 : Hp), Step K S2 en2 (wipe σ vs) H2 S5 e5 σ4 H5 → Step K S1 e1 (wipe σ vs) H1 S5 (wipeE e5 vs) (wipe σ vs) (less H5 L) ∧ H5 L = some (.lst vacc) := fun S5 e5 H5 st5 => by
                refine ⟨?_, st5.frame L _ hH nS nO⟩
                have a := st2.trans (st5.lessen hH nS nO)
                have b := a.rel.wipe (vs := vs) fun j hj m hm => by
                  obtain ⟨m', hm'⟩ := a.borr j m hm
                  exact hoff j _ hm' hj
                rw [ew'] at b
                exact a.trans b
              refine ⟨ew', ?_⟩
              split at hcl2
              · rename_i e4 ht4
                refine ⟨S4, e3, .ok true, e4, st4.rel, ht4, fun S5 H5 st5 b hb => ?_⟩
                have hb' : true = b := hb
                subst hb'
                split at hcl2
                · rename_i y e5 hel
                  refine iteT ⟨S5, e4, .ok y, e5, st5.rel, hel, fun S6 H6 st6 w rw6 => ?_⟩
                  obtain ⟨f1, f2⟩ := fin S6 e5 H6 ((st24.trans st5).trans st6)
                  refine ⟨vacc, f2, by rw [← Reps.len rr]; omega, hlt, S6, wipeE e5 vs, acc ++ [y], vacc ++ [w], by rw [less_upd]; exact f1, upd_same, reps_snoc (Reps.mono ((st24.trans st5).trans st6).le _ _ rr) rw6, by simp; exact hal, fun j s h => (wipeE_some h).2, hcl2⟩
                · cases hcl2
              · rename_i e4 ht4
                refine ⟨S4, e3, .ok false, e4, st4.rel, ht4, fun S5 H5 st5 b hb => ?_⟩
                have hb' : false = b := hb
                subst hb'
                obtain ⟨f1, f2⟩ := fin S5 e4 H5 (st24.trans st5)
                exact iteF ⟨hlt, S5, wipeE e4 vs, acc, vacc, f1, f2, Reps.mono (st24.trans st5).le _ _ rr, Nat.le_succ_of_le hal, fun j s h => (wipeE_some h).2, hcl2⟩
              · cases hcl2
            · cases hcl2
          · have e : i = ds.length := by omega
            subst e
            rw [List.drop_length] at hcl2
            have hcl3 : some (acc, en2) = some (out, env') := hcl2
            cases hcl3
            refine .inl ⟨io.stops S2 _ _ H2 st2.le bst.rel, ?_⟩
            have full := st.trans (st2.off (fun i s h => (wipe_out (hoff i s h)).symm) (fun i s h => (wipe_out (hoff2 i s h)).symm) l0.symm l0.symm)
            have z := q S2 (less H2 L) full L (.lst vacc) less_same ⟨vacc, rfl, by omega, rr⟩
            rwa [upd_less hH] at z
        · cases ef
      · cases ef
def DTs (X : Cx) (W : WX) (ifs : List Expr) (f : EF Bool) : Prop := PTs X ifs (tr X.K W RB f)
theorem pts_imp {ifs : List Expr} {t t' : TT} (h : PTs X ifs t) (w : ∀ σ H Q, t' σ H Q → t σ H Q) : PTs X ifs t' := ⟨fun pins s σ H Q I q => h.run pins s σ H Q I (w σ H Q q)⟩
theorem dts_nil : DTs X W [] (eRet true) := by
  refine pts_imp pts_nil ?_
  rintro σ H Q ⟨S, env, z⟩
  exact At.ret (R := RB) z rfl
theorem dts_one {c : Expr} {f : EF Bool} (h : DT X W c f) : DTs X W [c] f := pts_one h
theorem df_lc {elt tg iter : Expr} {ifs : List Expr} {scope : Scope} {own : List (Str × Nat)} {fi : EF (List D)} {tgt : TF} {tst : EF Bool} {el : EF D} (hc : X.calm = true) (hN : X.N.Nodup) (hi : DI X W tg iter fi) (ok : BlkOk X.N X.env.scope scope own)
    (hg : ∀ (s : Shared) (H : Hp) (C : Addr) (cl : List (Str × Addr)) (fp : List Addr), DGv (X.blk s H scope (compEnvC scope cl C X.env) fp) (own.map (·.2)) tg tgt)
    (ht : ∀ (s : Shared) (H : Hp) (C : Addr) (cl : List (Str × Addr)) (fp : List Addr), DTs (X.blk s H scope (compEnvC scope cl C X.env) fp) W0 ifs tst)
    (he : ∀ (s : Shared) (H : Hp) (C : Addr) (cl : List (Str × Addr)) (fp : List Addr), DE (X.blk s H scope (compEnvC scope cl C X.env) fp) W0 elt el) (hs : ∀ x, foldedSetIterable iter X.env x = pure x := by intro _; rfl) :
    DF X W (.ListComp elt [⟨tg, iter, ifs, 0⟩] scope pos) (eLc (own.map (·.2)) fi tgt tst el) := pe_imp (pe_lc (g := trGv (List.map (fun p : Str × Nat => p.2) own) X.K tgt) (tt := tr X.K W0 RB tst) (te := tr X.K W0 (RD X.K) el) hc hN hi ok hg ht he hs) fun σ H Q h => lc_tr h
/-- name = [..], on the name's line -/
theorem ds_setLc (i : Nat) {y : Str} {py spos : Pos} {elt tg iter : Expr} {ifs : List Expr} {scope : Scope} {own : List (Str × Nat)} {fi : EF (List D)} {tgt : TF} {tst : EF Bool} {el : EF D} (hc : X.calm = true) (hN : X.N.Nodup) (hi : DI X W tg iter fi) (ok : BlkOk X.N X.env.scope scope own)
    (hg : ∀ (s : Shared) (H : Hp) (C : Addr) (cl : List (Str × Addr)) (fp : List Addr), DGv (X.blk s H scope (compEnvC scope cl C X.env) fp) (own.map (·.2)) tg tgt)
    (ht : ∀ (s : Shared) (H : Hp) (C : Addr) (cl : List (Str × Addr)) (fp : List Addr), DTs (X.blk s H scope (compEnvC scope cl C X.env) fp) W0 ifs tst)
    (he : ∀ (s : Shared) (H : Hp) (C : Addr) (cl : List (Str × Addr)) (fp : List Addr), DE (X.blk s H scope (compEnvC scope cl C X.env) fp) W0 elt el)
    (hsw : swapsWith (.ListComp elt [⟨tg, iter, ifs, 0⟩] scope pos) (some (.Name y py)) spos.line X.env = pure true) (hy : X.N[i]? = some y := by rfl) (hyl : X.env.scope.names.lookup y = some .local := by rfl) (hs : ∀ x, foldedSetIterable iter X.env x = pure x := by intro _; rfl) :
    DS X W (.Assign [.Name y py] (.ListComp elt [⟨tg, iter, ifs, 0⟩] scope pos) spos) (sSetF i (eLc (own.map (·.2)) fi tgt tst el)) := by
  refine ps_imp (ps_setLc (g := trGv (List.map (fun p : Str × Nat => p.2) own) X.K tgt) (tt := tr X.K W0 RB tst) (te := tr X.K W0 (RD X.K) el) hc hN hy hyl hsw hi ok hg ht he hs) ?_
  rintro Dn σ H ⟨S, env, z⟩
  exact lc_tr (trF_bind z fun r S1 e1 H1 z1 => putF_end z1)
end
end Mir

namespace Mir
open PySem PySem.Spec PyProof.Rows L2
section
variable {X : Cx} {W : WX} {pos : Pos}
/-! ## repr of a truth, an int -/
theorem call_reprP : CallR X (.builtin "repr") (fun xs H Q => (∃ b : Bool, xs = [.bl b] ∧ Q (.str (if b then "True" else "False")) H) ∨ ∃ i, xs = [.int i] ∧ i.natAbs.log2 < 1920 ∧ Q (.str (toString i)) H) := by
  intro pins s σ H xs us Q I r h
  rcases h with ⟨b, rfl, q⟩ | ⟨i, rfl, hz, q⟩
  · obtain ⟨u, rfl, t⟩ := vals1 r
    obtain rfl : u = Value.bool b := t
    exact PySem.P.repr_of_bool ⟨.str _, H, I.tok _, ⟨_, rfl⟩, q⟩
  · obtain ⟨u, rfl, t, rfl⟩ := vals1 r
    exact PySem.P.repr_of_int hz ⟨.str _, H, I.tok _, ⟨_, rfl⟩, q⟩
def oRep : D → Option D
  | .bl true => some (.str "True")
  | .bl false => some (.str "False")
  | .int i => if i.natAbs.log2 < 1920 ∧ (toString i : Str).length ≤ sizeLine then some (.str (toString i)) else none
  | _ => none
theorem de_repr {p : Pos} {e : Expr} {es : List Expr} {fas : EF (List AV)} (hm : X.mg "repr" = none) (ha : DA X W (e :: es) fas) (hg : Gl X "repr" := by rfl) (he : starEach (e :: es) X.env = (false, eval e X.env) :: starEach es X.env := by rfl) (hpl : (backTo pos (starEach es X.env)).any (·.1) = false := by rfl) :
    DE X W (.Call (.Name "repr" p) (e :: es) [] pos) (eBind fas (g1 fun a => eOn a oRep)) := by
  refine de_b1 call_reprP hm rfl ha (fun d v S H Q x r h q => ?_) (fun d x h S S' w r => ?_) hg (by decide) (by decide) he hpl
  · cases d with
    | bl b =>
      obtain rfl : v = V.bl b := r
      refine .inl ⟨b, rfl, ?_⟩
      cases b with
      | true => cases h; exact q _ fun _ => ⟨rfl, by decide⟩
      | false => cases h; exact q _ fun _ => ⟨rfl, by decide⟩
    | int i =>
      obtain rfl : v = V.int i := r
      unfold oRep at h
      dsimp only at h
      split at h
      · rename_i hz
        cases h
        exact .inr ⟨i, rfl, hz.1, q _ fun _ => ⟨rfl, hz.2⟩⟩
      · cases h
    | _ => cases h
  · cases d with
    | bl b => cases b <;> (cases h; exact r)
    | int i =>
      unfold oRep at h
      dsimp only at h
      split at h
      · cases h; exact r
      · cases h
    | _ => cases h
/-! ## {} -/
theorem df_dict0 : DF X W (.Dict [] [] pos) (eRet (.o (.dK []))) := by
  refine pe_imp pe_dnewK ?_
  rintro σ H Q ⟨S, env, r, env', rel, e, q⟩
  cases e
  exact fun p hp => q S H rel.step p _ hp ⟨[], rfl, Nat.zero_le _, rfl⟩
/-! ## -e -/
def oNeg : D → EF D
  | .int i => eRet (.int (-i))
  | _ => fun _ => none
theorem de_neg {e : Expr} {f : EF D} (h : DE X W e f) : DE X W (.UnaryOp .USub e pos) (eBind f oNeg) := by
  refine pe_imp (pe_un un_neg h) ?_
  rintro σ H Q ⟨S, env, z⟩
  refine ⟨S, env, (At.bind (R := RD X.K) z).imp fun v H1 ⟨d, S1, e1, r, st, z1⟩ => ?_⟩
  cases d with
  | int i => exact ⟨i, r, z1.ret rfl⟩
  | _ => exact (z1.none rfl).elim
/-! ## in -/
def oIn (d c : D) : Option D := match oInS d c with
  | some x => some x
  | none => oInL d c
abbrev rIn2 (K : PySem.W.Frag) : R2 := fun x y H Q => (∃ (c : Nat) (z : Str), x = .str ⟨#[c]⟩ ∧ y = .str z ∧ Q (.bl (decide (c ∈ z.cps.toList))) H) ∨ rInD K x y H Q
theorem op_in2 (hu : X.A.units + 65 < cLine) : OpR X (compareOp .In) (rIn2 X.K) := OpR.or op_in_sign (op_inD hu)
theorem ok_in2 {K : PySem.W.Frag} : OpOk K (rIn2 K) oIn := OpOk.or ok_inS ok_inL
/-- not in a list -/
def oNotIn (d c : D) : Option D := match oInL d c with
  | some (.bl b) => some (.bl (!b))
  | _ => none
theorem ok_notInL {K : PySem.W.Frag} : OpOk K (rNotInD K) oNotIn := by
  intro S env σ H Q d d' v u x rel r1 r2 e q
  cases d' with
  | lst ds =>
    unfold oNotIn oInL at e
    dsimp only at e
    split at e
    · rename_i b hb
      cases e
      split at hb
      · rename_i p l hp hl
        split at hb
        · rename_i hs
          cases hb
          refine ⟨p, l, dp_one rel.sub r1 hp, dp_one rel.sub r2 ?_, hs.1, hs.2, q S H rel.step _ rfl⟩
          unfold toPy
          rw [hl]
        · cases hb
      · cases hb
    · cases e
  | _ => cases e
theorem op_mul2 : OpR X (binaryOp .Mult) (fun x y H Q => rI CMulW (fun i j => .int (i * j)) x y H Q ∨ rI CMul (fun i j => .int (i * j)) x y H Q) := OpR.or op_mulW op_mul
/-! ## short forms of the rules, for the printed derivations -/
variable {a b : Expr} {fa fb : EF AV}
theorem b_add (ha : DV X W a fa) (hb : DV X W b fb) : DE X W (.BinOp a .Add b pos) (e2 fa fb fun x y => eOn2 x y oAdd) := de_bin op_add3 ok_add ha hb
theorem b_sub (ha : DV X W a fa) (hb : DV X W b fb) : DE X W (.BinOp a .Sub b pos) (e2 fa fb fun x y => eOn2 x y oSub) := de_bin op_sub ok_sub ha hb
theorem b_mul (ha : DV X W a fa) (hb : DV X W b fb) : DE X W (.BinOp a .Mult b pos) (e2 fa fb fun x y => eOn2 x y oMul) := de_bin op_mul2 ok_mul ha hb
theorem b_fdiv (ha : DV X W a fa) (hb : DV X W b fb) : DE X W (.BinOp a .FloorDiv b pos) (e2 fa fb fun x y => eOn2 x y oFdiv) := de_bin op_fdivW ok_fdiv ha hb
theorem b_mod (ha : DV X W a fa) (hb : DV X W b fb) : DE X W (.BinOp a .Mod b pos) (e2 fa fb fun x y => eOn2 x y oMod) := de_bin op_mod ok_mod ha hb
theorem b_pow (ha : DV X W a fa) (hb : DV X W b fb) : DE X W (.BinOp a .Pow b pos) (e2 fa fb fun x y => eOn2 x y oPow) := de_bin op_pow ok_pow ha hb
/-- a comparison: its meaning, as a value and as a test -/
structure CmpR (X : Cx) (o : CmpOp) (op : D → D → Option D) : Prop where
  ex : ∃ r, OpR X (compareOp o) r ∧ OpOk X.K r op
theorem c_lt : CmpR X .Lt oLt := ⟨_, op_lt, ok_lt⟩
theorem c_le : CmpR X .LtE oLe := ⟨_, op_le, ok_le⟩
theorem c_gt : CmpR X .Gt oGt := ⟨_, op_gt, ok_gt⟩
theorem c_ge : CmpR X .GtE oGe := ⟨_, op_ge, ok_ge⟩
theorem c_is : CmpR X .Is oIs := ⟨_, op_is2, ok_is⟩
theorem c_isnot : CmpR X .IsNot oIsNot := ⟨_, op_isnot2, ok_isnot⟩
theorem c_eq (r : RoomL X.A) : CmpR X .Eq oEq := ⟨_, op_eqD r.units, ok_eq⟩
theorem c_ne (r : RoomL X.A) : CmpR X .NotEq oNe := ⟨_, op_neD r.units, ok_ne⟩
theorem c_in (r : RoomL X.A) : CmpR X .In oIn := ⟨_, op_in2 (by have := r.un; omega), ok_in2⟩
theorem c_notin (r : RoomL X.A) : CmpR X .NotIn oNotIn := ⟨_, op_notInD (by have := r.un; omega), ok_notInL⟩
theorem e_cmp {o : CmpOp} {op : D → D → Option D} (h : CmpR X o op) (ha : DV X W a fa) (hb : DV X W b fb) (hm : behindInMarks o b = false := by rfl) : DE X W (.Compare a [o] [b] pos) (e2 fa fb fun x y => eOn2 x y op) := by
  obtain ⟨r, h1, h2⟩ := h
  exact de_cmpO h1 h2 hm ha hb
theorem t_cmp {o : CmpOp} {op : D → D → Option D} (h : CmpR X o op) (ha : DV X W a fa) (hb : DV X W b fb) (hm : behindInMarks o b = false := by rfl) : DT X W (.Compare a [o] [b] pos) (eT (e2 fa fb fun x y => eOn2 x y op)) := by
  obtain ⟨r, h1, h2⟩ := h
  exact dt_cmpO h1 h2 hm ha hb
end
end Mir
namespace Mir
open PySem PySem.Spec PyProof.Rows L2
section
variable {X : Cx} {W : WX} {pos : Pos} {a b c : Expr} {fa fb fc : EF AV}
theorem e_chain {o o' : CmpOp} {op op' : D → D → Option D} (h : CmpR X o op) (h' : CmpR X o' op') (ha : DV X W a fa) (hb : DV X W b fb) (hc : DV X W c fc)
    (hm : lastMarks [o, o'] [b, c] = false := by with_unfolding_all rfl) : DE X W (.Compare a [o, o'] [b, c] pos) (eChain fa fb fc op op') := by
  obtain ⟨r, h1, h2⟩ := h
  obtain ⟨r', h1', h2'⟩ := h'
  exact de_chain h1 h2 h1' h2' ha hb hc hm
theorem t_chain {o o' : CmpOp} {op op' : D → D → Option D} (h : CmpR X o op) (h' : CmpR X o' op') (ha : DV X W a fa) (hb : DV X W b fb) (hc : DV X W c fc)
    (hm : lastMarks [o, o'] [b, c] = false := by with_unfolding_all rfl) : DT X W (.Compare a [o, o'] [b, c] pos) (eT (eChain fa fb fc op op')) := by
  obtain ⟨r, h1, h2⟩ := h
  obtain ⟨r', h1', h2'⟩ := h'
  exact dt_chain h1 h2 h1' h2' ha hb hc hm
end
end Mir

namespace Mir
open PySem PySem.Spec PyProof.Rows L2
theorem tk0 {X : Cx} : Takes X W0 := fun _ _ x => by
  obtain ⟨_, _, _, _, _, _, _, _, _, _, _, _, _, _, _, _, z⟩ := x
  exact z.elim
theorem cx_none {P : Program} {w : World} {H : Hp} {s : Shared} {e : Value} {s' : Shared} (h : L2.CX P w [] H s (fun _ _ _ => False) e s') : False := by
  obtain ⟨_, _, _, _, _, _, _, _, _, _, _, _, z⟩ := h
  exact z
theorem reps_ints {K : PySem.W.Frag} {S : Hp} : ∀ ns : List Int, Reps K S (ns.map D.int) (ns.map V.int)
  | [] => rfl
  | n :: ns => ⟨.int n, _, rfl, rfl, reps_ints ns⟩
/-- the law answers True -/
theorem law_done {K : PySem.W.Frag} {mf : MF} {ns : List Int} {H : Hp} {a : Addr} (h : ∃ as', mf [.v (.frl (ns.map .int))] = some (.ok (.d (.bl true)), as')) (hl : ns.length ≤ 63) (hS : SqL K H a (ns.map V.int)) :
    spM K 1 mf [.ref a] H (fun v _ => v = .bl true) (fun _ _ _ => False) := by
  obtain ⟨as', h⟩ := h
  have hz : 63 ≤ sizeLine := by decide
  refine ⟨H, _, _, as', rfl, fun m hm => ?_, ⟨rfl, Same.refl H, fun i d e => ?_, fun i m e => ?_, fun i j m m' a e1 e2 e3 e4 => ?_⟩, h, fun S' H' st v rv => rv⟩
  · simp at hm
  · cases i with
    | zero =>
      simp at e
      subst e
      exact ⟨.ref a, rfl, a, _, rfl, hS, by simp; omega, reps_ints ns⟩
    | succ i => simp at e
  · obtain ⟨s, e1, e2⟩ := e
    cases i with
    | zero => simp at e1; subst e1; cases e2
    | succ i => simp at e1
  · obtain ⟨s, e1, e2⟩ := e1
    cases i with
    | zero => simp at e1; subst e1; cases e2
    | succ i => simp at e1
end Mir

namespace Mir
open PySem PySem.Spec PyProof.Rows L2
/-! ## the mirrors, run by rewriting -/
section
variable {α β γ : Type}
def kB (r : Option (Res α × ME)) (g : α → EF β) : Option (Res β × ME) := match r with
  | some (.ok a, e) => g a e
  | some (.ex x, e) => some (.ex x, e)
  | none => none
@[simp] theorem eRet_k (a : α) (e : ME) : eRet a e = some (.ok a, e) := rfl
@[simp] theorem eBind_k (f : EF α) (g : α → EF β) (e : ME) : eBind f g e = kB (f e) g := rfl
@[simp] theorem kB_ok (a : α) (e : ME) (g : α → EF β) : kB (some (.ok a, e)) g = g a e := rfl
@[simp] theorem kB_ex (x : Ex) (e : ME) (g : α → EF β) : kB (some (.ex x, e)) g = some (.ex x, e) := rfl
@[simp] theorem kB_none (g : α → EF β) : kB none g = none := rfl
@[simp] theorem eD_k (f : EF D) (e : ME) : eD f e = kB (f e) (fun d => eRet (.d d)) := rfl
@[simp] theorem e2_k (f : EF α) (h : EF β) (g : α → β → EF γ) (e : ME) : e2 f h g e = kB (f e) (fun x => eBind h fun y => g x y) := rfl
def kV : Option (Option Sl) → Option D
  | some (some (.o m)) => some m.d
  | some (some (.b m)) => some m.d
  | _ => none
@[simp] theorem viewA_d (d : D) (e : ME) : viewA (.d d) e = some d := rfl
@[simp] theorem viewA_own (i : Nat) (e : ME) : viewA (.own i) e = kV e[i]? := by
  unfold viewA kV
  dsimp only
  cases e[i]? with
  | none => rfl
  | some s => cases s with
    | none => rfl
    | some s => cases s <;> rfl
@[simp] theorem kV_o (m : MO) : kV (some (some (.o m))) = some m.d := rfl
@[simp] theorem kV_b (m : MO) : kV (some (some (.b m))) = some m.d := rfl
@[simp] theorem MO_lst (xs : List D) : MO.d (.lst xs) = .lst xs := rfl
@[simp] theorem MO_dK (xs : List (Key × D)) : MO.d (.dK xs) = .dK xs := rfl
def kR (r : Option α) (e : ME) : Option (Res α × ME) := match r with
  | some a => some (.ok a, e)
  | none => none
@[simp] theorem kR_some (a : α) (e : ME) : kR (some a) e = some (.ok a, e) := rfl
@[simp] theorem kR_none (e : ME) : kR (none : Option α) e = none := rfl
def kO (v : Option D) (op : D → Option α) (e : ME) : Option (Res α × ME) := match v with
  | some d => kR (op d) e
  | none => none
@[simp] theorem eOn_k (a : AV) (op : D → Option α) (e : ME) : eOn a op e = kO (viewA a e) op e := by
  unfold eOn kO
  cases viewA a e with
  | none => rfl
  | some d => dsimp only; cases op d <;> rfl
@[simp] theorem kO_some (d : D) (op : D → Option α) (e : ME) : kO (some d) op e = kR (op d) e := rfl
def kO2 (v u : Option D) (op : D → D → Option α) (e : ME) : Option (Res α × ME) := match v, u with
  | some d, some d' => kR (op d d') e
  | _, _ => none
@[simp] theorem eOn2_k (a b : AV) (op : D → D → Option α) (e : ME) : eOn2 a b op e = kO2 (viewA a e) (viewA b e) op e := by
  unfold eOn2 kO2
  cases viewA a e with
  | none => rfl
  | some d => cases viewA b e with
    | none => rfl
    | some d' => dsimp only; cases op d d' <;> rfl
@[simp] theorem kO2_some (d d' : D) (op : D → D → Option α) (e : ME) : kO2 (some d) (some d') op e = kR (op d d') e := rfl
@[simp] theorem g1_k (g : AV → EF α) (a : AV) : g1 g [a] = g a := rfl
@[simp] theorem g2_k (g : AV → AV → EF α) (a b : AV) : g2 g [a, b] = g a b := rfl
@[simp] theorem asB_k (b : Bool) : asB (.bl b) = eRet b := rfl
@[simp] theorem eT_k (f : EF D) (e : ME) : eT f e = kB (f e) asB := rfl
@[simp] theorem eDF_k (f : EF D) (e : ME) : eDF f e = kB (f e) (fun d => eRet (.d d)) := rfl
@[simp] theorem eCons_k (f : EF AV) (g : EF (List AV)) (e : ME) : eCons f g e = kB (f e) (fun x => eBind g fun y => eRet (x :: y)) := rfl
def kI (r : Option (Res Bool × ME)) (f g : EF α) : Option (Res α × ME) := match r with
  | some (.ok b, e) => if b = true then f e else g e
  | some (.ex x, e) => some (.ex x, e)
  | none => none
@[simp] theorem eIf_k (t : EF Bool) (f g : EF α) (e : ME) : eIf t f g e = kI (t e) f g := by
  unfold eIf kI eBind
  cases t e with
  | none => rfl
  | some p => obtain ⟨r, e'⟩ := p; cases r with
    | ex x => rfl
    | ok b => cases b <;> rfl
@[simp] theorem kI_ok (b : Bool) (e : ME) (f g : EF α) : kI (some (.ok b, e)) f g = if b = true then f e else g e := rfl
@[simp] theorem eAnd_k (f g : EF Bool) (e : ME) : eAnd f g e = kI (f e) g (eRet false) := by
  unfold eAnd kI eBind
  cases f e with
  | none => rfl
  | some p => obtain ⟨r, e'⟩ := p; cases r with
    | ex x => rfl
    | ok b => cases b <;> rfl
@[simp] theorem eOr_k (f g : EF Bool) (e : ME) : eOr f g e = kI (f e) (eRet true) g := by
  unfold eOr kI eBind
  cases f e with
  | none => rfl
  | some p => obtain ⟨r, e'⟩ := p; cases r with
    | ex x => rfl
    | ok b => cases b <;> rfl
@[simp] theorem eNot_k (f : EF Bool) (e : ME) : eNot f e = kB (f e) (fun b => eRet (!b)) := rfl
def kA : D → EF D → EF D
  | .bl true, g => g
  | .bl false, _ => eRet (.bl false)
  | _, _ => fun _ => none
def kOr : D → EF D → EF D
  | .bl true, _ => eRet (.bl true)
  | .bl false, g => g
  | _, _ => fun _ => none
@[simp] theorem eAndV_k (f g : EF D) (e : ME) : eAndV f g e = kB (f e) (fun d => kA d g) := by
  unfold eAndV kB eBind
  cases f e with
  | none => rfl
  | some p => obtain ⟨r, e'⟩ := p; cases r with
    | ex x => rfl
    | ok b => cases b <;> first | rfl | (rename_i b; cases b <;> rfl)
@[simp] theorem eOrV_k (f g : EF D) (e : ME) : eOrV f g e = kB (f e) (fun d => kOr d g) := by
  unfold eOrV kB eBind
  cases f e with
  | none => rfl
  | some p => obtain ⟨r, e'⟩ := p; cases r with
    | ex x => rfl
    | ok b => cases b <;> first | rfl | (rename_i b; cases b <;> rfl)
@[simp] theorem kA_bl (b : Bool) (g : EF D) (e : ME) : kA (.bl b) g e = if b = true then g e else some (.ok (.bl false), e) := by cases b <;> rfl
@[simp] theorem kOr_bl (b : Bool) (g : EF D) (e : ME) : kOr (.bl b) g e = if b = true then some (.ok (.bl true), e) else g e := by cases b <;> rfl
def kNot : D → EF D
  | .bl b => eRet (.bl (!b))
  | _ => fun _ => none
@[simp] theorem eNotV_k (f : EF D) (e : ME) : eNotV f e = kB (f e) kNot := by
  unfold eNotV kB eBind
  cases f e with
  | none => rfl
  | some p => obtain ⟨r, e'⟩ := p; cases r with
    | ex x => rfl
    | ok b => cases b <;> rfl
@[simp] theorem kNot_bl (b : Bool) : kNot (.bl b) = eRet (.bl (!b)) := rfl
/-! names -/
def kN (s : Option (Option Sl)) (i : Nat) (e : ME) : Option (Res AV × ME) := match s with
  | some (some (.v d)) => some (.ok (.d d), e)
  | some (some (.o _)) => some (.ok (.own i), e)
  | some (some (.b _)) => some (.ok (.own i), e)
  | _ => none
@[simp] theorem eName_k (i : Nat) (e : ME) : eName i e = kN e[i]? i e := rfl
@[simp] theorem kN_v (d : D) (i : Nat) (e : ME) : kN (some (some (.v d))) i e = some (.ok (.d d), e) := rfl
@[simp] theorem kN_o (m : MO) (i : Nat) (e : ME) : kN (some (some (.o m))) i e = some (.ok (.own i), e) := rfl
@[simp] theorem kN_b (m : MO) (i : Nat) (e : ME) : kN (some (some (.b m))) i e = some (.ok (.own i), e) := rfl
def kF (s : Option (Option Sl)) (i : Nat) (e : ME) : Option (Res D × ME) := match s with
  | some (some (.v d)) => some (.ok d, e)
  | some (some (.o m)) => some (.ok m.d, e.set i (some (.v m.d)))
  | _ => none
@[simp] theorem eFrz_k (i : Nat) (e : ME) : eFrz i e = kF e[i]? i e := rfl
@[simp] theorem kF_v (d : D) (i : Nat) (e : ME) : kF (some (some (.v d))) i e = some (.ok d, e) := rfl
@[simp] theorem kF_o (m : MO) (i : Nat) (e : ME) : kF (some (some (.o m))) i e = some (.ok m.d, e.set i (some (.v m.d))) := rfl
def kVar (s : Option (Option Sl)) (e : ME) : Option (Res D × ME) := match s with
  | some (some (.v d)) => some (.ok d, e)
  | _ => none
@[simp] theorem eVar_k (i : Nat) (e : ME) : eVar i e = kVar e[i]? e := rfl
@[simp] theorem kVar_v (d : D) (e : ME) : kVar (some (some (.v d))) e = some (.ok d, e) := rfl
def kOut (s : Option (Option Sl)) (i : Nat) (e : ME) : Option (Res FR × ME) := match s with
  | some (some (.v d)) => some (.ok (.d d), e)
  | some (some (.o m)) => some (.ok (.o m), e.set i none)
  | _ => none
@[simp] theorem eOut_k (i : Nat) (e : ME) : eOut i e = kOut e[i]? i e := rfl
@[simp] theorem kOut_v (d : D) (i : Nat) (e : ME) : kOut (some (some (.v d))) i e = some (.ok (.d d), e) := rfl
@[simp] theorem kOut_o (m : MO) (i : Nat) (e : ME) : kOut (some (some (.o m))) i e = some (.ok (.o m), e.set i none) := rfl
/-! lists, tuples -/
@[simp] theorem ds_nil : ds [] = some [] := rfl
@[simp] theorem ds_d (d : D) (r : List AV) : Mir.ds (.d d :: r) = (Mir.ds r).map (d :: ·) := by
  rw [Mir.ds]
  cases Mir.ds r <;> rfl
def kL (o : Option (List D)) (e : ME) : Option (Res FR × ME) := match o with
  | some l => if l.length ≤ sizeLine then some (.ok (.o (.lst l)), e) else none
  | none => none
def kT (o : Option (List D)) (e : ME) : Option (Res D × ME) := match o with
  | some l => if l.length ≤ sizeLine then some (.ok (.tup l), e) else none
  | none => none
@[simp] theorem eLst_k (f : EF (List AV)) (e : ME) : eLst f e = kB (f e) (fun as e => kL (Mir.ds as) e) := by
  unfold eLst kB eBind
  cases f e with
  | none => rfl
  | some p => obtain ⟨r, e'⟩ := p; cases r with
    | ex x => rfl
    | ok as =>
      dsimp only
      unfold kL
      cases Mir.ds as with
      | none => rfl
      | some l => dsimp only; split <;> rfl
@[simp] theorem eTup_k (f : EF (List AV)) (e : ME) : eTup f e = kB (f e) (fun as e => kT (Mir.ds as) e) := by
  unfold eTup kB eBind
  cases f e with
  | none => rfl
  | some p => obtain ⟨r, e'⟩ := p; cases r with
    | ex x => rfl
    | ok as =>
      dsimp only
      unfold kT
      cases Mir.ds as with
      | none => rfl
      | some l => dsimp only; split <;> rfl
theorem small_le {n : Nat} (h : n ≤ 100000) : n ≤ sizeLine := Nat.le_trans h (by decide)
theorem kL_some (l : List D) (e : ME) (h : l.length ≤ 100000) : kL (some l) e = some (.ok (.o (.lst l)), e) := by
  show (if _ then _ else _) = _
  rw [if_pos (small_le h)]
theorem kT_some (l : List D) (e : ME) (h : l.length ≤ 100000) : kT (some l) e = some (.ok (.tup l), e) := by
  show (if _ then _ else _) = _
  rw [if_pos (small_le h)]
def kFz : FR → EF D
  | .d d => eRet d
  | .o m => eRet m.d
@[simp] theorem eFz_k (f : EF FR) (e : ME) : eFz f e = kB (f e) kFz := by
  unfold eFz kB eBind
  cases f e with
  | none => rfl
  | some p => obtain ⟨r, e'⟩ := p; cases r with
    | ex x => rfl
    | ok as => cases as <;> rfl
@[simp] theorem kFz_d (d : D) : kFz (.d d) = eRet d := rfl
@[simp] theorem kFz_o (m : MO) : kFz (.o m) = eRet m.d := rfl
/-! calls -/
@[simp] theorem ixs_nil : ixs [] = [] := rfl
@[simp] theorem ixs_d (d : D) (r : List AV) : ixs (.d d :: r) = ixs r := rfl
@[simp] theorem ixs_o (i : Nat) (r : List AV) : ixs (.own i :: r) = i :: ixs r := rfl
def kM (s : Option (Option Sl)) (o : Option (List Sl)) : Option (List Sl) := match s with
  | some (some (.o m)) => o.map (.b m :: ·)
  | some (some (.b m)) => o.map (.b m :: ·)
  | _ => none
@[simp] theorem lend_nil (e : ME) : lend e [] = some [] := rfl
@[simp] theorem lend_d (e : ME) (d : D) (r : List AV) : lend e (.d d :: r) = (lend e r).map (.v d :: ·) := by
  rw [lend]
  cases lend e r <;> rfl
@[simp] theorem lend_o (e : ME) (i : Nat) (r : List AV) : lend e (.own i :: r) = kM e[i]? (lend e r) := by
  rw [lend]
  unfold kM
  cases e[i]? with
  | none => rfl
  | some s => cases s with
    | none => rfl
    | some s => cases s with
      | v d => rfl
      | o m => dsimp [Sl.mo]; cases lend e r <;> rfl
      | b m => dsimp [Sl.mo]; cases lend e r <;> rfl
@[simp] theorem kM_o (m : MO) (o : Option (List Sl)) : kM (some (some (.o m))) o = o.map (.b m :: ·) := rfl
@[simp] theorem kM_b (m : MO) (o : Option (List Sl)) : kM (some (some (.b m))) o = o.map (.b m :: ·) := rfl
def kPut (s : Option (Option Sl)) (m : MO) (i : Nat) (e : ME) : ME := match s with
  | some (some s) => e.set i (some (s.put m))
  | _ => e
@[simp] theorem putB_nil (e : ME) (q : List Sl) : putB e [] q = e := by cases q <;> rfl
@[simp] theorem putB_d (e : ME) (d : D) (r : List AV) (s : Sl) (q : List Sl) : putB e (.d d :: r) (s :: q) = putB e r q := rfl
@[simp] theorem putB_o (e : ME) (i : Nat) (r : List AV) (m : MO) (q : List Sl) : putB e (.own i :: r) (.b m :: q) = kPut e[i]? m i (putB e r q) := by
  rw [putB]
  unfold kPut
  cases e[i]? with
  | none => rfl
  | some s => cases s <;> rfl
@[simp] theorem kPut_s (s : Sl) (m : MO) (i : Nat) (e : ME) : kPut (some (some s)) m i e = e.set i (some (s.put m)) := rfl
@[simp] theorem put_v (m : MO) (d : D) : Sl.put m (.v d) = .v d := rfl
@[simp] theorem put_o (m m' : MO) : Sl.put m (.o m') = .o m := rfl
@[simp] theorem put_b (m m' : MO) : Sl.put m (.b m') = .b m := rfl
def kC (o : Option (Res FR × List Sl)) (as : List AV) (e : ME) : Option (Res FR × ME) := match o with
  | some (.ok r, q) => some (.ok r, putB e as q)
  | some (.ex x, q) => some (.ex x, putB e as q)
  | none => none
def kCall (mf : MF) (as : List AV) (e : ME) : Option (Res FR × ME) := if (ixs as).Nodup then kC ((lend e as).bind mf) as e else none
@[simp] theorem eCall_k (mf : MF) (f : EF (List AV)) (e : ME) : eCall mf f e = kB (f e) (kCall mf) := by
  unfold eCall kB eBind
  cases f e with
  | none => rfl
  | some p => obtain ⟨r, e'⟩ := p; cases r with
    | ex x => rfl
    | ok as =>
      dsimp only
      unfold kCall
      split
      · unfold kC
        cases lend e' as with
        | none => rfl
        | some sl =>
          dsimp only [Option.bind]
          first | done | (rcases mf sl with _ | ⟨r | x, q⟩ <;> rfl)
      · rfl
@[simp] theorem kCall_k (mf : MF) (as : List AV) (e : ME) : kCall mf as e = if (ixs as).Nodup then kC ((lend e as).bind mf) as e else none := rfl
@[simp] theorem kC_ok (r : FR) (q : List Sl) (as : List AV) (e : ME) : kC (some (.ok r, q)) as e = some (.ok r, putB e as q) := rfl
@[simp] theorem kC_ex (x : Ex) (q : List Sl) (as : List AV) (e : ME) : kC (some (.ex x, q)) as e = some (.ex x, putB e as q) := rfl
/-! statements -/
def kS (r : Option (Out × ME)) (g : SF) : Option (Out × ME) := match r with
  | some (.nx, e) => g e
  | r => r
@[simp] theorem sSeq_k (f g : SF) (e : ME) : sSeq f g e = kS (f e) g := rfl
@[simp] theorem kS_nx (e : ME) (g : SF) : kS (some (.nx, e)) g = g e := rfl
@[simp] theorem kS_ret (r : FR) (e : ME) (g : SF) : kS (some (.ret r, e)) g = some (.ret r, e) := rfl
@[simp] theorem kS_brk (e : ME) (g : SF) : kS (some (.brk, e)) g = some (.brk, e) := rfl
@[simp] theorem kS_cnt (e : ME) (g : SF) : kS (some (.cnt, e)) g = some (.cnt, e) := rfl
@[simp] theorem kS_ex (x : Ex) (e : ME) (g : SF) : kS (some (.ex x, e)) g = some (.ex x, e) := rfl
@[simp] theorem kS_ite (c : Prop) [Decidable c] (a b : Option (Out × ME)) (g : SF) : kS (if c then a else b) g = if c then kS a g else kS b g := by split <;> rfl
@[simp] theorem sNx_k (e : ME) : sNx e = some (.nx, e) := rfl
@[simp] theorem sCnt_k (e : ME) : sCnt e = some (.cnt, e) := rfl
@[simp] theorem sBrk_k (e : ME) : sBrk e = some (.brk, e) := rfl
@[simp] theorem sRetN_k (e : ME) : sRetN e = some (.ret (.d .non), e) := rfl
def kSB (r : Option (Res α × ME)) (g : α → SF) : Option (Out × ME) := match r with
  | some (.ok a, e) => g a e
  | some (.ex x, e) => some (.ex x, e)
  | none => none
@[simp] theorem sBind_k (f : EF α) (g : α → SF) (e : ME) : sBind f g e = kSB (f e) g := rfl
@[simp] theorem kSB_ok (a : α) (e : ME) (g : α → SF) : kSB (some (.ok a, e)) g = g a e := rfl
@[simp] theorem kSB_ex (x : Ex) (e : ME) (g : α → SF) : kSB (some (.ex x, e)) g = some (.ex x, e) := rfl
def kIsB : Option (Option Sl) → Bool
  | some (some (.b _)) => true
  | _ => false
@[simp] theorem isB_k (e : ME) (i : Nat) : isB e i = kIsB e[i]? := by
  unfold isB kIsB
  cases e[i]? with
  | none => rfl
  | some s => cases s with
    | none => rfl
    | some s => cases s <;> rfl
@[simp] theorem kIsB_v (d : D) : kIsB (some (some (.v d))) = false := rfl
@[simp] theorem kIsB_o (d : MO) : kIsB (some (some (.o d))) = false := rfl
@[simp] theorem kIsB_n : kIsB (some none) = false := rfl
@[simp] theorem putV_k (i : Nat) (d : D) (e : ME) : putV i d e = if isB e i = true then none else some (.nx, e.set i (some (.v d))) := rfl
@[simp] theorem sSet_k (i : Nat) (f : EF D) (e : ME) : sSet i f e = kSB (f e) (putV i) := rfl
@[simp] theorem putF_d (i : Nat) (d : D) (e : ME) : putF i (.d d) e = putV i d e := rfl
@[simp] theorem putF_o (i : Nat) (m : MO) (e : ME) : putF i (.o m) e = if isB e i = true then none else some (.nx, e.set i (some (.o m))) := rfl
@[simp] theorem sSetF_k (i : Nat) (f : EF FR) (e : ME) : sSetF i f e = kSB (f e) (putF i) := rfl
@[simp] theorem sRet_k (f : EF FR) (e : ME) : sRet f e = kSB (f e) (fun r e => some (.ret r, e)) := rfl
@[simp] theorem sDo_k (f : EF D) (e : ME) : sDo f e = kSB (f e) (fun _ => sNx) := rfl
def kSI (r : Option (Res Bool × ME)) (f g : SF) : Option (Out × ME) := match r with
  | some (.ok b, e) => if b = true then f e else g e
  | some (.ex x, e) => some (.ex x, e)
  | none => none
@[simp] theorem sIf_k (t : EF Bool) (f g : SF) (e : ME) : sIf t f g e = kSI (t e) f g := by
  unfold sIf kSI sBind
  cases t e with
  | none => rfl
  | some p => obtain ⟨r, e'⟩ := p; cases r with
    | ex x => rfl
    | ok b => cases b <;> rfl
@[simp] theorem kSI_ok (b : Bool) (e : ME) (f g : SF) : kSI (some (.ok b, e)) f g = if b = true then f e else g e := rfl
@[simp] theorem kSI_ex (x : Ex) (e : ME) (f g : SF) : kSI (some (.ex x, e)) f g = some (.ex x, e) := rfl
def kLst : Option (Option Sl) → Option (Sl × List D)
  | some (some (.o (.lst ds))) => some (.o (.lst ds), ds)
  | some (some (.b (.lst ds))) => some (.b (.lst ds), ds)
  | _ => none
@[simp] theorem lstAt_k (e : ME) (i : Nat) : lstAt e i = kLst e[i]? := by
  unfold lstAt kLst
  cases e[i]? with
  | none => rfl
  | some s => cases s with
    | none => rfl
    | some s => cases s with
      | v d => rfl
      | o m => cases m <;> rfl
      | b m => cases m <;> rfl
@[simp] theorem kLst_o (ds : List D) : kLst (some (some (.o (.lst ds)))) = some (.o (.lst ds), ds) := rfl
@[simp] theorem kLst_b (ds : List D) : kLst (some (some (.b (.lst ds)))) = some (.b (.lst ds), ds) := rfl
def kPI2 (i : Nat) (d : D) (k : D) (e : ME) : Option (Out × ME) := match k with
  | .int k => match kLst e[i]? with
    | some (s, ds) => match ixN ds.length k with
      | some j => some (.nx, e.set i (some (s.put (.lst (ds.set j d)))))
      | none => none
    | none => none
  | _ => none
def kPI (i : Nat) (fk : EF D) (d : D) (e : ME) : Option (Out × ME) := match kLst e[i]? with
  | some _ => kSB (fk e) (kPI2 i d)
  | none => none
@[simp] theorem sPutIx_k (i : Nat) (fe fk : EF D) (e : ME) : sPutIx i fe fk e = kSB (fe e) (kPI i fk) := by
  unfold sPutIx sBind kSB
  cases fe e with
  | none => rfl
  | some p => obtain ⟨r, e'⟩ := p; cases r with
    | ex x => rfl
    | ok d =>
      dsimp only
      unfold kPI
      rw [lstAt_k]
      cases kLst e'[i]? with
      | none => rfl
      | some q =>
        dsimp only
        unfold kSB
        cases fk e' with
        | none => rfl
        | some p => obtain ⟨r, e2⟩ := p; cases r with
          | ex x => rfl
          | ok k =>
            dsimp only
            unfold kPI2
            cases k <;> first | rfl | (dsimp only; rw [lstAt_k]; first | done | (cases kLst e2[i]? <;> rfl))
def kM2 (i : Nat) (op : List D → List AV → ME → Option (D × List D)) (as : List AV) (e : ME) : Option (Res D × ME) := match kLst e[i]? with
  | some (s, ds) => match op ds as e with
    | some (x, ds') => some (.ok x, e.set i (some (s.put (.lst ds'))))
    | none => none
  | none => none
@[simp] theorem eMut_k (i : Nat) (f : EF (List AV)) (op : List D → List AV → ME → Option (D × List D)) (e : ME) : eMut i f op e = match kLst e[i]? with
    | some _ => kB (f e) (kM2 i op)
    | none => none := by
  unfold eMut
  rw [lstAt_k]
  cases kLst e[i]? with
  | none => rfl
  | some q =>
    dsimp only
    rw [eBind_k]
    congr 1
    funext as e1
    unfold kM2
    rw [lstAt_k]
    first | done | (cases kLst e1[i]? <;> rfl)
/-! loops -/
@[simp] theorem sFor_k (fi : EF (List D)) (g : TF) (b : SF) (e : ME) : sFor fi g b e = kSB (fi e) (sLoop g b) := rfl
@[simp] theorem sLoop_nil (g : TF) (b : SF) (e : ME) : sLoop g b [] e = some (.nx, e) := rfl
/-- a loop that goes on to its end -/
theorem sLoop_all {g : TF} {b : SF} (P : ME → Prop) : ∀ (ds : List D), (∀ d ∈ ds, ∀ e, P e → ∃ e1 o e2, g d e = some e1 ∧ b e1 = some (o, e2) ∧ (o = .nx ∨ o = .cnt) ∧ P e2) → ∀ e, P e → ∃ e', sLoop g b ds e = some (.nx, e') ∧ P e'
  | [], _, e, h => ⟨e, rfl, h⟩
  | d :: ds, hb, e, h => by
    obtain ⟨e1, o, e2, h1, h2, ho, h3⟩ := hb d List.mem_cons_self e h
    obtain ⟨e', q, p⟩ := sLoop_all P ds (fun d hd => hb d (List.mem_cons_of_mem _ hd)) e2 h3
    refine ⟨e', ?_, p⟩
    unfold sLoop
    rw [h1]
    dsimp only
    rw [h2]
    rcases ho with rfl | rfl <;> exact q
@[simp] theorem gSl_k (i : Nat) (d : D) (e : ME) : gSl i d e = if isB e i = true then none else some (e.set i (some (.v d))) := rfl
@[simp] theorem eOf_k (f : EF D) (e : ME) : eOf f e = kB (f e) oIter := rfl
@[simp] theorem oIter_tup (ds : List D) : oIter (.tup ds) = eRet ds := rfl
@[simp] theorem oIter_lst (ds : List D) : oIter (.lst ds) = eRet ds := rfl
@[simp] theorem oIter_frl (ds : List D) : oIter (.frl ds) = eRet ds := rfl
@[simp] theorem oIter_str (x : Str) : oIter (.str x) = eRet (signs x) := rfl
def kSl (o : Option (List D × ME)) : Option (Res FR × ME) := match o with
  | some (acc, e) => some (.ok (.o (.lst acc)), e)
  | none => none
@[simp] theorem eLc_k (vs : List Nat) (fi : EF (List D)) (g : TF) (t : EF Bool) (el : EF D) (e : ME) : eLc vs fi g t el e = kB (fi e) (fun ds e => if offAt vs e = true ∧ ds.length ≤ sizeLine then kSl (cLoop vs g t el ds [] e) else none) := by
  unfold eLc kB eBind
  cases fi e with
  | none => rfl
  | some p => obtain ⟨r, e'⟩ := p; cases r with
    | ex x => rfl
    | ok ds =>
      dsimp only
      split
      · unfold kSl
        cases cLoop vs g t el ds [] e' with
        | none => rfl
        | some q => rfl
      · rfl
@[simp] theorem kSl_some (acc : List D) (e : ME) : kSl (some (acc, e)) = some (.ok (.o (.lst acc)), e) := rfl
/-- a comprehension without a test whose element leaves P standing -/
theorem cLoop_all {vs : List Nat} {g : TF} {el : EF D} (P : ME → Prop) (Q : D → D → Prop) : ∀ (ds acc : List D), (∀ d ∈ ds, ∀ e, P e → ∃ e1 x e2, g d e = some e1 ∧ el e1 = some (.ok x, e2) ∧ P (wipeE e2 vs) ∧ Q d x) → ∀ e, P e →
    ∃ xs e', cLoop vs g (eRet true) el ds acc e = some (acc ++ xs, e') ∧ P e' ∧ xs.length = ds.length ∧ ∀ x ∈ xs, ∃ d ∈ ds, Q d x
  | [], acc, _, e, h => ⟨[], e, by simp [cLoop], h, rfl, fun x hx => by cases hx⟩
  | d :: ds, acc, hb, e, h => by
    obtain ⟨e1, x, e2, h1, h2, h3, hq⟩ := hb d List.mem_cons_self e h
    obtain ⟨xs, e', q, p, l, hx⟩ := cLoop_all P Q ds (acc ++ [x]) (fun d hd => hb d (List.mem_cons_of_mem _ hd)) _ h3
    refine ⟨x :: xs, e', ?_, p, by simp [l], fun y hy => ?_⟩
    · unfold cLoop
      rw [h1]
      dsimp only [eRet]
      rw [h2]
      dsimp only
      rw [q]
      simp
    · rcases List.mem_cons.mp hy with rfl | hy
      · exact ⟨d, List.mem_cons_self, hq⟩
      · obtain ⟨d', h1, h2⟩ := hx y hy
        exact ⟨d', List.mem_cons_of_mem _ h1, h2⟩
/-! slices, chains, texts -/
def kP : D → EF (Option Int)
  | .int i => eRet (some i)
  | _ => fun _ => none
@[simp] theorem ePart_none (e : ME) : ePart none e = some (.ok none, e) := rfl
@[simp] theorem ePart_some (f : EF D) (e : ME) : ePart (some f) e = kB (f e) kP := by
  show eBind f _ e = _
  rw [eBind_k]
  first | rfl | (congr 1; funext d; cases d <;> rfl)
@[simp] theorem kP_int (i : Int) : kP (.int i) = eRet (some i) := rfl
@[simp] theorem eSl_k (fa : EF AV) (fl fh : EF (Option Int)) (e : ME) : eSl fa fl fh e = kB (fa e) (fun a => eBind fl fun l => eBind fh fun h => eOn a (oSl l h)) := rfl
@[simp] theorem oSl_lst (l h : Option Int) (ds : List D) : oSl l h (.lst ds) = some (.lst (cutD ds l h)) := rfl
@[simp] theorem oSl_frl (l h : Option Int) (ds : List D) : oSl l h (.frl ds) = some (.lst (cutD ds l h)) := rfl
@[simp] theorem oSl_tup (l h : Option Int) (ds : List D) : oSl l h (.tup ds) = some (.tup (cutD ds l h)) := rfl
@[simp] theorem oSl_str (l h : Option Int) (z : Str) : oSl l h (.str z) = some (.str (cutS z l h)) := rfl
def kCh (y : AV) (fc : EF AV) (op' : D → D → Option D) : D → EF D
  | .bl true => eBind fc fun z => eOn2 y z op'
  | .bl false => eRet (.bl false)
  | _ => fun _ => none
@[simp] theorem eChain_k (fa fb fc : EF AV) (op op' : D → D → Option D) (e : ME) : eChain fa fb fc op op' e = kB (fa e) (fun x => eBind fb fun y => eBind (eOn2 x y op) (kCh y fc op')) := rfl
@[simp] theorem kCh_bl (y : AV) (fc : EF AV) (op' : D → D → Option D) (b : Bool) (e : ME) : kCh y fc op' (.bl b) e = if b = true then kB (fc e) (fun z => eOn2 y z op') else some (.ok (.bl false), e) := by cases b <;> rfl
def kJ (fa : EF AV) : D → EF D
  | .str z => eBind fa fun a => eOn2 (.d (.str z)) a oJoin
  | _ => fun _ => none
@[simp] theorem eJoin_k (fo : EF D) (fa : EF AV) (e : ME) : eJoin fo fa e = kB (fo e) (kJ fa) := by
  unfold eJoin
  rw [eBind_k]
  first | rfl | (congr 1; funext o e1; unfold kJ; cases o <;> rfl)
@[simp] theorem kJ_str (fa : EF AV) (z : Str) (e : ME) : kJ fa (.str z) e = kB (fa e) (fun a => eOn2 (.d (.str z)) a oJoin) := rfl
@[simp] theorem eBindNeg (f : EF D) (i : Int) : oNeg (.int i) = eRet (.int (-i)) := rfl
/-! operators at ints, truths, texts -/
@[simp] theorem oLt_i (i j : Int) : oLt (.int i) (.int j) = some (.bl (decide (i < j))) := rfl
@[simp] theorem oLe_i (i j : Int) : oLe (.int i) (.int j) = some (.bl (decide (i ≤ j))) := rfl
@[simp] theorem oGt_i (i j : Int) : oGt (.int i) (.int j) = some (.bl (decide (j < i))) := rfl
@[simp] theorem oGe_i (i j : Int) : oGe (.int i) (.int j) = some (.bl (decide (j ≤ i))) := rfl
@[simp] theorem oSub_i (i j : Int) : oSub (.int i) (.int j) = some (.int (i - j)) := rfl
@[simp] theorem oAdd_i (i j : Int) : oAdd (.int i) (.int j) = some (.int (i + j)) := rfl
theorem oAdd_s (x y : Str) : oAdd (.str x) (.str y) = if x.length + y.length ≤ sizeLine then some (.str (x ++ y)) else none := rfl
theorem oAdd_l (x y : List D) : oAdd (.lst x) (.lst y) = if x.length + y.length ≤ sizeLine then some (.lst (x ++ y)) else none := rfl
theorem oMod_i (i j : Int) (h : 0 < j) : oMod (.int i) (.int j) = some (.int (i % j)) := if_pos h
theorem oFdiv_i (i j : Int) (h : 0 < j) (h' : j.natAbs.log2 < 9000) : oFdiv (.int i) (.int j) = some (.int (i / j)) := if_pos ⟨h, h'⟩
theorem oMul_r (i j : Int) (h : -(2 ^ 64) < j) (h' : j < 2 ^ 64) : oMul (.int i) (.int j) = some (.int (i * j)) := by
  show (if _ then _ else _) = _
  split
  · rfl
  · rw [if_pos (.inr ⟨h, h'⟩)]
theorem oMul_l (i j : Int) (h : -(2 ^ 64) < i) (h' : i < 2 ^ 64) : oMul (.int i) (.int j) = some (.int (i * j)) := by
  show (if _ then _ else _) = _
  split
  · rfl
  · rw [if_pos (.inl ⟨h, h'⟩)]
@[simp] theorem oInt_i (i : Int) : oInt (.int i) = some (.int i) := rfl
@[simp] theorem oInt_b (b : Bool) : oInt (.bl b) = some (.int (if b then 1 else 0)) := rfl
@[simp] theorem oMin_i (i j : Int) : oMin (.int i) (.int j) = some (.int (if j < i then j else i)) := rfl
@[simp] theorem oMax_i (i j : Int) : oMax (.int i) (.int j) = some (.int (if j > i then j else i)) := rfl
@[simp] theorem oAbs_i (i : Int) : oAbs (.int i) = some (.int (if i < 0 then -i else i)) := rfl
@[simp] theorem oLen_s (z : Str) : oLen (.str z) = some (.int z.length) := rfl
@[simp] theorem oLen_l (z : List D) : oLen (.lst z) = some (.int z.length) := rfl
@[simp] theorem oLen_f (z : List D) : oLen (.frl z) = some (.int z.length) := rfl
@[simp] theorem oLen_t (z : List D) : oLen (.tup z) = some (.int z.length) := rfl
@[simp] theorem oIx_l (z : List D) (i : Int) : oIx (.lst z) (.int i) = atI z i := rfl
@[simp] theorem oIx_f (z : List D) (i : Int) : oIx (.frl z) (.int i) = atI z i := rfl
@[simp] theorem oIx_t (z : List D) (i : Int) : oIx (.tup z) (.int i) = atI z i := rfl
@[simp] theorem oIsNot_b (a b : Bool) : oIsNot (.bl a) (.bl b) = some (.bl (!decide (a = b))) := rfl
@[simp] theorem oIs_b (a b : Bool) : oIs (.bl a) (.bl b) = some (.bl (decide (a = b))) := rfl
@[simp] theorem oIs_n (d : D) : oIs d .non = some (.bl (isNone d)) := by cases d <;> rfl
@[simp] theorem oIsNot_n (d : D) : oIsNot d .non = some (.bl (!isNone d)) := by cases d <;> rfl
@[simp] theorem oSum_i (ns : List Int) : oSum (.lst (ns.map .int)) = some (.int ns.sum) := by
  have : dInts (ns.map D.int) = some ns := by
    induction ns with
    | nil => rfl
    | cons n ns ih => simp [dInts, ih]
  show (match dInts (ns.map D.int) with | some bs => some (D.int bs.sum) | none => none) = _
  rw [this]
@[simp] theorem mDef_k (n k : Nat) (g : SF) (as : List Sl) : mDef n k g as = if as.length = n then match g (as.map some ++ List.replicate k none) with
    | some (.ret r, e) => some (.ok r, backs as e)
    | some (.nx, e) => some (.ok (.d .non), backs as e)
    | some (.ex x, e) => some (.ex x, backs as e)
    | _ => none
  else none := rfl
end
end Mir

namespace Mir
open PySem PySem.Spec PyProof.Rows L2
theorem cLoop_map {vs : List Nat} {g : TF} {el : EF D} (P : ME → Prop) (f : D → D) : ∀ (ds acc : List D), (∀ d ∈ ds, ∀ e, P e → ∃ e1 e2, g d e = some e1 ∧ el e1 = some (.ok (f d), e2) ∧ P (wipeE e2 vs)) → ∀ e, P e →
    ∃ e', cLoop vs g (eRet true) el ds acc e = some (acc ++ ds.map f, e') ∧ P e'
  | [], acc, _, e, h => ⟨e, by simp [cLoop], h⟩
  | d :: ds, acc, hb, e, h => by
    obtain ⟨e1, e2, h1, h2, h3⟩ := hb d List.mem_cons_self e h
    obtain ⟨e', q, p⟩ := cLoop_map P f ds (acc ++ [f d]) (fun d hd => hb d (List.mem_cons_of_mem _ hd)) _ h3
    refine ⟨e', ?_, p⟩
    unfold cLoop
    rw [h1]
    dsimp only [eRet]
    rw [h2]
    dsimp only
    rw [q]
    simp

def kLoop (r : Option (Out × ME)) (f : ME → Option (Out × ME)) : Option (Out × ME) := match r with
  | some (.nx, e) => f e
  | some (.cnt, e) => f e
  | some (.brk, e) => some (.nx, e)
  | r => r
def kG {α : Type} (o : Option ME) (f : ME → Option α) : Option α := match o with
  | some e => f e
  | none => none
@[simp] theorem sLoop_cons (g : TF) (b : SF) (d : D) (ds : List D) (e : ME) : sLoop g b (d :: ds) e = kG (g d e) (fun e1 => kLoop (b e1) (sLoop g b ds)) := rfl
@[simp] theorem kG_some {α : Type} (e : ME) (f : ME → Option α) : kG (some e) f = f e := rfl
@[simp] theorem kLoop_nx (e : ME) (f : ME → Option (Out × ME)) : kLoop (some (.nx, e)) f = f e := rfl
@[simp] theorem kLoop_cnt (e : ME) (f : ME → Option (Out × ME)) : kLoop (some (.cnt, e)) f = f e := rfl
@[simp] theorem kLoop_brk (e : ME) (f : ME → Option (Out × ME)) : kLoop (some (.brk, e)) f = some (.nx, e) := rfl
@[simp] theorem kLoop_ret (r : FR) (e : ME) (f : ME → Option (Out × ME)) : kLoop (some (.ret r, e)) f = some (.ret r, e) := rfl
@[simp] theorem kLoop_ex (r : Ex) (e : ME) (f : ME → Option (Out × ME)) : kLoop (some (.ex r, e)) f = some (.ex r, e) := rfl
@[simp] theorem gTup_k (fs : List TF) (ds : List D) (e : ME) : gTupM fs (.tup ds) e = if ds.length = fs.length then gSls fs ds e else none := rfl
@[simp] theorem gSls_nil (e : ME) : gSls [] [] e = some e := rfl
@[simp] theorem gSls_cons (f : TF) (fs : List TF) (d : D) (ds : List D) (e : ME) : gSls (f :: fs) (d :: ds) e = kG (f d e) (gSls fs ds) := rfl
theorem oAdd_ok (x y : Str) (h : x.length ≤ 10000) (h' : y.length ≤ 10000) : oAdd (.str x) (.str y) = some (.str (x ++ y)) := by
  rw [oAdd_s, if_pos (small_le (by omega))]
@[simp] theorem oRep_b (b : Bool) : oRep (.bl b) = some (.str (if b = true then "True" else "False")) := by cases b <;> rfl
def kOff : Option (Option Sl) → Bool
  | some (some _) => false
  | _ => true
@[simp] theorem offAt_nil (e : ME) : offAt [] e = true := rfl
@[simp] theorem offAt_cons (i : Nat) (vs : List Nat) (e : ME) : offAt (i :: vs) e = (kOff e[i]? && offAt vs e) := by
  unfold offAt
  rw [List.all_cons]
  rfl
@[simp] theorem kOff_n : kOff (some none) = true := rfl
theorem gRng1_ok (j : Int) (h : -1000000000 ≤ j) (h' : j ≤ 1000000000) : gRng1 [.d (.int j)] = eRet (rng 0 j.toNat) := by
  show (if _ then _ else _) = _
  rw [if_pos (by omega)]
theorem gRng2_ok (i j : Int) (h : -1000000000 ≤ i) (h' : i ≤ 1000000000) (k : -1000000000 ≤ j) (k' : j ≤ 1000000000) : gRng2 [.d (.int i), .d (.int j)] = eRet (rng i (j - i).toNat) := by
  show (if _ then _ else _) = _
  rw [if_pos (by omega)]
theorem oNe_s (x y : Str) (h : PyData.strOk x = true) (h' : PyData.strOk y = true) : oNe (.str x) (.str y) = some (.bl (!(x == y))) := by
  simp [oNe, eqD, toPy, SeqAt.shaped, PyData.canLay0, PyData.depth, PyData.eqv, h, h']
theorem oEq_s (x y : Str) (h : PyData.strOk x = true) (h' : PyData.strOk y = true) : oEq (.str x) (.str y) = some (.bl (x == y)) := by
  simp [oEq, eqD, toPy, SeqAt.shaped, PyData.canLay0, PyData.depth, PyData.eqv, h, h']
@[simp] theorem oEq_i (x y : Int) : oEq (.int x) (.int y) = some (.bl (x == y)) := by
  simp [oEq, eqD, toPy, SeqAt.shaped, PyData.canLay0, PyData.depth, PyData.eqv]
@[simp] theorem oNe_i (x y : Int) : oNe (.int x) (.int y) = some (.bl (!(x == y))) := by
  simp [oNe, eqD, toPy, SeqAt.shaped, PyData.canLay0, PyData.depth, PyData.eqv]
@[simp] theorem oEq_b (x y : Bool) : oEq (.bl x) (.bl y) = some (.bl (x == y)) := by
  simp [oEq, eqD, toPy, SeqAt.shaped, PyData.canLay0, PyData.depth, PyData.eqv]
@[simp] theorem oNe_b (x y : Bool) : oNe (.bl x) (.bl y) = some (.bl (!(x == y))) := by
  simp [oNe, eqD, toPy, SeqAt.shaped, PyData.canLay0, PyData.depth, PyData.eqv]
theorem neTT : oNe (.str "True") (.str "True") = some (.bl false) := by
  rw [oNe_s _ _ (by decide +kernel) (by decide +kernel)]
  have : ((("True" : Str) == ("True" : Str)) : Bool) = true := by decide +kernel
  rw [this]
  rfl
theorem neFF : oNe (.str "False") (.str "False") = some (.bl false) := by
  rw [oNe_s _ _ (by decide +kernel) (by decide +kernel)]
  have : ((("False" : Str) == ("False" : Str)) : Bool) = true := by decide +kernel
  rw [this]
  rfl
end Mir

namespace Mir
open PySem PySem.Spec PyProof.Rows L2
/-! ## one slot more -/
section
variable {K : PySem.W.Frag} {S S' : Hp} {env env' : ME} {σ : St} {H H' : Hp} {y z : Option V}
theorem pad_at {e : ME} {i : Nat} {s : Sl} : (e ++ [none])[i]? = some (some s) ↔ e[i]? = some (some s) := by
  by_cases h : i < e.length
  · rw [List.getElem?_append_left h]
  · rw [List.getElem?_append_right (by omega)]
    constructor
    · intro q
      by_cases h0 : i - e.length = 0
      · rw [h0] at q
        cases q
      · rw [List.getElem?_eq_none (by simp; omega)] at q
        cases q
    · intro q
      rw [List.getElem?_eq_none (by omega)] at q
      cases q
theorem pad_has {e : ME} {i : Nat} {m : MO} : Has (e ++ [none]) i m ↔ Has e i m := by
  constructor
  · rintro ⟨s, h1, h2⟩
    exact ⟨s, pad_at.mp h1, h2⟩
  · rintro ⟨s, h1, h2⟩
    exact ⟨s, pad_at.mpr h1, h2⟩
theorem Rel.pad (r : Rel K S env σ H) : Rel K S (env ++ [none]) (σ ++ [y]) H := by
  have lt : ∀ {i : Nat} {s : Sl}, env[i]? = some (some s) → i < σ.length := fun e => by rw [← r.len]; exact lt_of_at e
  refine ⟨by simp [r.len], r.sub, fun i d e => ?_, fun i m e => ?_, fun i j m m' a e1 e2 e3 e4 => ?_⟩
  · have e := pad_at.mp e
    rw [List.getElem?_append_left (lt e)]
    exact r.val i d e
  · have e := pad_has.mp e
    obtain ⟨s, q, _⟩ := id e
    rw [List.getElem?_append_left (lt q)]
    exact r.obj i m e
  · have e1 := pad_has.mp e1
    have e2 := pad_has.mp e2
    obtain ⟨s, q, _⟩ := id e1
    obtain ⟨s', q', _⟩ := id e2
    rw [List.getElem?_append_left (lt q)] at e3
    rw [List.getElem?_append_left (lt q')] at e4
    exact r.dis i j m m' a e1 e2 e3 e4
theorem Step.unpad (st : Step K S (env ++ [none]) (σ ++ [y]) H S' (env' ++ [none]) (σ ++ [z]) H') (l : env.length = σ.length) : Step K S env σ H S' env' σ H' := by
  have l' : env'.length = σ.length := by
    have := st.rel.len
    simpa using this
  have lt : ∀ {i : Nat} {s : Sl}, env[i]? = some (some s) → i < σ.length := fun e => by rw [← l]; exact lt_of_at e
  have lt' : ∀ {i : Nat} {s : Sl}, env'[i]? = some (some s) → i < σ.length := fun e => by rw [← l']; exact lt_of_at e
  have hs : ∀ {e : ME} {i : Nat} {m : MO}, Has e i m → ∃ s, e[i]? = some (some s) := fun h => h.elim fun s h => ⟨s, h.1⟩
  have own : ∀ {a : Addr}, OwnO (env ++ [none]) (σ ++ [y]) a → OwnO env σ a := fun ⟨i, m, e1, e2⟩ => by
    have e1 := pad_at.mp e1
    rw [List.getElem?_append_left (lt e1)] at e2
    exact ⟨i, m, e1, e2⟩
  refine ⟨⟨l', st.rel.sub, fun i d e => ?_, fun i m e => ?_, fun i j m m' a e1 e2 e3 e4 => ?_⟩, st.le, fun b hb => ?_, fun b o e hS n => st.frame b o e hS ?_, fun i m e => ?_, fun i m e => ?_, fun a ha => ?_, rfl, st.keep⟩
  · have := st.rel.val i d (pad_at.mpr e)
    rwa [List.getElem?_append_left (lt' e)] at this
  · obtain ⟨s, q⟩ := hs e
    have := st.rel.obj i m (pad_has.mpr e)
    rwa [List.getElem?_append_left (lt' q)] at this
  · obtain ⟨s, q⟩ := hs e1
    obtain ⟨s', q'⟩ := hs e2
    exact st.rel.dis i j m m' a (pad_has.mpr e1) (pad_has.mpr e2) (by rw [List.getElem?_append_left (lt' q)]; exact e3) (by rw [List.getElem?_append_left (lt' q')]; exact e4)
  · rcases st.fresh b hb with h | h | h
    · exact .inl h
    · exact .inr (.inl h)
    · exact .inr (.inr (own h))
  · rintro ⟨i, m, e1, e2⟩
    have e1 := pad_has.mp e1
    obtain ⟨s, q⟩ := hs e1
    rw [List.getElem?_append_left (lt q)] at e2
    exact n ⟨i, m, e1, e2⟩
  · obtain ⟨⟨m', q1⟩, q2⟩ := st.bor i m (pad_at.mpr e)
    exact ⟨⟨m', pad_at.mp q1⟩, rfl⟩
  · obtain ⟨m', q⟩ := st.borr i m (pad_at.mpr e)
    exact ⟨m', pad_at.mp q⟩
  · obtain ⟨i, m, e1, e2⟩ := ha
    rcases st.own a ⟨i, m, pad_at.mpr e1, by rw [List.getElem?_append_left (lt' e1)]; exact e2⟩ with h | h
    · exact .inl (own h)
    · exact .inr h
theorem set_pad {α : Type} (e : List α) (x z : α) : (e ++ [x]).set e.length z = e ++ [z] := by
  rw [List.set_append_right _ _ (Nat.le_refl _)]
  simp
theorem RAs.pad : ∀ {as : List AV} {vs : List V}, RAs K σ S as vs → RAs K (σ ++ [y]) S as vs
  | [], _, h => h
  | .d d :: as, _, h => by
    obtain ⟨v, r, e, p, q⟩ := h
    exact ⟨v, r, e, p, RAs.pad q⟩
  | .own i :: as, _, h => by
    obtain ⟨v, r, e, p, q⟩ := h
    have p' : σ[i]? = some (some v) := p
    refine ⟨v, r, e, ?_, RAs.pad q⟩
    show (σ ++ [y])[i]? = some (some v)
    rw [List.getElem?_append_left (lt_of_at p')]
    exact p'
theorem lend_pad {x : Option Sl} : ∀ {as : List AV} {sl : List Sl}, lend env as = some sl → lend (env ++ [x]) as = some sl ∧ env.length ∉ ixs as
  | [], sl, h => ⟨h, by simp⟩
  | .d d :: as, sl, h => by
    rw [lend_d] at h ⊢
    cases hq : lend env as with
    | none => rw [hq] at h; cases h
    | some q =>
      obtain ⟨h1, h2⟩ := lend_pad (x := x) hq
      rw [hq] at h
      exact ⟨by rw [h1]; exact h, h2⟩
  | .own i :: as, sl, h => by
    rw [lend_o] at h ⊢
    cases hq : lend env as with
    | none =>
      rw [hq] at h
      unfold kM at h
      split at h <;> cases h
    | some q =>
      obtain ⟨h1, h2⟩ := lend_pad (x := x) hq
      have hi : i < env.length := by
        cases hz : env[i]? with
        | none => rw [hz] at h; cases h
        | some s => exact lt_of_at hz
      rw [hq] at h
      rw [h1, List.getElem?_append_left hi]
      refine ⟨h, ?_⟩
      rw [ixs_o]
      simp only [List.mem_cons, not_or]
      exact ⟨by omega, h2⟩
theorem putB_pad {x : Option Sl} : ∀ {as : List AV} {sl : List Sl} {q : List Sl}, lend env as = some sl → putB (env ++ [x]) as q = putB env as q ++ [x]
  | [], sl, q, h => by simp
  | .d d :: as, sl, [], h => rfl
  | .own i :: as, sl, [], h => rfl
  | .d d :: as, sl, s :: q, h => by
    rw [lend_d] at h
    cases hq : lend env as with
    | none => rw [hq] at h; cases h
    | some q' =>
      rw [putB_d, putB_d]
      exact putB_pad hq
  | .own i :: as, sl, s :: q, h => by
    rw [lend_o] at h
    cases hq : lend env as with
    | none =>
      rw [hq] at h
      unfold kM at h
      split at h <;> cases h
    | some q' =>
      have hi : i < env.length := by
        cases hz : env[i]? with
        | none => rw [hz] at h; cases h
        | some s => exact lt_of_at hz
      have ih := putB_pad (x := x) (q := q) hq
      cases s with
      | b m =>
        rw [putB_o, putB_o, ih, List.getElem?_append_left hi]
        unfold kPut
        cases hz : env[i]? with
        | none => rfl
        | some s => cases s with
          | none => rfl
          | some s =>
            dsimp only
            rw [List.set_append_left _ _ (by rw [putB_len]; exact hi)]
      | v d => exact ih
      | o m => exact ih
end
theorem ras_app {K : PySem.W.Frag} {S : Hp} {σ : St} : ∀ {as bs : List AV} {vs ws : List V}, RAs K σ S as vs → RAs K σ S bs ws → RAs K σ S (as ++ bs) (vs ++ ws)
  | [], _, _, _, h, h' => by
    cases h
    exact h'
  | a :: as, _, _, _, h, h' => by
    obtain ⟨v, r, rfl, p, q⟩ := h
    exact ⟨v, _, rfl, p, ras_app q h'⟩
theorem ras_d {K : PySem.W.Frag} {S : Hp} {σ : St} : ∀ {ds : List D} {vs : List V}, Reps K S ds vs → RAs K σ S (ds.map .d) vs
  | [], _, h => h
  | d :: ds, _, h => by
    obtain ⟨v, r, rfl, p, q⟩ := h
    exact ⟨v, r, rfl, p, ras_d q⟩
/-! ## C(e, ..) -/
/-- the first parameter of the __init__ is the new object; ex: defaults behind the written arguments -/
def eMake (C : Str) (mf : MF) (ex : List D) (fas : EF (List AV)) : EF FR := eBind fas fun as env => if (ixs (as ++ ex.map .d)).Nodup then match lend env (as ++ ex.map .d) with
  | some sl => match mf (.b (.ins C []) :: sl) with
    | some (.ok (.d .non), .b m :: q) => some (.ok (.o m), putB env (as ++ ex.map .d) q)
    | some (.ex x, .b m :: q) => some (.ex x, putB env (as ++ ex.map .d) q)
    | _ => none
  | none => none
  else none
section
variable {K : PySem.W.Frag} {S : Hp} {env : ME} {σ : St} {H : Hp}
theorem make_sp {n : Nat} {mf : MF} {C : Str} {Ca : Addr} {as : List AV} {vs : List V} {sl q : List Sl} {r : Res FR} {m : MO} {Q : VK} {E : XK} (rel : Rel K S env σ H) (ra : RAs K σ S as vs) (cn : ClsN K C Ca)
    (hn : (ixs as).Nodup) (hl : lend env as = some sl) (hlen : as.length + 1 = n) (hm : mf (.b (.ins C []) :: sl) = some (r, .b m :: q))
    (h : (r = .ok (.d .non) ∧ ∀ S' H', Step K S env σ H S' (putB env as q) σ H' → PostF K Q E (.ok (.o m)) S' H') ∨ ∃ x, r = .ex x ∧ ∀ S' H', Step K S env σ H S' (putB env as q) σ H' → ∀ cls dd, RepX K S' x cls dd H' → E cls dd H') :
    ∀ x dx, H x = none → H dx = none → dx ≠ x → spM K n mf (.ref x :: vs) (upd (upd H dx (.own x)) x (.ins Ca dx [])) (fun v H2 => v = .non ∧ Q (.ref x) H2) E := by
  intro x dx hx hdx hne
  have st1 : Step K S env σ H S env σ (upd H dx (.own x)) := rel.beside hdx
  have relp : Rel K S (env ++ [none]) (σ ++ [none]) (upd H dx (.own x)) := st1.rel.pad
  have hx' : (upd H dx (.own x)) x = none := by rw [upd_ne (Ne.symm hne)]; exact hx
  have nb : NotB (env ++ [none]) env.length := fun m' e => by
    rw [List.getElem?_append_right (Nat.le_refl _), Nat.sub_self] at e
    cases e
  have sO := relp.setO (i := env.length) (m := .ins C []) (p := x) (o := .ins Ca dx []) nb hx' ⟨Ca, dx, [], cn, rfl, rfl⟩
  rw [set_pad, show env.length = σ.length from rel.len, set_pad] at sO
  obtain ⟨hl2, hni⟩ := lend_pad (x := some (.o (.ins C []))) hl
  have hat : (env ++ [some (.o (.ins C []))])[env.length]? = some (some (.o (.ins C []))) := by
    rw [List.getElem?_append_right (Nat.le_refl _), Nat.sub_self]
    rfl
  refine call_sp (as := .own env.length :: as) (vs := .ref x :: vs) (sl := .b (.ins C []) :: sl) (sl' := .b m :: q) (r := r) sO.rel ⟨.ref x, vs, rfl, ?_, ra.pad⟩ ?_ ?_ (by simpa using hlen) hm fun S' H' st => ?_
  · show (σ ++ [some (V.ref x)])[env.length]? = _
    rw [show env.length = σ.length from rel.len, List.getElem?_append_right (Nat.le_refl _), Nat.sub_self]
    rfl
  · rw [ixs_o]
    exact List.nodup_cons.mpr ⟨hni, hn⟩
  · rw [lend_o, hl2, hat]
    rfl
  · have hp : putB (env ++ [some (.o (.ins C []))]) (.own env.length :: as) (.b m :: q) = putB env as q ++ [some (.o m)] := by
      rw [putB_o, hat, putB_pad hl]
      unfold kPut
      dsimp only
      rw [show env.length = (putB env as q).length from (putB_len env as q).symm, set_pad]
      rfl
    rw [hp] at st
    have hat2 : (putB env as q ++ [some (.o m)])[env.length]? = some (some (.o m)) := by
      rw [show env.length = (putB env as q).length from (putB_len env as q).symm, List.getElem?_append_right (Nat.le_refl _), Nat.sub_self]
      rfl
    have hσ : (σ ++ [some (V.ref x)])[env.length]? = some (some (V.ref x)) := by
      rw [show env.length = σ.length from rel.len, List.getElem?_append_right (Nat.le_refl _), Nat.sub_self]
      rfl
    have pl : (putB env as q ++ [some (Sl.o m)]).set env.length none = putB env as q ++ [none] := by
      rw [show env.length = (putB env as q).length from (putB_len env as q).symm, set_pad]
    rcases h with ⟨rfl, h⟩ | ⟨e, rfl, h⟩
    · have so := st.rel.out hat2 hσ
      rw [pl] at so
      have T := st1.trans (((sO.trans st).trans so).unpad rel.len)
      obtain ⟨a, o, e1, e2, _, e4⟩ := st.rel.obj env.length m ⟨_, hat2, rfl⟩
      rw [hσ] at e1
      cases e1
      have z := h S' (less H' x) T x o less_same e4
      rw [upd_less e2] at z
      exact fun v hv => ⟨hv, z⟩
    · have sf := st.rel.forget (i := env.length) (x := none) fun m' e' => by
        rw [hat2] at e'
        cases e'
      rw [pl] at sf
      have sl : (σ ++ [some (V.ref x)]).set env.length none = σ ++ [none] := by rw [show env.length = σ.length from rel.len, set_pad]
      rw [sl] at sf
      exact h S' H' (st1.trans (((sO.trans st).trans sf).unpad rel.len))
/-- what the reading of C(..) asks -/
theorem AtF.make {W : WX} {n : Nat} {mf : MF} {C : Str} {Ca : Addr} {ex : List D} {dvs : List V} {fas : EF (List AV)} {Q : VK} (hdv : ∀ S, Reps K S ex dvs) (cn : ClsN K C Ca) (h : AtF K W (eMake C mf ex fas) S env σ H Q) (hlen : ∀ e as e', fas e = some (.ok as, e') → as.length + ex.length + 1 = n) :
    At K W (RAl K) fas S env σ H fun vs H1 => ∀ x dx, H1 x = none → H1 dx = none → dx ≠ x → spM K n mf (.ref x :: (vs ++ dvs)) (upd (upd H1 dx (.own x)) x (.ins Ca dx [])) (fun v H2 => v = .non ∧ Q (.ref x) H2) fun cls dd H2 => W cls dd σ H2 := by
  obtain ⟨r, env', rel, e, q⟩ := h
  unfold eMake eBind at e
  cases ef : fas env with
  | none => rw [ef] at e; cases e
  | some p =>
    obtain ⟨r1, e1⟩ := p
    rw [ef] at e
    cases r1 with
    | ex x =>
      have e' : some (Res.ex x, e1) = some (r, env') := e
      cases e'
      exact ⟨.ex x, _, rel, ef, fun S' H' st => q S' H' st⟩
    | ok as =>
      refine ⟨.ok as, e1, rel, ef, fun S1 H1 st vs rv => ?_⟩
      dsimp only at e
      have rv2 : RAs K σ S1 (as ++ ex.map .d) (vs ++ dvs) := ras_app rv (ras_d (hdv S1))
      split at e
      · rename_i hn
        split at e
        · rename_i sl hsl
          split at e
          · rename_i m q' hm
            cases e
            exact make_sp st.rel rv2 cn hn hsl (by rw [List.length_append, List.length_map]; exact hlen _ _ _ ef) hm (.inl ⟨rfl, fun S' H' st' => q S' H' (st.trans st')⟩)
          · rename_i x m q' hm
            cases e
            exact make_sp st.rel rv2 cn hn hsl (by rw [List.length_append, List.length_map]; exact hlen _ _ _ ef) hm (.inr ⟨_, rfl, fun S' H' st' => q S' H' (st.trans st')⟩)
          · cases e
        · cases e
      · cases e
end
end Mir

namespace Mir
open PySem PySem.Spec PyProof.Rows L2
section
variable {X : Cx} {W : WX}
/-! ## C(e, ..): the class's own def runs, what it raises is wished for at the caller's slots -/
theorem mk_run {XT : CXT} {k : Nat} {f Ca : Addr} {fd : FuncData} {ps : List Str} {sp : Sp} {dv : List V} {dl : List Value} {E : XK} {pn : List (Addr × Obj)} {σ : St} {h0 : Hp} {s0 : Shared} {G : VK} {us : List Value} {vs : List V}
    (M : Mk X.K Ca f) (F : FnOk X.prog X.w X.K X.mg X.base XT k f fd ps sp) (room : Room (k + 1) X.A) (bd : Binds X.K fd ps dl) (vd : Vals dv dl) (hx : PassesAt XT X σ E) (inv : Inv X pn σ h0 s0) (rv : Vals vs us)
    (hsp : ∀ x dx, h0 x = none → h0 dx = none → dx ≠ x → sp (.ref x :: (vs ++ dv)) (upd (upd h0 dx (.own x)) x (.ins Ca dx [])) (fun v h2 => v = .non ∧ G (.ref x) h2) E) :
    wpAny (model X.prog X.w) X.A (call (.ref Ca) us) (EP X pn σ G) X.xe s0 := by
  have made := Inv.made (C := Ca) inv
  have told := hsp (s0.heap.objs.size + 1) s0.heap.objs.size (inv.hok.fresh (by omega)) (inv.hok.fresh (by omega)) (Nat.ne_of_lt (Nat.lt_succ_self _))
  have all : Vals (V.ref (s0.heap.objs.size + 1) :: (vs ++ dv)) (Value.ref (s0.heap.objs.size + 1) :: (us ++ dl)) := .cons rfl (rv.append vd)
  have many : (Value.ref (s0.heap.objs.size + 1) :: us ++ dl).length = ps.length := by
    rw [← F.len _ _ _ _ told]
    exact all.length.symm
  have ran := F.run _ X.stack _ _ ⟨Value.ref (s0.heap.objs.size + 1) :: us, []⟩ _ _ _ E (room.make Ca us []) (made.env0.make Ca us []) (bd _ (Value.ref (s0.heap.objs.size + 1) :: us) made.kIn many) all told
  refine wpAny_call (make_map (f := f) inv.kIn M.makes M.init (beq_iff_eq.mp M.fn) (codeAny_mono ran fun r s2 hr => ?_))
  match r, hr with
  | .error e, hr => exact hx pn _ _ e s2 made hr
  | .ok (.ret u), hr =>
    obtain ⟨v, h2, inv2, ru, ev, g⟩ := made.after hr
    subst ev
    exact ⟨ru, V.ref (s0.heap.objs.size + 1), h2, inv2, rfl, g⟩
  | .ok .next, hr => exact hr.elim
  | .ok .brk, hr => exact hr.elim
  | .ok .cont, hr => exact hr.elim
def tMk (Ca : Addr) (sp : Sp) (dv : List V) (E : St → XK) (t : TA) : TE := fun σ H Q => t σ H fun vs H1 => ∀ x dx, H1 x = none → H1 dx = none → dx ≠ x → sp (.ref x :: (vs ++ dv)) (upd (upd H1 dx (.own x)) x (.ins Ca dx [])) (fun v H2 => v = .non ∧ Q (.ref x) H2) (E σ)
/-- a class of the program that is made by its own __init__ -/
structure Made (K : PySem.W.Frag) (mg : Str → Option Value) (C : Str) (Ca f : Addr) : Prop where
  mak : Mk K Ca f
  cn : ClsN K C Ca
  at_ : mg C = some (.ref Ca)
variable {k j n : Nat} {f Ca : Addr} {fd : FuncData} {ps : List Str} {mf : MF} {C : Str} {p pos apos : Pos} {e : Expr} {es : List Expr} {fas : EF (List AV)}
theorem df_make (ex : List D) {dvs : List V} {dl : List Value} (tk : TkC X W) (M : Made X.K X.mg C Ca f) (F : FnOk X.prog X.w X.K X.mg X.base (L2.CX X.prog X.w) k f fd ps (spM X.K n mf)) (hb : Binds X.K fd ps dl) (hd : Vals dvs dl) (hdv : ∀ S, Reps X.K S ex dvs)
    (hr : Room j X.A) (hj : k + 1 ≤ j) (ha : DA X W (e :: es) fas) (hlen : ∀ en as en', fas en = some (.ok as, en') → as.length + ex.length + 1 = n)
    (hg : Gl X C := by rfl) (hdb : (C == ("__debug__" : Str)) = false := by decide) (he : starEach (e :: es) X.env = (false, eval e X.env) :: starEach es X.env := by rfl) (hpl : (backTo pos (starEach es X.env)).any (·.1) = false := by rfl) :
    DF X W (.Call (.Name C p) (e :: es) [] pos) (eMake C mf ex fas) := by
  have base : PE X (.Call (.Name C p) (e :: es) [] pos) (tMk Ca (spM X.K n mf) dvs (fun σ cls dd H => W cls dd σ H) (tr X.K W (RAl X.K) fas)) := by
    refine ⟨fun pn s σ H Q inv h => wpAny_Call_Name_kw (ld_glob inv hg M.at_ ?_ hdb)⟩
    refine PySem.W.callWith_K (h₀ := X.base) inv.ok.mod.kin M.mak.kp (thn (PA.run ha pos pn s σ H _ inv h) fun us s1 ⟨vs, H1, inv1, rv, q⟩ => ⟨inv1.kIn, ?_⟩) he hpl
    exact mk_run M.mak F (hr.mono hj) hb hd (tk σ) inv1 rv q
  refine pe_imp base ?_
  rintro σ H Q ⟨S, env, z⟩
  exact ⟨S, env, z.make hdv M.cn hlen⟩
theorem df_make0 (ex : List D) {dvs : List V} {dl : List Value} (tk : TkC X W) (M : Made X.K X.mg C Ca f) (F : FnOk X.prog X.w X.K X.mg X.base (L2.CX X.prog X.w) k f fd ps (spM X.K n mf)) (hb : Binds X.K fd ps dl) (hd : Vals dvs dl) (hdv : ∀ S, Reps X.K S ex dvs)
    (hr : Room j X.A) (hj : k + 1 ≤ j) (hlen : ex.length + 1 = n) (hg : Gl X C := by rfl) (hdb : (C == ("__debug__" : Str)) = false := by decide) :
    DF X W (.Call (.Name C p) [] [] pos) (eMake C mf ex (eRet [])) := by
  have base : PE X (.Call (.Name C p) [] [] pos) (tMk Ca (spM X.K n mf) dvs (fun σ cls dd H => W cls dd σ H) fun _ H Q => Q [] H) := by
    refine ⟨fun pn s σ H Q inv h => wpAny_Call_Name_kw (ld_glob inv hg M.at_ ?_ hdb)⟩
    exact PySem.W.callWith_K0 inv.kIn M.mak.kp (mk_run (us := []) M.mak F (hr.mono hj) hb hd (tk σ) inv .nil h)
  refine pe_imp base ?_
  rintro σ H Q ⟨S, env, z⟩
  have z2 := z.make hdv M.cn fun en as en' h => by
    cases h
    simpa using hlen
  exact z2.ret (R := RAl X.K) rfl
/-! ## o.f -/
/-- a class whose instances are plain: f is the instance's own -/
structure Plain (K : PySem.W.Frag) (C : Str) (Ca : Addr) : Prop where
  cls : Cls K Ca
  cn : ClsN K C Ca
def oFld (C f : Str) : D → Option D
  | .ins c fs => if c = C then fs.lookup f else none
  | _ => none
theorem repF_lookup {K : PySem.W.Frag} {S : Hp} {f : Str} : ∀ {gs : List (Str × D)} {fs : List (Str × V)} {d : D}, RepF K S gs fs → gs.lookup f = some d → ∃ v, fs.lookup f = some v ∧ Rep K S d v
  | [], fs, d, h, e => by simp at e
  | (g, x) :: gs, _, d, h, e => by
    obtain ⟨v, r, rfl, p, q⟩ := h
    rw [List.lookup_cons] at e ⊢
    cases hb : f == g with
    | true =>
      rw [hb] at e
      cases e
      exact ⟨v, rfl, p⟩
    | false =>
      rw [hb] at e
      exact repF_lookup q e
theorem de_fld {o : Expr} {fo : EF AV} {fl : Str} (ho : DV X W o fo) (P : Plain X.K C Ca) (na : NoAttr X.K Ca fl) (hb : attributeBase o fl X.env (eval o X.env) = eval o X.env := by rfl) : DE X W (.Attribute o fl pos) (eBind fo fun a => eOn a (oFld C fl)) := by
  refine pe_imp (pe_fld ho hb) ?_
  rintro σ H Q ⟨S, env, z⟩
  refine ⟨S, env, (At.bind (R := RAv X.K) z).imp fun v H1 ⟨a, S1, e1, ra, st, z1⟩ => ?_⟩
  obtain ⟨d, y, r1, hy, rel, q⟩ := z1.on ra
  cases d with
  | ins c fs =>
    unfold oFld at hy
    dsimp only at hy
    split at hy
    · rename_i hc
      subst hc
      obtain ⟨Ca', a', dx, fv, cn, rfl, hH, rf⟩ := r1
      have hca := cn.inj P.cn
      subst hca
      obtain ⟨w, hw, rw'⟩ := repF_lookup rf hy
      exact ⟨a', _, dx, fv, w, rfl, hH, P.cls, na, hw, q S1 H1 rel.step w rw'⟩
    · cases hy
  | _ => cases hy
/-! ## o.f = e, o a name that holds an object of its own or a lent one -/
def putD (f : Str) (d : D) : List (Str × D) → List (Str × D)
  | [] => [(f, d)]
  | (g, x) :: r => if g = f then (g, d) :: r else (g, x) :: putD f d r
theorem repF_put {K : PySem.W.Frag} {S : Hp} {f : Str} {d : D} {v : V} (h : Rep K S d v) : ∀ {gs : List (Str × D)} {fs : List (Str × V)}, RepF K S gs fs → RepF K S (putD f d gs) (L2.putF f v fs)
  | [], _, r => by
    cases r
    exact ⟨v, [], rfl, h, rfl⟩
  | (g, x) :: gs, _, r => by
    obtain ⟨w, r', rfl, p, q⟩ := r
    unfold putD L2.putF
    by_cases e : g = f
    · rw [if_pos e, if_pos e]
      exact ⟨v, r', rfl, h, q⟩
    · rw [if_neg e, if_neg e]
      exact ⟨w, _, rfl, p, repF_put h q⟩
theorem repF_len {K : PySem.W.Frag} {S : Hp} : ∀ {gs : List (Str × D)} {fs : List (Str × V)}, RepF K S gs fs → gs.length = fs.length
  | [], _, r => by cases r; rfl
  | (g, x) :: gs, _, r => by
    obtain ⟨w, r', rfl, p, q⟩ := r
    simp [repF_len q]
def insAt (env : ME) (i : Nat) : Option (Sl × Str × List (Str × D)) := match env[i]? with
  | some (some s) => match s.mo with
    | some (.ins C fs) => some (s, C, fs)
    | _ => none
  | _ => none
theorem insAt_inv {env : ME} {i : Nat} {s : Sl} {C : Str} {fs : List (Str × D)} (h : insAt env i = some (s, C, fs)) : env[i]? = some (some s) ∧ s.mo = some (.ins C fs) := by
  unfold insAt at h
  split at h
  · rename_i s' hs
    split at h
    · rename_i hm
      cases h
      exact ⟨hs, hm⟩
    · cases h
  · cases h
def sPutF (i : Nat) (C fl : Str) (fe : EF D) : SF := sBind fe fun d env => match insAt env i with
  | some (s, c, fs) => if c = C ∧ fs.length < 900 then some (.nx, env.set i (some (s.put (.ins c (putD fl d fs))))) else none
  | none => none
theorem ds_putF (i : Nat) {x fl : Str} {p tp : Pos} {fe : EF D} (he : DE X W e fe) (P : Plain X.K C Ca) (na : NoAttr X.K Ca fl) (hN : X.N[i]? = some x := by rfl) (hv : Vis X.env.scope x := by first | exact Or.inl rfl | exact Or.inr (Or.inl rfl) | exact Or.inr (Or.inr rfl))
    (hd : (x == ("__debug__" : Str)) = false := by decide) (hcd : (x == ("__classdict__" : Str)) = false := by decide) (hs : swapsWith e (some (.Attribute (.Name x p) fl tp)) pos.line X.env = pure false := by rfl) :
    DS X W (.Assign [.Attribute (.Name x p) fl tp] e pos) (sPutF i C fl fe) := by
  refine ps_imp (ps_fld (pe_var hN hv hd hcd) he hs) ?_
  rintro Dn σ H ⟨S, env, z⟩
  refine ⟨S, env, (AtS.bind (R := RD X.K) z).imp fun v H1 ⟨d, S1, e1, r, st, z1⟩ => ?_⟩
  obtain ⟨o1, e', rel1, ef, q1⟩ := z1
  dsimp only at ef
  split at ef
  · rename_i s c fs hi
    split at ef
    · rename_i hc
      cases ef
      obtain ⟨rfl, hlen⟩ := hc
      obtain ⟨h1, h2⟩ := insAt_inv hi
      obtain ⟨a, o, x1, x2, x3, Ca', dx, fv, cn, rfl, rf⟩ := rel1.obj i _ ⟨s, h1, h2⟩
      have hca := cn.inj P.cn
      subst hca
      refine ⟨.ref a, x1, a, _, dx, fv, rfl, x2, P.cls, na, by rw [← repF_len rf]; omega, ?_⟩
      exact q1 _ _ _ (rel1.mut h1 h2 x1 ⟨_, dx, _, cn, rfl, repF_put r rf⟩)
    · cases ef
  · cases ef
end
end Mir

namespace Mir
open PySem PySem.Spec PyProof.Rows L2
section
variable {K : PySem.W.Frag} {W : WX} {S : Hp} {env : ME} {σ : St} {H : Hp} {Q : VK}
theorem AtF.bind {α β : Type} {R : RR α β} {f : EF α} {g : α → EF FR} (h : AtF K W (eBind f g) S env σ H Q) :
    At K W R f S env σ H (fun b H1 => ∃ a S1 env1, R σ S1 a b ∧ Step K S env σ H S1 env1 σ H1 ∧ AtF K W (g a) S1 env1 σ H1 Q) := by
  obtain ⟨r, env', rel, e, q⟩ := h
  unfold eBind at e
  cases ef : f env with
  | none => rw [ef] at e; cases e
  | some p =>
    obtain ⟨r1, e1⟩ := p
    rw [ef] at e
    cases r1 with
    | ex x =>
      have e' : some (Res.ex x, e1) = some (r, env') := e
      cases e'
      exact ⟨.ex x, _, rel, ef, fun S' H' st => q S' H' st⟩
    | ok a =>
      have e' : g a e1 = some (r, env') := e
      exact ⟨.ok a, e1, rel, ef, fun S1 H1 st b rb => ⟨a, S1, e1, rb, st, r, env', st.rel, e', fun S' H' st' => q S' H' (st.trans st')⟩⟩
theorem AtF.kcall {n : Nat} {mf : MF} {as : List AV} {vs : List V} (h : AtF K W (kCall mf as) S env σ H Q) (ra : RAs K σ S as vs) (hlen : as.length = n) : spM K n mf vs H Q fun cls dd H2 => W cls dd σ H2 := by
  obtain ⟨r, env', rel, e, q⟩ := h
  unfold kCall at e
  split at e
  · rename_i hn
    cases hl : lend env as with
    | none => rw [hl] at e; cases e
    | some sl =>
      rw [hl] at e
      cases hm : mf sl with
      | none => rw [Option.bind_some, hm] at e; cases e
      | some p =>
        obtain ⟨r0, sl'⟩ := p
        rw [Option.bind_some, hm] at e
        cases r0 with
        | ok a =>
          rw [kC_ok] at e
          cases e
          exact call_sp rel ra hn hl hlen hm fun S' H' st => q S' H' st
        | ex x =>
          rw [kC_ex] at e
          cases e
          exact call_sp rel ra hn hl hlen hm fun S' H' st => q S' H' st
  · cases e
end
section
variable {X : Cx} {W : WX} {k j n : Nat} {f Ca : Addr} {fd : FuncData} {ps : List Str} {mf : MF} {C : Str} {p pos apos : Pos} {e o : Expr} {es : List Expr} {fas : EF (List AV)}
/-! ## o.m(e, ..) -/
def kMeth (C m : Str) (mf : MF) (ex : List D) (fas : EF (List AV)) (a : AV) : EF FR := fun env => match viewA a env with
  | some (.ins c fs) => if c = C ∧ fs.lookup m = none then eBind fas (fun as => kCall mf (a :: (as ++ ex.map .d))) env else none
  | _ => none
def eMeth (C m : Str) (mf : MF) (ex : List D) (fo : EF AV) (fas : EF (List AV)) : EF FR := eBind fo (kMeth C m mf ex fas)
theorem repF_none {K : PySem.W.Frag} {S : Hp} {f : Str} : ∀ {gs : List (Str × D)} {fs : List (Str × V)}, RepF K S gs fs → gs.lookup f = none → fs.lookup f = none
  | [], _, r, _ => by cases r; rfl
  | (g, x) :: gs, _, r, e => by
    obtain ⟨w, r', rfl, p, q⟩ := r
    rw [List.lookup_cons] at e ⊢
    cases hb : f == g with
    | true => rw [hb] at e; cases e
    | false => rw [hb] at e; exact repF_none q e
/-- what a method's call is, by the model's own words -/
def MShape (X : Cx) (o : Expr) (m : Str) (es : List Expr) (apos pos : Pos) (pl : Sem Bool) : Prop := eval (.Call (.Attribute o m apos) es [] pos) X.env = (do let ov ← eval o X.env; standAt apos.atName; let (g, one) ← holding [ov] (getMethod ov m pl); callWith pos g one (backTo pos (starEach es X.env)) (backToKw pos (keywordEach [] X.env)))
def tMt (Ca : Addr) (m : Str) (sp : Sp) (dv : List V) (E : St → XK) (ta : TE) (t : TA) : TE := fun σ H Q => ta σ H fun x H1 => ∃ a dx fs, x = .ref a ∧ H1 a = some (.ins Ca dx fs) ∧ fs.lookup m = none ∧ t σ H1 fun vs H2 => sp (x :: (vs ++ dv)) H2 Q (E σ)
theorem meth_at {S : Hp} {env : ME} {σ : St} {H : Hp} {Q : VK} {m : Str} {ex : List D} {dvs : List V} {fo : EF AV} (P : Plain X.K C Ca) (hdv : ∀ S, Reps X.K S ex dvs) (hlen : ∀ en as en', fas en = some (.ok as, en') → as.length + ex.length + 1 = n) (z : AtF X.K W (eMeth C m mf ex fo fas) S env σ H Q) :
    At X.K W (RAv X.K) fo S env σ H fun x H1 => ∃ a dx fs, x = .ref a ∧ H1 a = some (.ins Ca dx fs) ∧ fs.lookup m = none ∧ tr X.K W (RAl X.K) fas σ H1 fun vs H2 => spM X.K n mf (x :: (vs ++ dvs)) H2 Q fun cls dd H3 => W cls dd σ H3 := by
  refine (AtF.bind (R := RAv X.K) z).imp fun x H1 ⟨a, S1, e1, ra, st, z1⟩ => ?_
  obtain ⟨r, env', rel, ef, q⟩ := z1
  unfold kMeth at ef
  split at ef
  · rename_i c fs hv
    split at ef
    · rename_i hc
      obtain ⟨rfl, hf⟩ := hc
      have r1 := view_one rel ra hv
      obtain ⟨Ca', a', dx, fv, cn, rfl, hH, rf⟩ := r1
      have hca := cn.inj P.cn
      subst hca
      refine ⟨a', dx, fv, rfl, hH, repF_none rf hf, S1, e1, ?_⟩
      unfold eBind at ef
      cases ea : fas e1 with
      | none => rw [ea] at ef; cases ef
      | some p =>
        obtain ⟨r2, e2⟩ := p
        rw [ea] at ef
        cases r2 with
        | ex x =>
          have ef' : some (Res.ex x, e2) = some (r, env') := ef
          cases ef'
          exact ⟨.ex x, _, rel, ea, fun S2 H2 st2 => q S2 H2 st2⟩
        | ok as =>
          refine ⟨.ok as, e2, rel, ea, fun S2 H2 st2 vs rv => ?_⟩
          have z3 : AtF X.K W (kCall mf (a :: (as ++ ex.map .d))) S2 e2 σ H2 Q := ⟨r, env', st2.rel, ef, fun S' H' st' => q S' H' (st2.trans st')⟩
          refine z3.kcall ⟨.ref a', vs ++ dvs, rfl, ra.mono st2.le, ras_app rv (ras_d (hdv S2))⟩ ?_
          rw [List.length_cons, List.length_append, List.length_map]
          exact hlen _ _ _ ea
    · cases ef
  · cases ef
theorem df_meth (ex : List D) {m : Str} {fo : EF AV} {dvs : List V} {dl : List Value} {pl : Sem Bool} (tk : TkC X W) (ho : DV X W o fo) (P : Plain X.K C Ca) (hm : Meth X.K Ca m f) (F : FnOk X.prog X.w X.K X.mg X.base (L2.CX X.prog X.w) k f fd ps (spM X.K n mf))
    (hb : Binds X.K fd ps dl) (hd : Vals dvs dl) (hdv : ∀ S, Reps X.K S ex dvs) (hr : Room j X.A) (hj : k ≤ j) (ha : DA X W (e :: es) fas) (hlen : ∀ en as en', fas en = some (.ok as, en') → as.length + ex.length + 1 = n)
    (hst : starEach (e :: es) X.env = (false, eval e X.env) :: starEach es X.env := by rfl) (hpl : (backTo pos (starEach es X.env)).any (·.1) = false := by rfl)
    (ht : MShape X o m (e :: es) apos pos pl := by unfold MShape; rfl) :
    DF X W (.Call (.Attribute o m apos) (e :: es) [] pos) (eMeth C m mf ex fo fas) := by
  have base : PE X (.Call (.Attribute o m apos) (e :: es) [] pos) (tMt Ca m (spM X.K n mf) dvs (fun σ cls dd H => W cls dd σ H) (tr X.K W (RAv X.K) fo) (tr X.K W (RAl X.K) fas)) := by
    refine ⟨fun pn s σ H Q inv h => PySem.W.methodCall_KW (pl := pl) (thn (PE.run ho pn s σ H _ inv h) fun u s1 ⟨x, H1, inv1, rx, a, dx, fs, ex, ea, l, q⟩ => ?_) ht⟩
    subst ex
    obtain rfl : u = Value.ref a := rx
    refine getmeth_ok inv1 ea P.cls hm l (PySem.W.callWith_K (first := [.ref a]) (h₀ := X.base) inv.ok.mod.kin hm.kp (thn (PA.run ha pos pn s1 σ H1 _ inv1 q) fun us s2 ⟨vs, H2, inv2, r, q2⟩ => ⟨inv2.kIn, ?_⟩) hst hpl)
    exact run_fnSD (E := fun σ cls dd H => W cls dd σ H) (us := .ref a :: us) (vs := .ref a :: vs) F (hr.mono hj) hb hd (tk σ) inv2 (.cons rfl r) q2
  refine pe_imp base ?_
  rintro σ H Q ⟨S, env, z⟩
  exact ⟨S, env, meth_at P hdv hlen z⟩
theorem df_meth0 (ex : List D) {m : Str} {fo : EF AV} {dvs : List V} {dl : List Value} {pl : Sem Bool} (tk : TkC X W) (ho : DV X W o fo) (P : Plain X.K C Ca) (hm : Meth X.K Ca m f) (F : FnOk X.prog X.w X.K X.mg X.base (L2.CX X.prog X.w) k f fd ps (spM X.K n mf))
    (hb : Binds X.K fd ps dl) (hd : Vals dvs dl) (hdv : ∀ S, Reps X.K S ex dvs) (hr : Room j X.A) (hj : k ≤ j) (hlen : ex.length + 1 = n)
    (ht : MShape X o m [] apos pos pl := by unfold MShape; rfl) :
    DF X W (.Call (.Attribute o m apos) [] [] pos) (eMeth C m mf ex fo (eRet [])) := by
  have base : PE X (.Call (.Attribute o m apos) [] [] pos) (tMt Ca m (spM X.K n mf) dvs (fun σ cls dd H => W cls dd σ H) (tr X.K W (RAv X.K) fo) fun _ H Q => Q [] H) := by
    refine ⟨fun pn s σ H Q inv h => PySem.W.methodCall_KW (pl := pl) (thn (PE.run ho pn s σ H _ inv h) fun u s1 ⟨x, H1, inv1, rx, a, dx, fs, ex, ea, l, q⟩ => ?_) ht⟩
    subst ex
    obtain rfl : u = Value.ref a := rx
    refine getmeth_ok inv1 ea P.cls hm l (PySem.W.callWith_K0 (first := [.ref a]) inv1.kIn hm.kp ?_)
    exact run_fnSD (E := fun σ cls dd H => W cls dd σ H) (us := [.ref a]) (vs := [.ref a]) F (hr.mono hj) hb hd (tk σ) inv1 (.cons rfl .nil) q
  refine pe_imp base ?_
  rintro σ H Q ⟨S, env, z⟩
  refine ⟨S, env, (meth_at P hdv (fun en as en' h => by cases h; simpa using hlen) z).imp fun x H1 ⟨a, dx, fs, h1, h2, h3, S1, e1, z1⟩ => ⟨a, dx, fs, h1, h2, h3, z1.ret (R := RAl X.K) rfl⟩⟩
/-! ## isinstance(e, C) of a class of the program -/
structure IsC (K : PySem.W.Frag) (C : Str) (Ca : Addr) : Prop where
  cn : ClsN K C Ca
  ty : ((PySem.W.clsIn K Ca).isSome && PySem.W.typeIn K (.ref Ca) == some (.type "type")) = true
/-- what isinstance asks of an instance's class -/
structure InsT (K : PySem.W.Frag) (Cc : Addr) : Prop where
  cls : Cls K Cc
  fc : PySem.W.findIn K (.ref Cc) "__class__" = some (some (.builtin "object.__class__"))
  sg : PySem.W.specialIn K (.builtin "object.__class__") "__get__" = some (some (.builtin "getset_descriptor.__get__"))
  tk : PySem.W.takesIn K (.builtin "object.__class__") = some true
  ob : PySem.W.mroIn K Cc (.type "object") = some true
/-- what is told of the classes cs against C -/
def SubC (K : PySem.W.Frag) (Ca : Addr) (cs : List (Str × Bool)) : Prop := ∀ c b, cs.lookup c = some b → ∃ Cc, ClsN K c Cc ∧ InsT K Cc ∧ PySem.W.kitOne K (.ref Cc) (.ref Ca) = some b
def oIsC (cs : List (Str × Bool)) : D → Option D
  | .ins c _ => (cs.lookup c).map .bl
  | d => (tyN d).map fun _ => .bl false
theorem kit_no {K : PySem.W.Frag} {Ca : Addr} {t : String} (ht : t = "NoneType" ∨ t = "bool" ∨ t = "int" ∨ t = "str" ∨ t = "tuple" ∨ t = "list" ∨ t = "dict") (h : ((PySem.W.clsIn K Ca).isSome && PySem.W.typeIn K (.ref Ca) == some (.type "type")) = true) : PySem.W.kitOne K (.type t) (.ref Ca) = some false := by
  unfold PySem.W.kitOne
  rw [if_neg (by simp)]
  show (if _ then _ else _) = _
  rw [if_pos h]
  rcases ht with rfl | rfl | rfl | rfl | rfl | rfl | rfl <;> rfl
theorem de_isiC {a : Expr} {fa : EF AV} {p2 : Pos} (cs : List (Str × Bool)) (hm : X.mg "isinstance" = none) (I : IsC X.K C Ca) (hC : X.mg C = some (.ref Ca)) (hsub : SubC X.K Ca cs) (ha : DV X W a fa) (hg : Gl X "isinstance" := by rfl) (hg2 : Gl X C := by rfl) (hdb : (C == ("__debug__" : Str)) = false := by decide)
    (he : starEach [a, .Name C p2] X.env = (false, eval a X.env) :: starEach [.Name C p2] X.env := by rfl) (he2 : starEach [.Name C p2] X.env = (false, eval (.Name C p2) X.env) :: starEach [] X.env := by rfl) (hpl : (backTo pos (starEach [.Name C p2] X.env)).any (·.1) = false := by rfl) :
    DE X W (.Call (.Name "isinstance" p) [a, .Name C p2] [] pos) (eBind fa fun a => eOn a (oIsC cs)) := by
  have h2 : PE X (.Name C p2) (tC (.ref Ca)) := pe_glob hg2 hC rfl hdb
  refine pe_imp (pe_callB call_isi hg hm PyProof.Rows.boot_isinstance (pa_cons ha (pa_cons h2 pa_nil he2) he) (he := he) (hpl := hpl)) ?_
  rintro σ H Q ⟨S, env, z⟩
  refine ⟨S, env, (At.bind (R := RAv X.K) z).imp fun x H1 ⟨a, S1, e1, ra, st, z1⟩ => ?_⟩
  obtain ⟨d, y, r1, hy, rel, q⟩ := z1.on ra
  have rest : ∀ t : String, tyN d = some t → y = .bl false → rIsi X.K [x, .ref Ca] H1 Q := fun t ht hy => by
    subst hy
    obtain ⟨tx, hts⟩ := tyX_of r1 ht
    exact ⟨x, .ref Ca, .type t, .ref Ca, false, rfl, .own Ca, tx, kit_no hts I.ty, q S1 H1 rel.step _ rfl⟩
  cases d with
  | ins c fs =>
    unfold oIsC at hy
    obtain ⟨b, hb, rfl⟩ := Option.map_eq_some_iff.mp hy
    obtain ⟨Cc, cn, it, hk⟩ := hsub c b hb
    obtain ⟨Ca', a', dx, fv, cn', rfl, hH, rf⟩ := r1
    have hca := cn'.inj cn
    subst hca
    exact ⟨_, .ref Ca, .ref Ca', .ref Ca, b, rfl, .own Ca, .base (.ins hH it.cls it.fc it.sg it.tk it.ob), hk, q S1 H1 rel.step _ rfl⟩
  | non => cases hy; exact rest _ rfl rfl
  | bl b => cases hy; exact rest _ rfl rfl
  | int b => cases hy; exact rest _ rfl rfl
  | str b => cases hy; exact rest _ rfl rfl
  | tup b => cases hy; exact rest _ rfl rfl
  | lst b => cases hy; exact rest _ rfl rfl
  | frl b => cases hy; exact rest _ rfl rfl
  | dK b => cases hy; exact rest _ rfl rfl
  | ty b => cases hy
  | exc b c => cases hy
  | ref b => cases hy
end
end Mir

/-! ## own exceptions made with keywords too; the __new__ may be an ancestor's (KeyError: LookupError's) -/
namespace PySem.PX
open PySem PySem.Spec PyProof.Rows
section
variable {prog : Program} {w : World} {A : Around} {E : Value → Shared → Prop} {R : Result → Shared → Prop} {h : Heap} {g : Array GenState} {d : Drawn} {t : Nat} {os : OsState}
variable {nm q : Str} {C N : Addr} {bs bm bmB : List Value} {hdct : Bool} {sn : List Str} {sub : List Value} {ab : Bool} {col : Option Bool} {dd : Option Addr} {k0 k1 k2 k3 k5 : Option Value} {B newId initId : String}
theorem mir_checkNew (F : ExcBaseFacts B newId initId bmB) (hB : bm.contains (.type B) = true) {rest : List Value} {kw : List (Str × Value)} {Q : Unit → Shared → Prop}
    (hC : h.get? C = some (excClassObj nm q C N bs bm hdct sn sub ab col dd k0 k1 k2 k3 k5 newId)) (hq : Q () ⟨h, g, d, t, os⟩) : wpAny (model prog w) A (checkBuiltinCall newId ⟨.ref C :: rest, kw⟩) Q E ⟨h, g, d, t, os⟩ := by
  have hc : (Value.ref C :: bm).contains (.type B) = true := by rw [List.contains_cons, hB, Bool.or_true]
  have hs := F.noStar
  simp only [checkBuiltinCall, F.newKind, F.newSplit, F.newRow]
  repeat (first | refine wpAny_loadPart_at hC ?_ | (refine wpAny_isSubtype_exc hC ?_; rw [hc]) | refine wpAny_staticBase_exc hC ?_ | refine wpAny_madeBy_exc hC ?_ | (simp only [bne_self_eq_false, Bool.false_eq_true, if_false]; skip) | wp_step)
  exact hq
theorem mir_new (F : ExcBaseFacts B newId initId bmB) (hB : bm.contains (.type B) = true) (hA : bm.contains (.type "AttributeError") = false) (hNm : bm.contains (.type "NameError") = false) {rest : List Value} {kw : List (Str × Value)}
    (hC : h.get? C = some (excClassObj nm q C N bs bm hdct sn sub ab col dd k0 k1 k2 k3 k5 newId)) (hrest : rest.length ≤ sizeLine)
    (hq : R (.ok (.ret (.ref (h.objs.size + 1)))) ⟨(h.push (W.kdv_tup rest)).push (excO C h.objs.size), g, d, t, os⟩) : codeAny (model prog w) A (.builtin newId ⟨.ref C :: rest, kw⟩) R ⟨h, g, d, t, os⟩ := by
  have he := F.ends
  have c1 : (Value.ref C :: bm).contains (.type B) = true := by rw [List.contains_cons, hB, Bool.or_true]
  have c2 : (Value.ref C :: bm).contains (.type "AttributeError") = false := by rw [List.contains_cons, hA]; rfl
  have c3 : (Value.ref C :: bm).contains (.type "NameError") = false := by rw [List.contains_cons, hNm]; rfl
  refine codeAny_builtinAt F.entry ?_
  unfold Builtin.«BaseException.__new__»
  refine wpAt_bind ?_
  show wpAt _ _ _ (stack >>= _) _ _ _
  refine wpAt_bind (wpAt_stack fun p below => wpAt_of_wpAny ?_)
  wp_walk
  refine wpAt_of_wpAny ?_
  rw [F.owner]
  repeat (first | with_reducible refine wpAny_madeHere_exc F.canon hC ?_ | with_reducible refine wpAny_loadPart_at hC ?_ | (with_reducible refine wpAny_isSubtype_exc hC ?_; first | rw [c1] | rw [c2] | rw [c3]) | wp_step)
  show R _ _
  rw [Heap.size_push]
  exact hq
theorem mir_typeCall (F : ExcBaseFacts B newId initId bmB) (hB : bm.contains (.type B) = true) (hA : bm.contains (.type "AttributeError") = false) (hNm : bm.contains (.type "NameError") = false) {rest : List Value} {kw : List (Str × Value)} {fI : Addr} {Q : Fin → Shared → Prop}
    (hC : h.get? C = some (excClassObj nm q C N bs bm hdct sn sub ab col dd k0 k1 k2 k3 k5 newId)) (hi : W.Looks (model prog w) h (typeLookup (.ref C) "__init__") (some (.ref fI))) (hb : ∀ self, W.Looks (model prog w) h (bindSpecial (.ref fI) self) (.ref fI, [self])) (hrest : rest.length ≤ sizeLine)
    (hq : codeAny (model prog w) A (.call (.ref fI) ⟨.ref (h.objs.size + 1) :: rest, kw⟩) (fun r s' => match r with | .ok (.ret v) => v = .none ∧ Q (.done (.ret (.ref (h.objs.size + 1)))) s' | .ok _ => False | .error e => E e s') ⟨(h.push (W.kdv_tup rest)).push (excO C h.objs.size), g, d, t, os⟩) :
    wpAny (model prog w) A (Builtin.«type.__call__» ⟨.ref C :: rest, kw⟩) Q E ⟨h, g, d, t, os⟩ := by
  repeat (first | with_reducible refine wpAny_loadPart_at hC ?_ | with_reducible refine wpAny_madeBy_exc hC ?_ | wp_step)
  refine codeAny_call_builtin_code (Code.quiet_builtin _ F.quiet) (mir_checkNew F hB hC ?_)
  refine mir_new F hB hA hNm hC hrest ?_
  show wpAny _ _ _ _ _ _
  have k : ∀ b o, h.get? b = some o → ((h.push (W.kdv_tup rest)).push (excO C h.objs.size)).get? b = some o := fun b o e => Heap.get?_push_of_some _ (Heap.get?_push_of_some _ e)
  have hC1 := k _ _ hC
  have hg : ((h.push (W.kdv_tup rest)).push (excO C h.objs.size)).get? (h.objs.size + 1) = some (excO C h.objs.size) := by heap_get
  have hcC : (Value.ref C :: bm).contains (.ref C) = true := by simp
  have i1 := hi.keeps k
  have b1 := (hb (.ref (h.objs.size + 1))).keeps k
  unfold isInstance
  repeat (first | with_reducible refine wpAny_loadPart_at hg ?_ | (with_reducible refine wpAny_isSubtype_exc hC1 ?_; rw [hcC]) | wp_step)
  show wpAny _ _ (typeLookup (.ref C) _) _ _ _
  refine i1.at (wpAny_holding (wpAny_bind (b1.at (wpAny_bind (wpAny_call (codeAny_mono hq fun r s' z => ?_))))))
  rcases r with e | (v | _ | _ | _) <;> first | exact z | exact z.elim | skip
  obtain ⟨rfl, z⟩ := z
  first
    | exact wpAny_pure (wpAny_pure z)
    | (wp_walk; exact z)
theorem mir_checkCall {rest : List Value} {kw : List (Str × Value)} {Q : Unit → Shared → Prop} (hC : h.get? C = some (excClassObj nm q C N bs bm hdct sn sub ab col dd k0 k1 k2 k3 k5 newId))
    (hq : Q () ⟨h, g, d, t, os⟩) : wpAny (model prog w) A (checkBuiltinCall "type.__call__" ⟨.ref C :: rest, kw⟩) Q E ⟨h, g, d, t, os⟩ := by
  have f3 := tc_sub
  have hTy : (⟨h, g, d, t, os⟩ : Shared).TypeIs (.ref C) "type" := ⟨_, hC, rfl⟩
  simp only [checkBuiltinCall, tc_kind, tc_split]
  repeat (any_goals (first | assumption | (with_reducible refine wpAny_loadPart_at hC ?_) | (with_reducible refine wpAny_onRaise ?_) | (with_reducible refine wpAny_map ?_) | wp_step))
theorem mir_call (F : ExcBaseFacts B newId initId bmB) (hB : bm.contains (.type B) = true) (hA : bm.contains (.type "AttributeError") = false) (hNm : bm.contains (.type "NameError") = false) {rest : List Value} {kw : List (Str × Value)} {fI : Addr}
    (hC : h.get? C = some (excClassObj nm q C N bs bm hdct sn sub ab col dd k0 k1 k2 k3 k5 newId)) (hi : W.Looks (model prog w) h (typeLookup (.ref C) "__init__") (some (.ref fI))) (hb : ∀ self, W.Looks (model prog w) h (bindSpecial (.ref fI) self) (.ref fI, [self])) (hrest : rest.length ≤ sizeLine)
    (hq : codeAny (model prog w) (A.under (.builtin "type.__call__" ⟨.ref C :: rest, kw⟩)) (.call (.ref fI) ⟨.ref (h.objs.size + 1) :: rest, kw⟩) (W.InitBack (h.objs.size + 1) R) ⟨(h.push (W.kdv_tup rest)).push (excO C h.objs.size), g, d, t, os⟩) :
    codeAny (model prog w) A (.call (.ref C) ⟨rest, kw⟩) R ⟨h, g, d, t, os⟩ := by
  have f1 := tc_lookup
  have f2 := tc_bind (.ref C)
  have hTy : (⟨h, g, d, t, os⟩ : Shared).TypeIs (.ref C) "type" := ⟨_, hC, rfl⟩
  refine codeAny_of_tree ?_
  show wpAny _ _ (callAny (.ref C) _) _ _ _
  repeat (any_goals (first | assumption | with_reducible refine wpAny_loadPart_at hC ?_ | wp_step))
  refine ⟨rfl, ?_⟩
  refine codeAny_call_builtin_at (Code.quiet_builtin _ (by decide +kernel)) entry_typeCall (mir_checkCall hC (mir_typeCall F hB hA hNm hC hi hb hrest ?_))
  refine codeAny_mono hq fun r s' z => ?_
  rcases r with e | (v | _ | _ | _) <;> exact z
end
end PySem.PX
namespace Mir
open PySem PySem.Spec PyProof.Rows L2
/-- what is told of a built-in exception's __init__ -/
structure InitF (B i : String) : Prop where
  kind : builtinKind i = some .slot
  row : Manifest.signature? i = some ⟨.positional, "*", B, .self, [⟨"args", .varPos, false⟩]⟩
  star : (B != "*") = true
  entry : entryFor table i = some Builtin.«BaseException.__init__»
  plain : plainId i = true
section
variable {prog : Program} {w : World} {A : Around} {E : Value → Shared → Prop} {s : Shared} {h₀ : Heap} {L : Addr} {m : Str → Option Value} {news : List (Addr × Obj)} {K : PySem.W.Frag} {x C u : Addr} {B i newId : String} {bmB : List Value}
theorem bound_init (T : InitF B i) {h : Heap} {g : Array GenState} {d : Drawn} {t : Nat} {os : OsState} {nm q : Str} {N e : Addr} {oe : Obj} {bs bm : List Value} {hdct : Bool} {sn : List Str} {sub : List Value} {ab : Bool} {col : Option Bool} {dd : Option Addr} {k0 k1 k2 k3 k5 : Option Value} {rest : List Value} {Q : Unit → Shared → Prop}
    (hC : h.get? C = some (excClassObj nm q C N bs bm hdct sn sub ab col dd k0 k1 k2 k3 k5 newId)) (he : h.get? e = some oe) (hcls : oe.cls = .ref C) (hq : Q () ⟨h, g, d, t, os⟩) : wpAny (model prog w) A (checkBoundCall i ⟨.ref e :: rest, []⟩) Q E ⟨h, g, d, t, os⟩ := by
  have hs := T.star
  simp only [checkBoundCall, T.kind, T.row]
  repeat (first | ((with_reducible refine wpAny_loadPart_at he ?_); rw [hcls]) | (with_reducible refine wpAny_loadPart_at hC ?_) | wp_step)
  refine wpAny_onRaise ?_
  rw [show ∀ (a b : String) (n : Nat), Bind.check ⟨.positional, "*", B, .self, [⟨"args", .varPos, false⟩]⟩ a b n (List.map (fun x => x.fst) ({ pos := Value.ref e :: rest } : Args).kw) = pure () from fun a b n => check_star_args _ _ _ _ _ _]
  exact wpAny_pure hq
open PySem.W in
/-- super().__init__(..) called -/
theorem super_call {t : Addr} {dv : Option Addr} {c2 : Value} {rest : List Value} {nw : Obj → List (Addr × Obj)} {Q : Value → Shared → Prop} (F : Fr h₀ L s.heap m) (X₀ : K.In h₀) (N : News h₀ L s.heap news) (FB : InitF B i) (q : excInitIn K C bmB newId = true) (hm : (u, kxs_mw i x) ∈ news)
    (U : UpdF x (excObj C t dv c2) news nw) (hz : rest.length ≤ sizeLine) (h : ∀ t' h', Fr h₀ L h' m → News h₀ L h' ((t', excTup rest) :: nw (excObj C t' dv c2)) → (∀ p ∈ news, p.1 < t') → Q .none { s with heap := h' }) : wpAny (model prog w) A (call (.ref u) rest) Q E s := by
  obtain ⟨nm, N', qn, bs, bm, hdct, sn, sub, ab, col, dd, k0, k1, k2, k3, k5, hC, hT⟩ := excInit_of (X₀.keeps F.keep) q
  have gu := (N _ hm).1
  obtain ⟨pre, post, rfl, hg, a, b⟩ := U.split
  have me : (x, excObj C t dv c2) ∈ pre ++ (x, excObj C t dv c2) :: post := by simp
  have ge := (N _ me).1
  have old : ∀ p ∈ pre ++ (x, excObj C t dv c2) :: post, p.1 < s.heap.objs.size := fun p hp => Heap.lt_size (N p hp).1
  have done : ∀ h', (∀ b o, b ≠ x → s.heap.get? b = some o → h'.get? b = some o) → h'.get? x = some (excObj C s.heap.objs.size dv c2) → h'.get? s.heap.objs.size = some (excTup rest) → Q .none { s with heap := h' } := by
    intro h' k e' t'
    obtain ⟨oL, es, ep, hL, r⟩ := F.ns
    have sL : L < s.heap.objs.size := Heap.lt_size (show s.heap.get? L = some oL from hL)
    have keep2 : ∀ b o, h₀.get? b = some o → h'.get? b = some o := fun b o z => k b o (fun y => by have w0 := (N _ me).2.2; rw [y] at z; rw [show h₀.get? x = none from w0] at z; cases z) (F.keep b o z)
    refine h s.heap.objs.size h' ⟨⟨oL, es, ep, k _ _ (fun z => (N _ me).2.1 z.symm) hL, r⟩, keep2, F.above⟩ (fun p hp => ?_) old
    rw [hg] at hp
    have stay : ∀ p ∈ pre ++ (x, excObj C t dv c2) :: post, p.1 ≠ x → h'.get? p.1 = some p.2 ∧ p.1 ≠ L ∧ h₀.get? p.1 = none := fun p hp n => ⟨k _ _ n (N p hp).1, (N p hp).2⟩
    rcases List.mem_cons.mp hp with rfl | hp
    · refine ⟨t', Nat.ne_of_gt sL, ?_⟩
      cases z : h₀.get? s.heap.objs.size with
      | none => rfl
      | some o => exact absurd (Heap.lt_size (F.keep _ _ z)) (Nat.lt_irrefl _)
    · rcases List.mem_append.mp hp with hp | hp
      · exact stay p (List.mem_append_left _ hp) (a p hp)
      · rcases List.mem_cons.mp hp with rfl | hp
        · exact ⟨e', (N _ me).2⟩
        · exact stay p (List.mem_append_right _ (.tail _ hp)) (b p hp)
  clear h
  obtain ⟨hh, g, d, tk, os⟩ := s
  refine wpAny_call (codeAny_of_tree ?_)
  show wpAny _ A.in1 (callAny (.ref u) ⟨rest, []⟩) _ _ _
  simp only [callAny]
  refine wpAny_bind (wpAny_load gu ?_)
  simp only [kxs_mw, show (Value.type "method-wrapper" == Value.type "method" || Value.type "method-wrapper" == Value.type "builtin_function_or_method" || Value.type "method-wrapper" == Value.type "method-wrapper") = true by decide, if_true]
  refine KFB.if_so (by decide) (wpAny_bind (bound_init FB hC ge rfl (wpAny_bind (wpAny_pure (wpAny_pure ?_)))))
  exact ⟨plainId_quiet FB.plain _, codeAny_builtin FB.entry (exc_init_tree (cls := .ref C) (t0 := t) (dv := dv) (c2 := c2) (c3 := .none) (b4 := .bool false) ge hz done)⟩
end
end Mir
namespace Mir
open PySem PySem.Calls PyProof.Rows
/-! ## an exception of a class whose def is: super().__init__(text); self.f = p -/
/-- what super().__init__(text) is, by the model's own words -/
def SShape (o : Expr) (m : Str) (apos : Pos) (args : List Expr) (pos : Pos) (env : Env) (pl : Sem Bool) : Prop := eval (.Call (.Attribute o m apos) args [] pos) env = (do let ov ← attributeBase o m env (eval o env); standAt apos.atName; let (g, one) ← holding [ov] (getMethod ov m pl); callWith pos g one (backTo pos (starEach args env)) [])
/-- what is told of such a class: its def in the written part, the built-in base B -/
structure ExcK (prog : Program) (K : PySem.W.Frag) (C : Addr) (par fld : Str) (B i newId : String) (bmB : List Value) where
  fI : Addr
  oc : Value
  od : Option Addr
  osl : Array (Option Value)
  name : Str
  qual : Str
  params : Arguments
  body : List Stmt
  scope : Scope
  dV : Value
  kV : Value
  dc : Value
  pm : Value
  an : Option Addr
  ct : Value
  cda : Addr
  cc : Addr
  ccl : Value
  cdd : Option Addr
  vs : Array Value
  ccs : Array (Option Value)
  file : Str
  tf : Tok
  cl : Value
  cld : Option Addr
  csl : Array (Option Value)
  txt : Str
  j : Nat
  ps : Nat → Pos
  hbody : body = [.Expr (.Call (.Attribute (.Call (.Name "super" (ps 0)) [] [] (ps 1)) "__init__" (ps 2)) [.Constant (.str txt) j (ps 3)] [] (ps 4)) (ps 5), .Assign [.Attribute (.Name "self" (ps 6)) fld (ps 7)] (.Name par (ps 8)) (ps 9)]
  hshape : ∃ pl : Env → Sem Bool, ∀ env, SShape (.Call (.Name "super" (ps 0)) [] [] (ps 1)) "__init__" (ps 2) [.Constant (.str txt) j (ps 3)] (ps 4) env (pl env)
  hf : K.lookup fI = some ⟨oc, od, .func (PySem.W.ksFn name qual params body scope dV kV dc pm an (.ref cda) ct cc), osl⟩
  hcode : K.lookup cda = some ⟨ccl, cdd, .fields vs, ccs⟩
  hrec : PySem.W.codeIn K (.ref cda) qual = true
  hvs : vs[2]? = some (.str file tf)
  hfile : ((prog.main.file : Str) == file) = true
  hcell : K.lookup cc = some ⟨cl, cld, .cell (some (.ref C)), csl⟩
  par1 : ∃ ar, (params.posonlyargs ++ params.args).head? = some ar ∧ ar.arg = "self"
  kSuper : scope.names.lookup ("super" : Str) = some .globalImplicit
  kClass : scope.names.lookup ("__class__" : Str) = some .free
  kSelf : scope.names.lookup ("self" : Str) = some .local
  kPar : scope.names.lookup par = some .local
  kCell : ∀ x ∈ scope.names, x.2 ≠ .cell
  kCo : scope.isCoroutine = false
  kGen : scope.isGenerator = false
  kFn : scope.kind = .function
  neP : (par == ("self" : Str)) = false
  neD : (par == ("__debug__" : Str)) = false
  top : (prog.main.scope.names.lookup ("super" : Str)).isSome = false
  bind : ∀ us v, bindArgs (PySem.W.ksFn name qual params body scope dV kV dc pm an (.ref cda) ct cc) ⟨[us, v], []⟩ = pure [(("self" : Str), us), (par, v)]
  bindK : ∀ us v, bindArgs (PySem.W.ksFn name qual params body scope dV kV dc pm an (.ref cda) ct cc) ⟨[us], [(par, v)]⟩ = pure [(("self" : Str), us), (par, v)]
  cls : ∃ cd, PySem.W.clsIn K C = some cd
  sub : PySem.W.mroIn K C (.ref C) = some true
  any : PySem.W.nsIn K PySem.cStatics "thirdparty.any" = some none
  sup : PySem.W.ks_superIn K C C "__init__" = some (some (.builtin i))
  subB : PySem.W.subIn K (.ref C) (.type B) = some true
  init : PySem.W.findIn K (.ref C) "__init__" = some (some (.ref fI))
  isF : PySem.W.isFn K (.ref fI) = true
  xi : PySem.W.excInitIn K C bmB newId = true
  sa : PySem.W.findIn K (.ref C) "__setattr__" = some (some (.builtin "object.__setattr__"))
  ov : PySem.W.excOver K C bmB = true
  tk : PySem.W.takerIn K C fld = some none
  hd : PySem.W.hasDictIn K C = true
/-- what is told of the built-in base -/
structure ExcB0 (B i newId : String) (bmB : List Value) : Prop where
  kf : PySem.W.KxsFacts B i
  inf : InitF B i
  nw : ∃ (N initN : String) (bmN : List Value), ExcBaseFacts N newId initN bmN ∧ bmB.contains (.type N) = true
  bA : bmB.contains (.type "AttributeError") = false
  bN : bmB.contains (.type "NameError") = false
  sf : StoreFacts B bmB "object.__setattr__" "object"
theorem ExcB0.of {B i newId : String} {bmB : List Value} (kf : PySem.W.KxsFacts B i) (fb : ExcBaseFacts B newId i bmB) (sf : StoreFacts B bmB "object.__setattr__" "object") : ExcB0 B i newId bmB :=
  ⟨kf, ⟨fb.initKind, fb.initRow, fb.noStar, fb.initEntry, fb.init.plain⟩, ⟨B, i, bmB, fb, fb.hasB⟩, fb.noAttr, fb.noName, sf⟩
section
variable {prog : Program} {w : World} {A : Around} {E : Value → Shared → Prop} {s : Shared} {h₀ : Heap} {L : Addr} {m mg mb : Str → Option Value} {K : PySem.W.Frag} {C : Addr} {par fld : Str} {B i newId : String} {bmB : List Value}
abbrev ExcK.env (D : ExcK prog K C par fld B i newId bmB) (L : Addr) : Env := PySem.W.ksEnv D.qual D.scope L D.fI (.ref D.cda) D.cc
/-- super(), in front of .__init__ -/
theorem x_super (D : ExcK prog K C par fld B i newId bmB) {news : List (Addr × Obj)} {body : List Stmt} {x : Addr} {ox : Obj} {odx : Option Obj} {p0 p1 : Pos} {whole : Sem Value} {Q : Value → Shared → Prop} (F : Fr h₀ L s.heap m) (X₀ : K.In h₀) (N : News h₀ L s.heap news)
    (g : s.heap.Ns mainGlobals mg) (gs : mg "super" = none) (bl : s.heap.Ns builtinsNs mb) (bs : mb "super" = some (.type "super")) (hv : m "self" = some (.ref x)) (I : PySem.W.InstAt s.heap x ox C odx)
    (h : ∀ so h', Fr h₀ L h' m → News h₀ L h' ((so, PySem.W.ks_superObj C x C) :: news) → (∀ p ∈ news, p.1 < so) → Q (.ref so) { s with heap := h' }) :
    _root_.PySem.wpAt (model prog w) A (.func body (D.env L)) (attributeBase (.Call (.Name "super" p0) [] [] p1) "__init__" (D.env L) whole) Q E s := by
  have X : K.In s.heap := X₀.keeps F.keep
  obtain ⟨cdD, hD⟩ := D.cls
  obtain ⟨ar, ha1, ha2⟩ := D.par1
  obtain ⟨hh, gn, d, t, os⟩ := s
  obtain ⟨oD, hD1, hD2⟩ : ∃ oD, hh.get? C = some oD ∧ oD.data = .cls cdD := by
    unfold PySem.W.clsIn at hD
    split at hD
    · rename_i c d cd' sl ho
      cases hD
      exact ⟨_, X _ _ ho, rfl⟩
    · cases hD
  refine PySem.ks_wpAt_super_base (env := D.env L) D.kSuper D.kClass (by decide) rfl (X _ _ D.hf) rfl ha1 rfl (X _ _ D.hcode) rfl D.hvs D.hfile D.top ?_
  refine PySem.W.ks_loadName_global D.kFn D.kSuper (loadGlobal_builtin (env := D.env L) g gs bl bs ⟨rfl, ?_⟩)
  refine wpAny_loadName_free D.kFn D.kClass rfl ⟨_, X _ _ D.hcell, rfl⟩ ?_
  rw [ha2]
  refine wpAny_loadName_local D.kFn D.kSelf F.ns hv ?_
  refine PySem.ks_wpAny_isType_cls hD1 hD2 ⟨rfl, ?_⟩
  refine PySem.ks_wpAny_call_super hD1 hD2 I.at_ I.cls (fun c e => ?_) (PySem.W.looks_mroIn X D.sub) (fun h' e k => ?_)
  · have z := I.no
    unfold PySem.W.notCls at z
    rw [e] at z
    exact Bool.noConfusion z
  · obtain ⟨F', N', lt⟩ := PySem.W.ks_newsPush (s := ⟨hh, gn, d, t, os⟩) F N rfl e k
    exact h _ _ F' N' lt
/-- the dict that the one field makes -/
abbrev xEs (w : World) (fld : Str) (k : Nat) (v : Value) : List DictEntry := [⟨PyData.keyHash w.params fld, .str fld k, v⟩]
/-- the def's body -/
theorem x_body (T : ExcB0 B i newId bmB) (D : ExcK prog K C par fld B i newId bmB) {e t : Addr} {v : Value} {Q : Flow → Shared → Prop} (F : Fr h₀ L s.heap m) (X₀ : K.In h₀) (N : News h₀ L s.heap [(e, PySem.W.excObj C t none .none)])
    (g : h₀.Ns mainGlobals mg) (gs : mg "super" = none) (bl : h₀.Ns builtinsNs mb) (bs : mb "super" = some (.type "super")) (hv : m "self" = some (.ref e)) (hp : m par = some v)
    (h : ∀ t2 dx k tk h', Fr h₀ L h' m → News h₀ L h' [(dx, PySem.W.dictOf (xEs w fld k v) 1), (e, PySem.W.excObj C t2 (some dx) .none)] → e < dx → Q .next { s with heap := h', toks := tk }) :
    _root_.PySem.wpAt (model prog w) A (.func D.body (D.env L)) (execs D.body (D.env L)) Q E s := by
  have key : ∀ st st2, D.body = [st, st2] → _root_.PySem.wpAt (model prog w) A (.func D.body (D.env L)) (execs [st, st2] (D.env L)) Q E s → _root_.PySem.wpAt (model prog w) A (.func D.body (D.env L)) (execs D.body (D.env L)) Q E s := fun st st2 e z => by
    have : execs D.body (D.env L) = execs [st, st2] (D.env L) := by rw [e]
    rw [this]
    exact z
  refine key _ _ D.hbody ?_
  obtain ⟨pl, hpl⟩ := D.hshape
  have hint : interactive (D.env L) = false := by
    unfold interactive
    simp [PySem.W.ksEnv, PySem.W.envX, D.kFn]
  refine ks_wpAt_execs_cons (ks_wpAt_Expr_any (ks_wpAt_MethodCall (pl := pl (D.env L)) (he := hpl (D.env L)) (x_super D F X₀ N (g.keeps F.keep) gs (bl.keeps F.keep) bs hv (PySem.W.InstAt.of_exc0 (t := t) (c2 := .none) N (by simp)) fun so h1 F1 N1 l1 => ?_)) hint rfl)
  refine PySem.W.kxs_method T.kf (s := { s with heap := h1 }) F1 X₀ N1 (so := so) (D := C) (x := e) (C := C) (by simp) (PySem.W.InstAt.of_exc0 (t := t) (c2 := .none) N1 (by simp)) D.any D.sup D.subB (by decide) fun q h2 F2 N2 l2 => ?_
  have qe : e < q := l2 (e, PySem.W.excObj C t none .none) (by simp)
  have N2' : News h₀ L h2 [(q, PySem.W.kxs_mw i e), (e, PySem.W.excObj C t none .none)] := fun p hp => N2 p (by simp at hp ⊢; rcases hp with h | h; exact .inl h; exact .inr (.inr h))
  refine PySem.W.kxs_callWith1 (s := { s with heap := h2, toks := s.toks + 1 }) (i := i) (x := e) (u := q) N2' (by simp) ?_
  refine Calls.spliced_cons ?_
  show wpAny _ _ (eval (.Constant (.str D.txt) D.j (D.ps 3)) (D.env L)) _ _ _
  refine Calls.Constant_str ?_
  refine Calls.spliced_nil ⟨(N2' (q, PySem.W.kxs_mw i e) (by simp)).1, ?_⟩
  refine super_call (s := { s with heap := h2, toks := s.toks + 1 + 1 }) (u := q) (x := e) (t := t) (dv := none) (c2 := .none) F2 X₀ N2' T.inf D.xi (by simp) (.tail (Ne.symm (Nat.ne_of_lt qe)) (.head (by simp))) (by show 1 ≤ sizeLine; decide) fun t2 h3 F3 N3 l3 => ?_
  have N3' : News h₀ L h3 [(e, PySem.W.excObj C t2 none .none)] := fun p hp => N3 p (by simp at hp ⊢; exact .inr (.inr hp))
  refine ks_wpAt_execs_cons (ks_wpAt_Assign_Attr (wpAt_of_wpAny (wpAny_Name (wpAny_loadName_local D.kFn D.kPar F3.ns hp (wpAny_Name (wpAny_loadName_local D.kFn D.kSelf F3.ns hv ?_) (by decide))) D.neD)) rfl)
  refine PySem.W.set_exc0 T.sf F3 X₀ N3' (x := e) (t := t2) (c2 := .none) (by simp) D.sa D.ov D.tk D.hd rfl (.head (by simp)) (by show 1 ≤ 1000; decide) fun dx h4 F4 N4 l4 => ?_
  exact wpAt_of_wpAny (wpAny_pure (h t2 dx _ _ h4 F4 N4 (l4 (e, PySem.W.excObj C t2 none .none) (by simp))))
end
end Mir

namespace Mir
open PySem PySem.Calls PyProof.Rows
section
variable {prog : Program} {w : World} {A : Around} {E : Value → Shared → Prop} {mg mb : Str → Option Value} {K : PySem.W.Frag} {C : Addr} {par fld : Str} {B i newId : String} {bmB : List Value}
/-- C(v): the exception lies behind the heap, its dict behind it -/
theorem x_call (T : ExcB0 B i newId bmB) (D : ExcK prog K C par fld B i newId bmB) {hh : Heap} {gn : Array GenState} {d : Drawn} {tk : Nat} {os : OsState} {v : Value} {us : List Value} {kw : List (Str × Value)} {Q : Value → Shared → Prop} (hu : (us = [v] ∧ kw = []) ∨ (us = [] ∧ kw = [(par, v)])) (X : K.In hh) (lim : hh.NoLimit) (g : hh.Ns mainGlobals mg) (gs : mg "super" = none) (bl : hh.Ns builtinsNs mb) (bs : mb "super" = some (.type "super"))
    (room : (A.under (.builtin "type.__call__" ⟨.ref C :: us, kw⟩)).depth < recursionLimit)
    (h : ∀ t2 dx k tk' h', (∀ b o, hh.get? b = some o → h'.get? b = some o) → h'.get? (hh.objs.size + 1) = some (PySem.W.excObj C t2 (some dx) .none) → h'.get? dx = some (PySem.W.dictOf (xEs w fld k v) 1) → hh.objs.size + 1 < dx → Q (.ref (hh.objs.size + 1)) ⟨h', gn, d, tk', os⟩) :
    wpAny (model prog w) A (call (.ref C) us kw) Q E ⟨hh, gn, d, tk, os⟩ := by
  obtain ⟨nm, N', qn, bs', bm, hdct, sn, sub, ab, col, dd, k0, k1, k2, k3, k5, hC, hT⟩ := PySem.W.excInit_of X D.xi
  obtain ⟨oI, hoI, hcI⟩ : ∃ oI, hh.get? D.fI = some oI ∧ oI.cls = .type "function" := by
    obtain ⟨o, ho, hc⟩ := Option.map_eq_some_iff.mp (show (K.lookup D.fI).map (·.cls) = some (.type "function") from beq_iff_eq.mp D.isF)
    exact ⟨o, X _ _ ho, hc⟩
  have kk : ∀ b o, hh.get? b = some o → ((hh.push (PySem.W.kdv_tup us)).push (PySem.PX.excO C hh.objs.size)).get? b = some o := fun b o e => Heap.get?_push_of_some _ (Heap.get?_push_of_some _ e)
  have sz : ((hh.push (PySem.W.kdv_tup us)).push (PySem.PX.excO C hh.objs.size)).objs.size = hh.objs.size + 2 := by rw [Heap.size_push, Heap.size_push]
  have hget : ((hh.push (PySem.W.kdv_tup us)).push (PySem.PX.excO C hh.objs.size)).get? (hh.objs.size + 1) = some (PySem.PX.excO C hh.objs.size) := by
    have z := Heap.get?_push_size (hh.push (PySem.W.kdv_tup us)) (o := PySem.PX.excO C hh.objs.size) rfl
    rwa [Heap.size_push] at z
  obtain ⟨N0, iN, bmN, fb, hN0⟩ := T.nw
  have len : us.length ≤ sizeLine := by
    rcases hu with ⟨rfl, _⟩ | ⟨rfl, _⟩
    · show 1 ≤ sizeLine; decide
    · show 0 ≤ sizeLine; decide
  refine wpAny_call (PySem.PX.mir_call fb ((hT _).trans hN0) ((hT _).trans T.bA) ((hT _).trans T.bN) hC (PySem.W.looks_findIn X D.init) (fun self => PySem.W.exc_bind hoI hcI self) len (codeAny_mono (R := PySem.W.InitBack (hh.objs.size + 1) fun r s' => r = .ok (.ret (.ref (hh.objs.size + 1))) ∧ Q (.ref (hh.objs.size + 1)) s') ?_ fun r s' z => ?_))
  · refine ks_codeAny_call_defAt (s := ⟨_, gn, d, tk, os⟩) (fd := PySem.W.ksFn D.name D.qual D.params D.body D.scope D.dV D.kV D.dc D.pm D.an (.ref D.cda) D.ct D.cc) (body := D.body) (binds := [(("self" : Str), .ref (hh.objs.size + 1)), (par, v)]) room (kk _ _ (X _ _ D.hf)) rfl (lim.keeps kk)
      (PySem.W.codeRec_of (X.keeps kk) D.hrec) rfl (by rcases hu with ⟨rfl, rfl⟩ | ⟨rfl, rfl⟩; exact .of_eq (D.bind _ _); exact .of_eq (D.bindK _ _)) D.kCell (fun y hy => ?_) (fun h1 hns hk1 => ?_) D.kCo D.kGen D.kFn
    · simp at hy
      rcases hy with rfl | rfl
      · exact D.kSelf
      · exact D.kPar
    · have F1 : Fr hh ((hh.push (PySem.W.kdv_tup us)).push (PySem.PX.excO C hh.objs.size)).objs.size h1 _ := ⟨hns, fun b o e => hk1 b o (kk b o e), by rw [sz]; omega⟩
      have N1 : News hh ((hh.push (PySem.W.kdv_tup us)).push (PySem.PX.excO C hh.objs.size)).objs.size h1 [(hh.objs.size + 1, PySem.W.excObj C hh.objs.size none .none)] := fun p hp => by
        simp at hp
        subst hp
        refine ⟨hk1 _ _ hget, by rw [sz]; exact Nat.ne_of_lt (Nat.lt_succ_self _), ?_⟩
        cases z : hh.get? (hh.objs.size + 1) with
        | none => rfl
        | some o => exact absurd (Heap.lt_size z) (Nat.not_lt.mpr (Nat.le_succ _))
      refine x_body (s := ⟨h1, gn, d, _, os⟩) T D (e := hh.objs.size + 1) (v := v) F1 X N1 g gs bl bs ?_ ?_ fun t2 dx k tk' h' F' N2 lt => ?_
      · show List.lookup _ [(par, v), (("self" : Str), Value.ref (hh.objs.size + 1))] = _
        rw [List.lookup_cons]
        have : (("self" : Str) == par) = false := by
          have z := D.neP
          rw [beq_eq_false_iff_ne] at z ⊢
          exact Ne.symm z
        rw [this]
        simp
      · show List.lookup _ [(par, v), (("self" : Str), Value.ref (hh.objs.size + 1))] = _
        first | (rw [List.lookup_cons]; simp; done) | simp
      · exact ⟨rfl, rfl, h t2 dx k tk' h' F'.keep (N2 (hh.objs.size + 1, _) (by simp)).1 (N2 (dx, _) (by simp)).1 lt⟩
  · rcases r with x | f
    · cases z.1
    · cases f with
      | ret u =>
        obtain ⟨e, _, q⟩ := z
        exact ⟨e, q⟩
      | _ => exact z.elim
end
end Mir

namespace Mir
open PySem PySem.Spec PyProof.Rows L2
/-! ## raise C(e) -/
def tXc (C : Addr) (fld : Str) (te : TE) : St → Hp → XK → Prop := fun σ H Q => te σ H fun x H1 => ∀ dx, H1 dx = none → Q (.ref C) (some dx) (upd H1 dx (.xd [(fld, x)]))
theorem ns_one {h : Heap} {w : World} {dx : Addr} {fld : Str} {k : Nat} {v : Value} (e : h.get? dx = some (PySem.W.dictOf (xEs w fld k v) 1)) : h.Ns1 dx fun y => if y = fld then some v else none := by
  refine ⟨_, _, _, e, rfl, fun e he => ?_, ?_, fun y => ?_⟩
  · simp [xEs] at he
    subst he
    exact ⟨_, _, rfl⟩
  · show List.Pairwise _ _
    simp [xEs]
  · unfold nsFind findBy
    by_cases hy : y = fld
    · subst hy
      simp [xEs, Value.isStr]
    · have : (fld == y) = false := by
        rw [beq_eq_false_iff_ne]
        exact Ne.symm hy
      simp [xEs, Value.isStr, hy, this]
/-- the exception set apart: what is left of the heap, with its dict -/
theorem x_apart {X : Cx} {pins : List (Addr × Obj)} {σ : St} {H : Hp} {Q : XK} {hp h2 : Heap} {g : Array GenState} {d : Drawn} {tk tk' k : Nat} {os : OsState} {C t2 dx : Addr} {fld : Str} {x : V} {v : Value} (R : Raises X (.ref C)) (I : Inv X pins σ H ⟨hp, g, d, tk, os⟩) (rx : RelV x v)
    (kk : ∀ b o, hp.get? b = some o → h2.get? b = some o) (he : h2.get? (hp.objs.size + 1) = some (PySem.W.excObj C t2 (some dx) .none)) (hd : h2.get? dx = some (PySem.W.dictOf (xEs X.w fld k v) 1)) (lt : hp.objs.size + 1 < dx)
    (q : Q (.ref C) (some dx) (upd H dx (.xd [(fld, x)]))) : MkP X pins σ Q (.ref (hp.objs.size + 1)) ⟨h2, g, d, tk', os⟩ := by
  obtain ⟨G, g1, g2⟩ := restrict h2 fun b => decide (b ≠ hp.objs.size + 1)
  have gk : ∀ b, b ≠ hp.objs.size + 1 → G.get? b = h2.get? b := fun b hb => g1 b (decide_eq_true hb)
  have ge : G.get? (hp.objs.size + 1) = none := g2 _ (by simp)
  have old : ∀ b o, hp.get? b = some o → b ≠ hp.objs.size + 1 := fun b o e z => absurd (Heap.lt_size e) (by rw [z]; exact Nat.not_lt.mpr (Nat.le_succ _))
  have ns := ns_one (h := G) ((gk dx (Nat.ne_of_gt lt)).trans hd)
  have J : Inv X pins σ (upd H dx (.xd [(fld, x)])) ⟨G, g, d, tk', os⟩ := I.laid (t' := tk') (a := dx) (o := .xd [(fld, x)]) (h' := G) (fun b o e => (gk b (old b o e)).trans (kk b o e)) (Nat.le_of_lt (Nat.lt_of_succ_lt lt)) ⟨_, ns, fun f => by
    by_cases hf : f = fld
    · subst hf
      have z : RelO (some x) (some v) := rx
      simpa using z
    · have : (f == fld) = false := by
        rw [beq_eq_false_iff_ne]
        exact hf
      have z : List.lookup f [(fld, x)] = none := by simp [List.lookup, this]
      rw [z]
      simp only [if_neg hf]
      exact trivial⟩
  have nH : H (hp.objs.size + 1) = none := I.hok.fresh (Nat.le_succ _)
  refine ⟨_, _, _, ⟨G, g, d, tk', os⟩, _, .ref C, some dx, rfl, J, fun b o e => ?_, ge, he, ⟨rfl, rfl⟩, rfl, rfl, ?_, rfl, I.bare, R, q⟩
  · by_cases hb : b = hp.objs.size + 1
    · rw [hb, ge] at e
      cases e
    · exact (gk b hb).symm.trans e
  · rw [upd_ne (Nat.ne_of_lt lt)]
    exact nH
section
variable {X : Cx} {W : WX} {B i newId : String} {bmB : List Value} {Ca : Addr} {par fld C : Str} {e : Expr} {te : TE} {p pos pos' : Pos} {k : Nat}
/-- an own exception of the program, named C in the main module -/
structure ExcN (X : Cx) (C : Str) (Ca : Addr) : Prop where
  at_ : X.mg C = some (.ref Ca)
  cn : ClsN X.K C Ca
  kp : PySem.W.keepIn X.K (.ref Ca) = true
  base : PySem.W.subIn X.K (.ref Ca) (.type "BaseException") = some true
  ty : PySem.W.typeIn X.K (.ref Ca) = some (.type "type")
theorem pmk_x (T : ExcB0 B i newId bmB) (D : ExcK X.prog X.K Ca par fld B i newId bmB) (N : ExcN X C Ca) (hr : Room (k + 1) X.A) (gs : X.mg "super" = none) (he : PE X e te) (hg : Gl X C := by rfl) (hdb : (C == ("__debug__" : Str)) = false := by decide)
    (hst : starEach [e] X.env = (false, eval e X.env) :: starEach [] X.env := by rfl) : PMk X (.Call (.Name C p) [e] [] pos) (tXc Ca fld te) := by
  intro pins s σ H Q I h
  refine wpAny_Call_Name_kw (ld_glob I hg N.at_ ?_ hdb)
  refine PySem.W.callWith_K (h₀ := X.base) I.ok.mod.kin N.kp (thn ((pa_cons he pa_nil hst).run pos pins s σ H (fun vs H1 => match vs with
      | [x] => ∀ dx, H1 dx = none → Q (.ref Ca) (some dx) (upd H1 dx (.xd [(fld, x)]))
      | _ => False) I h) fun us s1 ⟨vs, H1, I1, r, q⟩ => ⟨I1.kIn, ?_⟩) hst rfl
  match vs, q with
  | [x], q =>
      obtain ⟨v, rfl, rx⟩ := vals1 r
      obtain ⟨hp, g, d, tk, os⟩ := s1
      obtain ⟨mb, hb1, hb2⟩ := I1.ok.mod.blt
      have hroom : (X.A.under (.builtin "type.__call__" ⟨[.ref Ca, v], []⟩)).depth < recursionLimit := by
        have := hr.dp
        rw [make_depth]
        omega
      refine x_call T D (.inl ⟨rfl, rfl⟩) I1.kIn I1.nolimit (I1.ok.mod.glob.keeps I1.bk) gs (hb1.keeps I1.bk) ((hb2 _ (by decide)).trans rfl) hroom fun t2 dx kz tk' h' k1 k2 k3 k4 => ?_
      exact x_apart (raises_own N.base N.ty) I1 rx k1 k2 k3 k4 (q dx (I1.hok.fresh (Nat.le_of_lt (Nat.lt_of_succ_lt k4))))
end
end Mir

namespace Mir
open PySem PySem.Spec PyProof.Rows L2
/-! ## the built-in bases -/
theorem b_value : ExcB0 "ValueError" "ValueError.__init__" "ValueError.__new__" [.type "ValueError", .type "Exception", .type "BaseException", .type "object"] := .of PySem.W.kxs_ValueError PySem.F.excBase_ValueError PySem.F.store_ValueError
theorem b_overflow : ExcB0 "OverflowError" "OverflowError.__init__" "OverflowError.__new__" [.type "OverflowError", .type "ArithmeticError", .type "Exception", .type "BaseException", .type "object"] := .of PySem.W.kxs_OverflowError PySem.F.excBase_OverflowError PySem.F.store_OverflowError
theorem b_runtime : ExcB0 "RuntimeError" "RuntimeError.__init__" "RuntimeError.__new__" [.type "RuntimeError", .type "Exception", .type "BaseException", .type "object"] := .of PySem.W.kxs_RuntimeError PySem.F.excBase_RuntimeError PySem.F.store_RuntimeError
/-! ## what is not reached -/
variable {X : Cx} {W : WX}
theorem ds_no {st : Stmt} : DS X W st (fun _ => none) := ⟨fun pins s σ H D I h => by
  obtain ⟨S, env, o, e', _, h, _⟩ := h
  cases h⟩
theorem de_no {e : Expr} : DE X W e (fun _ => none) := ⟨fun pins s σ H D I h => by
  obtain ⟨S, env, o, e', _, h, _⟩ := h
  cases h⟩
theorem df_no {e : Expr} : DF X W e (fun _ => none) := ⟨fun pins s σ H D I h => by
  obtain ⟨S, env, o, e', _, h, _⟩ := h
  cases h⟩
theorem dt_no {e : Expr} : DT X W e (fun _ => none) := ⟨fun pins s σ H D I h => by
  obtain ⟨S, env, o, e', _, h, _⟩ := h
  cases h⟩
theorem db_no {st : List Stmt} : DB X W st (fun _ => none) := ⟨fun pins s σ H D I h => by
  obtain ⟨S, env, o, e', _, h, _⟩ := h
  cases h⟩
/-! ## raise C(e) -/
def sRaise (C fld : Str) (fe : EF D) : SF := sBind fe fun d e => some (.ex (.own C [(fld, d)]), e)
theorem ds_raise {B i newId : String} {bmB : List Value} {Ca : Addr} {par fld C : Str} {e : Expr} {fe : EF D} {p pos pos' : Pos} {k : Nat} (hc : X.calm = true) (tk : Takes X W) (T : ExcB0 B i newId bmB) (Df : ExcK X.prog X.K Ca par fld B i newId bmB) (N : ExcN X C Ca) (hr : Room (k + 1) X.A) (gs : X.mg "super" = none)
    (he : DE X W e fe) (hg : Gl X C := by rfl) (hdb : (C == ("__debug__" : Str)) = false := by decide) (hst : starEach [e] X.env = (false, eval e X.env) :: starEach [] X.env := by rfl) : DS X W (.Raise (some (.Call (.Name C p) [e] [] pos')) none pos) (sRaise C fld fe) := by
  refine ps_imp (ps_raise hc tk (pmk_x T Df N hr gs he hg hdb hst)) ?_
  rintro Dn σ H ⟨S, env, z⟩
  refine ⟨S, env, (AtS.bind (R := RD X.K) z).imp fun x H1 ⟨d, S1, e1, rd, st, z1⟩ => ?_⟩
  intro dx hdx
  have sa := z1.choose_spec.choose_spec.1.alloc (o := .xd [(fld, x)]) hdx
  exact z1.end rfl sa (.ref Ca) (some dx) ⟨Ca, N.cn, rfl, dx, [(fld, x)], rfl, upd_same, x, [], rfl, rd.mono sa.le, rfl⟩
end Mir

namespace Mir
open PySem PySem.Spec PyProof.Rows L2
/-! ## sorted texts -/
def leS (a b : Str) : Bool := !ltCps b.cps.toList a.cps.toList
theorem leS_iff (a b : Str) : leS a b = true ↔ ¬ b.cps.toList < a.cps.toList := by
  unfold leS
  rw [ltCps_eq]
  simp
theorem leS_trans (a b c : Str) (h : leS a b = true) (h' : leS b c = true) : leS a c = true := by
  rw [leS_iff] at *
  exact List.le_trans h h'
theorem leS_total (a b : Str) : (leS a b || leS b a) = true := by
  rw [Bool.or_eq_true, leS_iff, leS_iff]
  exact List.le_total a.cps.toList b.cps.toList
theorem str_ext {a b : Str} (h : a.cps.toList = b.cps.toList) : a = b := by
  obtain ⟨x⟩ := a
  obtain ⟨y⟩ := b
  have : x = y := Array.toList_inj.mp h
  rw [this]
theorem leS_anti {a b : Str} (h : leS a b = true) (h' : leS b a = true) : a = b := by
  rw [leS_iff] at *
  exact str_ext (List.le_antisymm h h')
theorem rising_pw : ∀ (p : Str) (l : List Str), risingS p l = true → (p :: l).Pairwise (fun a b => leS a b = true)
  | p, [], _ => by simp
  | p, x :: r, h => by
    obtain ⟨h1, h2⟩ := Bool.and_eq_true_iff.mp (show (!ltCps x.cps.toList p.cps.toList && risingS x r) = true from h)
    have ih := rising_pw x r h2
    refine List.pairwise_cons.mpr ⟨fun y hy => ?_, ih⟩
    rcases List.mem_cons.mp hy with rfl | hy
    · exact h1
    · exact leS_trans p x y h1 ((List.pairwise_cons.mp ih).1 y hy)
theorem sorted_pw : ∀ (l : List Str), sortedS l = true → l.Pairwise (fun a b => leS a b = true)
  | [], _ => List.Pairwise.nil
  | x :: r, h => rising_pw x r h
theorem pw_unique : ∀ {l m : List Str}, l.Perm m → l.Pairwise (fun a b => leS a b = true) → m.Pairwise (fun a b => leS a b = true) → l = m
  | [], m, h, _, _ => h.nil_eq
  | x :: l, [], h, _, _ => (h.symm.nil_eq).symm
  | x :: l, y :: m, h, h1, h2 => by
    have hx : x ∈ y :: m := h.subset List.mem_cons_self
    have hy : y ∈ x :: l := h.symm.subset List.mem_cons_self
    have e : x = y := by
      rcases List.mem_cons.mp hx with e | hx
      · exact e
      · rcases List.mem_cons.mp hy with e | hy
        · exact e.symm
        · exact leS_anti ((List.pairwise_cons.mp h1).1 y hy) ((List.pairwise_cons.mp h2).1 x hx)
    subst e
    rw [pw_unique ((List.perm_cons x).mp h) (List.pairwise_cons.mp h1).2 (List.pairwise_cons.mp h2).2]
/-- a list of texts in order -/
def putS (x : Str) : List Str → List Str
  | [] => [x]
  | y :: r => if leS x y = true then x :: y :: r else y :: putS x r
def srt : List Str → List Str
  | [] => []
  | x :: l => putS x (srt l)
theorem putS_perm (x : Str) : ∀ l : List Str, (putS x l).Perm (x :: l)
  | [] => List.Perm.refl _
  | y :: r => by
    unfold putS
    split
    · exact List.Perm.refl _
    · exact ((putS_perm x r).cons y).trans (List.Perm.swap x y r)
theorem srt_perm : ∀ l : List Str, (srt l).Perm l
  | [] => List.Perm.refl _
  | x :: l => (putS_perm x (srt l)).trans ((srt_perm l).cons x)
theorem putS_pw (x : Str) : ∀ l : List Str, l.Pairwise (fun a b => leS a b = true) → (putS x l).Pairwise (fun a b => leS a b = true)
  | [], _ => by simp [putS]
  | y :: r, h => by
    obtain ⟨h1, h2⟩ := List.pairwise_cons.mp h
    unfold putS
    split
    · rename_i hx
      exact List.pairwise_cons.mpr ⟨fun z hz => by
        rcases List.mem_cons.mp hz with rfl | hz
        · exact hx
        · exact leS_trans x y z hx (h1 z hz), h⟩
    · rename_i hx
      refine List.pairwise_cons.mpr ⟨fun z hz => ?_, putS_pw x r h2⟩
      rcases List.mem_cons.mp ((putS_perm x r).subset hz) with rfl | hz
      · have := leS_total y z
        rw [Bool.or_eq_true] at this
        rcases this with q | q
        · exact q
        · exact absurd q hx
      · exact h1 z hz
theorem srt_pw : ∀ l : List Str, (srt l).Pairwise (fun a b => leS a b = true)
  | [] => List.Pairwise.nil
  | x :: l => putS_pw x (srt l) (srt_pw l)
theorem srt_of {l m : List Str} (h : m.Perm l) (hs : sortedS m = true) : m = srt l := pw_unique (h.trans (srt_perm l).symm) (sorted_pw m hs) (srt_pw l)
theorem srt_eq {l m : List Str} (h : l.Perm m) : srt l = srt m := pw_unique ((srt_perm l).trans (h.trans (srt_perm m).symm)) (srt_pw l) (srt_pw m)
/-- sorted(xs), xs a list of fewer than 64 texts: a new list -/
def oSrt : D → Option D
  | .lst ds => match dStrs ds with
    | some xs => if xs.length < 64 then some (.lst ((srt xs).map .str)) else none
    | none => none
  | _ => none
theorem reps_strs {K : PySem.W.Frag} {S : Hp} : ∀ {xs : List Str}, (∀ x ∈ xs, x.length ≤ sizeLine) → Reps K S (xs.map .str) (xs.map V.str)
  | [], _ => rfl
  | x :: xs, h => ⟨.str x, _, rfl, ⟨rfl, h x List.mem_cons_self⟩, reps_strs fun y hy => h y (List.mem_cons_of_mem _ hy)⟩
theorem de_srt {X : Cx} {W : WX} {p pos : Pos} {e : Expr} {es : List Expr} {fas : EF (List AV)} (hm : X.mg "sorted" = none) (ha : DA X W (e :: es) fas) (hg : Gl X "sorted" := by rfl) (he : starEach (e :: es) X.env = (false, eval e X.env) :: starEach es X.env := by rfl) (hpl : (backTo pos (starEach es X.env)).any (·.1) = false := by rfl) :
    DE X W (.Call (.Name "sorted" p) (e :: es) [] pos) (eBind fas (g1 fun a => eOn a oSrt)) := by
  refine de_callB cr_sortedS hm rfl ha (fun S env σ H Q as vs rv z => ?_) hg (he := he) (hpl := hpl)
  obtain ⟨a, v, rfl, ra, z⟩ := z.g1 rv
  obtain ⟨d, x, r1, ho, rel, q⟩ := z.on ra
  cases d with
  | lst ds =>
    unfold oSrt at ho
    dsimp only at ho
    split at ho
    · rename_i xs hx
      split at ho
      · rename_i h64
        cases ho
        obtain ⟨b, ws, rfl, hH, hl, hlen, rr⟩ := r1
        obtain ⟨ev, hl2, hb⟩ := dStrs_v hx rr
        subst ev
        refine ⟨b, xs, rfl, .inl (.inl hH), h64, fun ys p hp hs hn => ?_⟩
        have hy := srt_of hp hs
        subst hy
        have al := rel.alloc (o := .lst ((srt xs).map V.str)) hn
        refine q _ _ al _ ⟨p, _, rfl, upd_same, ?_, reps_strs fun y hy => hb y ((srt_perm xs).subset hy)⟩
        rw [List.length_map, (srt_perm xs).length_eq]
        exact small_le (by omega)
      · cases ho
    · cases ho
  | _ => cases ho
end Mir

namespace Mir
open PySem PySem.Spec PyProof.Rows L2
section
variable {X : Cx} {W : WX}
/-! ## x, y = a, b -/
def sPar (i j : Nat) (fa : EF D) (fb : EF FR) : SF := sBind fa fun d => sBind fb fun r => sSeq (putV i d) (putF j r)
theorem AtS.seqNx {K : PySem.W.Frag} {S : Hp} {env : ME} {σ : St} {H : Hp} {Dn : Ends} {i : Nat} {d : D} {v : V} {g : SF} (z : AtS K W (sSeq (putV i d) g) S env σ H Dn) (r : Rep K S d v) : ∃ env', AtS K W g S env' (σ.set i (some v)) H Dn := by
  obtain ⟨o, e', rel, e, q⟩ := z
  unfold sSeq putV at e
  cases hb : isB env i with
  | true => rw [hb] at e; cases e
  | false =>
    rw [hb] at e
    have st := rel.setV (notB_of hb) r
    exact ⟨_, o, e', st.rel, e, fun S' σ' H' st' => q S' σ' H' (st.trans st')⟩
theorem ds_par (i j : Nat) {x y : Str} {a b : Expr} {fa : EF D} {fb : EF FR} {px py pt pos : Pos} {kt k2 pt2} (hc : X.calm = true) (hN : X.N.Nodup) (ha : DE X W a fa) (hb : DF X W b fb) (hi : X.N[i]? = some x := by rfl) (hj : X.N[j]? = some y := by rfl) (hij : i ≠ j := by decide)
    (hx : X.env.scope.names.lookup x = some .local := by rfl) (hy : X.env.scope.names.lookup y = some .local := by rfl) (hw : swappedStores [.Tuple [.Name x px, .Name y py] kt pt] (.Tuple [a, b] k2 pt2) X.env = pure (some [x, y]) := by rfl)
    (hs : swapsWithSole [.Tuple [.Name x px, .Name y py] kt pt] (.Tuple [a, b] k2 pt2) pos.line X.env = pure false := by rfl) (he : starEach [a, b] X.env = (false, eval a X.env) :: starEach [b] X.env := by rfl) (he2 : starEach [b] X.env = (false, eval b X.env) :: starEach [] X.env := by rfl) :
    DS X W (.Assign [.Tuple [.Name x px, .Name y py] kt pt] (.Tuple [a, b] k2 pt2) pos) (sPar i j fa fb) := by
  refine ps_imp (ps_par hc hN hi hj hij hx hy (pa_cons ha (pa_cons hb pa_nil he2) he) hw hs) ?_
  rintro Dn σ H ⟨S, env, z⟩
  refine ⟨S, env, (AtS.bind (R := RD X.K) z).imp fun v H1 ⟨d, S1, e1, rd, st, z1⟩ => ?_⟩
  obtain ⟨o, e', rel, e, q⟩ := z1
  unfold sBind at e
  refine ⟨S1, e1, ?_⟩
  cases ef : fb e1 with
  | none => rw [ef] at e; cases e
  | some p =>
    obtain ⟨r1, e2⟩ := p
    rw [ef] at e
    cases r1 with
    | ex x =>
      have e' : some (Out.ex x, e2) = some (o, e') := e
      cases e'
      exact ⟨.ex x, _, rel, ef, fun S' H' st => q S' σ H' st⟩
    | ok r =>
      refine ⟨.ok r, e2, rel, ef, fun S2 H2 st2 => ?_⟩
      have z2 : AtS X.K W (sSeq (putV i d) (putF j r)) S2 e2 σ H2 Dn := ⟨o, e', st2.rel, e, fun S' σ' H' st' => q S' σ' H' (st2.trans st')⟩
      obtain ⟨e3, z3⟩ := z2.seqNx (Rep.mono st2.le _ _ rd)
      have w := putF_end z3
      cases r with
      | d d' => exact fun u hu => ⟨v, u, rfl, w u hu⟩
      | o m => exact fun p o hp ho => ⟨v, .ref p, rfl, w p o hp ho⟩
/-! ## str(x) of a text -/
def oStr : D → Option D
  | .str x => some (.str x)
  | _ => none
theorem de_str1 {p pos : Pos} {e : Expr} {es : List Expr} {fas : EF (List AV)} (hm : X.mg "str" = none) (ha : DA X W (e :: es) fas) (hg : Gl X "str" := by rfl) (he : starEach (e :: es) X.env = (false, eval e X.env) :: starEach es X.env := by rfl) (hpl : (backTo pos (starEach es X.env)).any (·.1) = false := by rfl) :
    DE X W (.Call (.Name "str" p) (e :: es) [] pos) (eBind fas (g1 fun a => eOn a oStr)) := by
  refine de_callTy SkE.call_str_str hm (by decide +kernel) ha (fun S env σ H Q as vs rv z => ?_) hg (he := he) (hpl := hpl)
  obtain ⟨a, v, rfl, ra, z⟩ := z.g1 rv
  obtain ⟨d, x, r1, ho, rel, q⟩ := z.on ra
  cases d with
  | str y =>
    cases ho
    obtain ⟨rfl, hl⟩ := r1
    exact ⟨y, rfl, q S H rel.step _ ⟨rfl, hl⟩⟩
  | _ => cases ho
end
end Mir

namespace Mir
open PySem PySem.Spec PyProof.Rows L2
section
variable {X : Cx} {W : WX}
/-! ## *e within a display or a call -/
def itemsOf : D → Option (List D)
  | .tup ds => some ds
  | .lst ds => some ds
  | .frl ds => some ds
  | _ => none
def kStar (g : EF (List AV)) (a : AV) : EF (List AV) := eBind (eOn a itemsOf) fun ds => eBind g fun as => eRet (ds.map .d ++ as)
def eStar (f : EF AV) (g : EF (List AV)) : EF (List AV) := eBind f (kStar g)
theorem da_star {e : Expr} {es : List Expr} {p : Pos} {f : EF AV} {g : EF (List AV)} (ha : DV X W e f) (hr : DA X W es g) (hs : starEach (.Starred e p :: es) X.env = (true, eval e X.env) :: starEach es X.env := by rfl) : DA X W (.Starred e p :: es) (eStar f g) := by
  refine pa_imp (StX.pa_star ha hr hs) ?_
  rintro σ H Q ⟨S, env, z⟩
  refine ⟨S, env, (At.bind (R := RAv X.K) z).imp fun v H1 ⟨a, S1, e1, ra, st, z1⟩ => ?_⟩
  unfold kStar at z1
  obtain ⟨r, e', rel, ef, q⟩ := z1
  rw [eBind_k, eOn_k] at ef
  cases hv : viewA a e1 with
  | none => rw [hv] at ef; cases ef
  | some d =>
    rw [hv, kO_some] at ef
    cases hd : itemsOf d with
    | none => rw [hd] at ef; cases ef
    | some ds =>
      rw [hd, kR_some, kB_ok] at ef
      have r1 := view_one rel ra hv
      obtain ⟨b, xs, rfl, hH, hr1⟩ : ∃ b xs, v = .ref b ∧ (SqT X.K H1 b xs ∨ SqL X.K H1 b xs) ∧ Reps X.K S1 ds xs := by
        cases d with
        | tup ys =>
          cases hd
          obtain ⟨b, xs, rfl, hT, _, _, rr, _⟩ := r1
          exact ⟨b, xs, rfl, .inl hT.sq, rr⟩
        | lst ys =>
          cases hd
          obtain ⟨b, xs, rfl, hT, _, _, rr⟩ := r1
          exact ⟨b, xs, rfl, .inr (.inl (.inl hT)), rr⟩
        | frl ys =>
          cases hd
          obtain ⟨b, xs, rfl, hT, _, _, rr⟩ := r1
          exact ⟨b, xs, rfl, .inr hT, rr⟩
        | _ => cases hd
      refine ⟨b, xs, rfl, hH, S1, e1, ?_⟩
      have z2 : At X.K W (RAl X.K) (eBind g fun as => eRet (ds.map .d ++ as)) S1 e1 σ H1 Q := ⟨r, e', rel, ef, q⟩
      refine (At.bind (R := RAl X.K) z2).imp fun ys H2 ⟨as, S2, e2, rv, st2, z3⟩ => ?_
      exact z3.ret (R := RAl X.K) (ras_app (ras_d (Reps.mono st2.le _ _ hr1)) rv)
end
end Mir

namespace Mir
open PySem PySem.Spec PyProof.Rows L2
section
variable {X : Cx} {W : WX}
/-! ## x += e, ints -/
def gAddI (x y : D) : EF D := match x, y with
  | .int i, .int j => eRet (.int (i + j))
  | _, _ => fun _ => none
theorem ds_augAdd (i : Nat) {x : Str} {e : Expr} {f : EF D} {pos pos' : Pos} (hN : X.N.Nodup) (he : DE X W e f) (hi : X.N[i]? = some x := by rfl) (hx : Loc X.env.scope x := by first | exact Or.inl rfl | exact Or.inr rfl) (hf : X.fn x = true ∨ X.env.scope.names.lookup x = some .local := by first | exact .inl rfl | exact .inr rfl | assumption) :
    DS X W (.AugAssign (.Name x pos') .Add e pos) (sAug i f gAddI) := by
  refine ds_aug i hN he ip_add (fun S env σ H Q a b va vb ra rb z => ?_) hi hx hf
  cases a with
  | int m =>
    cases b with
    | int n =>
      cases (show va = V.int m from ra)
      cases (show vb = V.int n from rb)
      exact ⟨m, n, rfl, rfl, z.ret rfl⟩
    | _ => exact (z.none rfl).elim
  | _ => cases b <;> exact (z.none rfl).elim
end
end Mir

namespace Mir
open PySem PySem.Spec PyProof.Rows L2
section
variable {X : Cx} {W : WX} {k j n : Nat} {f Ca : Addr} {fd : FuncData} {ps : List Str} {mf : MF} {C : Str} {sp : Sp}
/-! ## a def of the class, called by an operator -/
theorem run_at {XT : CXT} {A' : Around} {E : XK} {pn : List (Addr × Obj)} {σ : St} {h0 : Hp} {s0 : Shared} {G : VK} {us : List Value} {vs : List V} (F : FnOk X.prog X.w X.K X.mg X.base XT k f fd ps sp) (room : Room k A') (fr : A'.frames = X.A.frames) (bd : Binds X.K fd ps [])
    (hx : PassesAt XT X σ E) (inv : Inv X pn σ h0 s0) (rv : Vals vs us) (hsp : sp vs h0 G E) : wpAny (model X.prog X.w) A' (call (.ref f) us) (EP X pn σ G) X.xe s0 := by
  have many : (us ++ []).length = ps.length := by
    rw [List.append_nil, ← rv.length]
    exact F.len _ _ _ _ hsp
  have at0 : Env0 X.prog X.w X.K X.mg X.base A' X.stack s0 h0 := ⟨by rw [fr]; exact inv.env0.frames, inv.env0.mod, inv.env0.bs, inv.env0.bsz, inv.env0.funs, inv.env0.frf, inv.env0.hok, inv.env0.bare⟩
  have bound : BindsTo s0 fd ⟨us, []⟩ (ps.zip us) := by
    have z := bd s0 us inv.kIn many
    rwa [List.append_nil] at z
  refine wpAny_call (codeAny_mono (F.run A' X.stack s0 h0 ⟨us, []⟩ us vs G E room at0 bound rv hsp) fun r s2 hr => ?_)
  match r, hr with
  | .error e, hr => exact hx pn h0 s0 e s2 inv hr
  | .ok (.ret u), hr => exact inv.after hr
  | .ok .next, hr => exact hr.elim
  | .ok .brk, hr => exact hr.elim
  | .ok .cont, hr => exact hr.elim
/-! ## len(e), e an instance with its own def for it -/
structure Dun (K : PySem.W.Frag) (Ca f : Addr) (nm : Str) : Prop where
  at_ : PySem.W.findIn K (.ref Ca) nm = some (some (.ref f))
  fn : PySem.W.isFn K (.ref f) = true
def kLenI (C : Str) (mf : MF) (a : AV) : EF D := fun env => match viewA a env with
  | some (.ins c _) => if c = C then match kCall mf [a] env with
    | some (.ok (.d (.int i)), e) => if 0 ≤ i ∧ i < 2 ^ 63 then some (.ok (.int i), e) else none
    | some (.ex x, e) => some (.ex x, e)
    | _ => none
  else none
  | _ => none
theorem kcall_sp {K : PySem.W.Frag} {S : Hp} {env env' : ME} {σ : St} {H : Hp} {as : List AV} {vs : List V} {r : Res FR} {Q : VK} {E : XK} (rel : Rel K S env σ H) (ra : RAs K σ S as vs) (hlen : as.length = n) (e : kCall mf as env = some (r, env'))
    (q : ∀ S' H', Step K S env σ H S' env' σ H' → PostF K Q E r S' H') : spM K n mf vs H Q E := by
  unfold kCall at e
  split at e
  · rename_i hn
    cases hl : lend env as with
    | none => rw [hl] at e; cases e
    | some sl =>
      rw [hl] at e
      cases hm : mf sl with
      | none => rw [Option.bind_some, hm] at e; cases e
      | some p =>
        obtain ⟨r0, sl'⟩ := p
        rw [Option.bind_some, hm] at e
        cases r0 with
        | ok a =>
          rw [kC_ok] at e
          cases e
          exact call_sp rel ra hn hl hlen hm q
        | ex x =>
          rw [kC_ex] at e
          cases e
          exact call_sp rel ra hn hl hlen hm q
  · cases e
def tLenI (Ca : Addr) (sp : Sp) (E : St → XK) (te : TE) : TE := fun σ H Q => te σ H fun x H1 => ∃ a dx fs, x = .ref a ∧ H1 a = some (.ins Ca dx fs) ∧ sp [x] H1 (fun v H2 => ∃ i, v = .int i ∧ 0 ≤ i ∧ i < 2 ^ 63 ∧ Q (.int i) H2) (E σ)
theorem de_lenI {e : Expr} {fe : EF AV} {p pos : Pos} (tk : TkC X W) (hm : X.mg "len" = none) (he : DV X W e fe) (cn : ClsN X.K C Ca) (D : Dun X.K Ca f "__len__") (F : FnOk X.prog X.w X.K X.mg X.base (L2.CX X.prog X.w) k f fd ps (spM X.K 1 mf)) (hb : Binds X.K fd ps []) (hr : Room j X.A) (hj : k + 1 ≤ j)
    (hg : Gl X "len" := by rfl) (hs : starEach [e] X.env = (false, eval e X.env) :: starEach [] X.env := by rfl) : DE X W (.Call (.Name "len" p) [e] [] pos) (eBind fe (kLenI C mf)) := by
  have base : PE X (.Call (.Name "len" p) [e] [] pos) (tLenI Ca (spM X.K 1 mf) (fun σ cls dd H => W cls dd σ H) (tr X.K W (RAv X.K) fe)) := by
    refine ⟨fun pn s σ H Q inv h => wpAny_Call_Name_kw (ld_blt inv hg hm PySem.boot_len ?_ (by decide) (by decide))⟩
    refine PyProof.Rows.callWith_builtin1 (thn ((pa_cons he pa_nil hs).run pos pn s σ H (fun vs H1 => match vs with
      | [x] => ∃ a dx fs, x = .ref a ∧ H1 a = some (.ins Ca dx fs) ∧ spM X.K 1 mf [x] H1 (fun v H2 => ∃ i, v = .int i ∧ 0 ≤ i ∧ i < 2 ^ 63 ∧ Q (.int i) H2) (fun cls dd H2 => W cls dd σ H2)
      | _ => False) inv h) fun us s1 ⟨vs, H1, I1, r, q⟩ => ?_) hs rfl
    match vs, q with
    | [x], q =>
      obtain ⟨u, rfl, ru⟩ := vals1 r
      obtain ⟨a, dx, fs, rfl, ha, hsp⟩ := q
      obtain rfl : u = Value.ref a := ru
      obtain ⟨mA, J, _⟩ := ins_get I1.hok ha
      obtain ⟨od, J, _⟩ := J.look
      obtain ⟨m, fr⟩ := I1.fr
      refine PySem.W.len_K fr I1.ok.mod.kin J D.at_ D.fn ?_
      refine wpAny_mono (run_at F ((hr.mono hj).in1) rfl hb (tk σ) I1 (vs := [V.ref a]) (.cons rfl .nil) hsp) (fun r s2 ⟨v, H2, I2, rv, i, ev, h0, h1, q2⟩ => ?_) fun _ _ z => z
      subst ev
      obtain ⟨t, rfl⟩ := rv
      exact ⟨⟨h0, h1⟩, .int i, H2, I2.tok _, ⟨_, rfl⟩, q2⟩
  refine pe_imp base ?_
  rintro σ H Q ⟨S, env, z⟩
  refine ⟨S, env, (At.bind (R := RAv X.K) z).imp fun x H1 ⟨a, S1, e1, ra, st, z1⟩ => ?_⟩
  obtain ⟨r, env', rel, ef, q⟩ := z1
  unfold kLenI at ef
  split at ef
  · rename_i c fs hv
    split at ef
    · rename_i hc
      subst hc
      obtain ⟨Ca', a', dx, fv, cn', rfl, hH, rf⟩ := view_one rel ra hv
      have hca := cn'.inj cn
      subst hca
      refine ⟨a', dx, fv, rfl, hH, ?_⟩
      split at ef
      · rename_i i e2 hk
        split at ef
        · rename_i hi
          cases ef
          exact kcall_sp (as := [a]) (vs := [V.ref a']) rel ⟨.ref a', [], rfl, ra, rfl⟩ rfl hk fun S' H' st' v rv => ⟨i, rv, hi.1, hi.2, q S' H' st' _ rfl⟩
        · cases ef
      · rename_i x e2 hk
        cases ef
        exact kcall_sp (as := [a]) (vs := [V.ref a']) rel ⟨.ref a', [], rfl, ra, rfl⟩ rfl hk fun S' H' st' => q S' H' st'
      · cases ef
    · cases ef
  · cases ef
end
end Mir

namespace Mir
open PySem PySem.Spec PyProof.Rows L2
section
variable {X : Cx} {W : WX} {k j n : Nat} {f Ca : Addr} {fd : FuncData} {ps : List Str} {mf : MF} {C : Str}
/-! ## operators that may raise: what is wished for may depend on the slots -/
abbrev RW2 := St → V → V → Hp → VK → Prop
def OpW (X : Cx) (op : Value → Value → Sem Value) (r : RW2) : Prop := ∀ (pn : List (Addr × Obj)) (s : Shared) (σ : St) (H : Hp) (x y : V) (v u : Value) (Q : VK), Inv X pn σ H s → RelV x v → RelV y u → r σ x y H Q → wpAny (model X.prog X.w) X.A (op v u) (EP X pn σ Q) X.xe s
def tOpW (r : RW2) (ta tb : TE) : TE := fun σ H Q => ta σ H fun x H1 => tb σ H1 fun y H2 => r σ x y H2 Q
theorem pe_opW {op : Operator} {r : RW2} {a b : Expr} {ta tb : TE} {pos : Pos} (ho : OpW X (binaryOp op) r) (ha : PE X a ta) (hb : PE X b tb) : PE X (.BinOp a op b pos) (tOpW r ta tb) :=
  ⟨fun pn s σ H Q I h => wpAny_BinOp (thn (ha.run pn s σ H _ I h) fun v s1 ⟨x, H1, I1, r1, q1⟩ => thn (hb.run pn s1 σ H1 _ I1 q1) fun u s2 ⟨y, H2, I2, r2, q2⟩ => ho pn s2 σ H2 x y v u Q I2 r1 r2 q2)⟩
theorem pe_cmpW {op : CmpOp} {r : RW2} {a b : Expr} {ta tb : TE} {pos : Pos} (ho : OpW X (compareOp op) r) (ha : PE X a ta) (hb : PE X b tb) (hm : behindInMarks op b = false) : PE X (.Compare a [op] [b] pos) (tOpW r ta tb) :=
  ⟨fun pn s σ H Q I h => wpAny_Compare1 (thn (ha.run pn s σ H _ I h) fun v s1 ⟨x, H1, I1, r1, q1⟩ => thn (hb.run pn s1 σ H1 _ I1 q1) fun u s2 ⟨y, H2, I2, r2, q2⟩ => ho pn s2 σ H2 x y v u Q I2 r1 r2 q2) hm⟩
theorem pt_cmpW {op : CmpOp} {r : RW2} {a b : Expr} {ta tb : TE} {pos : Pos} (ho : OpW X (compareOp op) r) (ha : PE X a ta) (hb : PE X b tb) (hm : behindInMarks op b = false) : PT X (.Compare a [op] [b] pos) (tTest (tOpW r ta tb)) := by
  refine ⟨fun pn s σ H Q I h => wpAny_isTrue_Compare1 (thn (ha.run pn s σ H _ I h) fun v s1 ⟨x, H1, I1, r1, q1⟩ => thn (hb.run pn s1 σ H1 _ I1 q1) fun u s2 ⟨y, H2, I2, r2, q2⟩ => thn (ho pn s2 σ H2 x y v u _ I2 r1 r2 q2) fun c s3 ⟨z, H3, I3, r3, kk, ez, q3⟩ => ?_) hm⟩
  subst ez
  cases r3
  exact wpAny_truthy_bool ⟨H3, I3, q3⟩
/-! ## x in e, x not in e: e an instance with its own def for it -/
def rInI (Ca : Addr) (sp : Sp) (E : St → XK) (neg : Bool) : RW2 := fun σ x y H Q => ∃ a dx fs, y = .ref a ∧ H a = some (.ins Ca dx fs) ∧ sp [y, x] H (fun v H2 => ∃ b : Bool, v = .bl b ∧ Q (.bl (b != neg)) H2) (E σ)
theorem op_inI (tk : TkC X W) (D : Dun X.K Ca f "__contains__") (F : FnOk X.prog X.w X.K X.mg X.base (L2.CX X.prog X.w) k f fd ps (spM X.K 2 mf)) (hb : Binds X.K fd ps []) (hr : Room j X.A) (hj : k ≤ j) :
    OpW X (compareOp .In) (rInI Ca (spM X.K 2 mf) (fun σ cls dd H => W cls dd σ H) false) := by
  intro pn s σ H x y v u Q I rx ry h
  obtain ⟨a, dx, fs, rfl, ha, hsp⟩ := h
  obtain rfl : u = Value.ref a := ry
  obtain ⟨mA, J, _⟩ := ins_get I.hok ha
  obtain ⟨od, J, _⟩ := J.look
  obtain ⟨m, fr⟩ := I.fr
  refine PySem.W.in_K fr I.ok.mod.kin J D.at_ D.fn ?_
  refine wpAny_mono (run_at F (hr.mono hj) rfl hb (tk σ) I (vs := [V.ref a, x]) (.cons rfl (.cons rx .nil)) hsp) (fun r s2 ⟨w, H2, I2, rv, b, ev, q2⟩ => ?_) fun _ _ z => z
  subst ev
  obtain rfl : r = Value.bool b := rv
  exact wpAny_truthy_bool ⟨.bl b, H2, I2, rfl, by simpa using q2⟩
theorem op_notInI (tk : TkC X W) (D : Dun X.K Ca f "__contains__") (F : FnOk X.prog X.w X.K X.mg X.base (L2.CX X.prog X.w) k f fd ps (spM X.K 2 mf)) (hb : Binds X.K fd ps []) (hr : Room j X.A) (hj : k ≤ j) :
    OpW X (compareOp .NotIn) (rInI Ca (spM X.K 2 mf) (fun σ cls dd H => W cls dd σ H) true) := by
  intro pn s σ H x y v u Q I rx ry h
  obtain ⟨a, dx, fs, rfl, ha, hsp⟩ := h
  obtain rfl : u = Value.ref a := ry
  obtain ⟨mA, J, _⟩ := ins_get I.hok ha
  obtain ⟨od, J, _⟩ := J.look
  obtain ⟨m, fr⟩ := I.fr
  refine PySem.W.notIn_K fr I.ok.mod.kin J D.at_ D.fn ?_
  refine wpAny_mono (run_at F (hr.mono hj) rfl hb (tk σ) I (vs := [V.ref a, x]) (.cons rfl (.cons rx .nil)) hsp) (fun r s2 ⟨w, H2, I2, rv, b, ev, q2⟩ => ?_) fun _ _ z => z
  subst ev
  obtain rfl : r = Value.bool b := rv
  exact wpAny_truthy_bool ⟨.bl (!b), H2, I2, rfl, by cases b <;> simpa using q2⟩
/-- the mirror: the operands from the left, the call with the instance ahead -/
def kInI (C : Str) (mf : MF) (neg : Bool) (x y : AV) : EF D := fun env => match viewA y env with
  | some (.ins c _) => if c = C then match kCall mf [y, x] env with
    | some (.ok (.d (.bl b)), e) => some (.ok (.bl (b != neg)), e)
    | some (.ex x, e) => some (.ex x, e)
    | _ => none
  else none
  | _ => none
theorem inI_at {neg : Bool} {S : Hp} {env : ME} {σ : St} {H : Hp} {Q : VK} {x y : AV} {vx vy : V} (cn : ClsN X.K C Ca) (rx : RA X.K σ S x vx) (ry : RA X.K σ S y vy) (z : At X.K W (RD X.K) (kInI C mf neg x y) S env σ H Q) : rInI Ca (spM X.K 2 mf) (fun σ cls dd H => W cls dd σ H) neg σ vx vy H Q := by
  obtain ⟨r, env', rel, ef, q⟩ := z
  unfold kInI at ef
  split at ef
  · rename_i c fs hv
    split at ef
    · rename_i hc
      subst hc
      obtain ⟨Ca', a', dx, fv, cn', rfl, hH, rf⟩ := view_one rel ry hv
      have hca := cn'.inj cn
      subst hca
      refine ⟨a', dx, fv, rfl, hH, ?_⟩
      split at ef
      · rename_i b e2 hk
        cases ef
        exact kcall_sp (as := [y, x]) (vs := [V.ref a', vx]) rel ⟨.ref a', [vx], rfl, ry, vx, [], rfl, rx, rfl⟩ rfl hk fun S' H' st' v rv => ⟨b, rv, q S' H' st' _ rfl⟩
      · rename_i x' e2 hk
        cases ef
        exact kcall_sp (as := [y, x]) (vs := [V.ref a', vx]) rel ⟨.ref a', [vx], rfl, ry, vx, [], rfl, rx, rfl⟩ rfl hk fun S' H' st' => q S' H' st'
      · cases ef
    · cases ef
  · cases ef
end
end Mir

namespace Mir
open PySem PySem.Spec PyProof.Rows L2
section
variable {X : Cx} {W : WX} {k j n : Nat} {f Ca : Addr} {fd : FuncData} {ps : List Str} {mf : MF} {C : Str} {a b : Expr} {fa fb : EF AV} {pos : Pos}
theorem e_opW {o : Operator} {r : RW2} {g : AV → AV → EF D} (ho : OpW X (binaryOp o) r) (ha : DV X W a fa) (hb : DV X W b fb) (h : ∀ S env σ H Q x y vx vy, RA X.K σ S x vx → RA X.K σ S y vy → At X.K W (RD X.K) (g x y) S env σ H Q → r σ vx vy H Q) : DE X W (.BinOp a o b pos) (e2 fa fb g) := by
  refine pe_imp (pe_opW ho ha hb) ?_
  rintro σ H Q ⟨S, env, z⟩
  exact ⟨S, env, (At.bind (R := RAv X.K) z).imp fun vx H1 ⟨x, S1, e1, rx, st, z1⟩ => ⟨S1, e1, (At.bind (R := RAv X.K) z1).imp fun vy H2 ⟨y, S2, e2, ry, st2, z2⟩ => h S2 e2 σ H2 Q x y vx vy (rx.mono st2.le) ry z2⟩⟩
theorem e_cmpW {o : CmpOp} {r : RW2} {g : AV → AV → EF D} (ho : OpW X (compareOp o) r) (ha : DV X W a fa) (hb : DV X W b fb) (h : ∀ S env σ H Q x y vx vy, RA X.K σ S x vx → RA X.K σ S y vy → At X.K W (RD X.K) (g x y) S env σ H Q → r σ vx vy H Q) (hm : behindInMarks o b = false := by rfl) : DE X W (.Compare a [o] [b] pos) (e2 fa fb g) := by
  refine pe_imp (pe_cmpW ho ha hb hm) ?_
  rintro σ H Q ⟨S, env, z⟩
  exact ⟨S, env, (At.bind (R := RAv X.K) z).imp fun vx H1 ⟨x, S1, e1, rx, st, z1⟩ => ⟨S1, e1, (At.bind (R := RAv X.K) z1).imp fun vy H2 ⟨y, S2, e2, ry, st2, z2⟩ => h S2 e2 σ H2 Q x y vx vy (rx.mono st2.le) ry z2⟩⟩
theorem t_cmpW {o : CmpOp} {r : RW2} {g : AV → AV → EF D} (ho : OpW X (compareOp o) r) (ha : DV X W a fa) (hb : DV X W b fb) (h : ∀ S env σ H Q x y vx vy, RA X.K σ S x vx → RA X.K σ S y vy → At X.K W (RD X.K) (g x y) S env σ H Q → r σ vx vy H Q) (hm : behindInMarks o b = false := by rfl) : DT X W (.Compare a [o] [b] pos) (eT (e2 fa fb g)) := by
  refine pt_imp (pt_cmpW ho ha hb hm) ?_
  rintro σ H Q ⟨S, env, z⟩
  have z0 := At.bind (R := RD X.K) z
  exact ⟨S, env, (At.bind (R := RAv X.K) z0).imp fun vx H1 ⟨x, S1, e1, rx, st, z1⟩ => ⟨S1, e1, (At.bind (R := RAv X.K) z1).imp fun vy H2 ⟨y, S2, e2, ry, st2, z2⟩ =>
    h S2 e2 σ H2 _ x y vx vy (rx.mono st2.le) ry (z2.imp fun v H' ⟨d, S3, e3, r3, st3, z3⟩ => asB_of (R := RB) r3 z3)⟩⟩
theorem e_inI (tk : TkC X W) (cn : ClsN X.K C Ca) (D : Dun X.K Ca f "__contains__") (F : FnOk X.prog X.w X.K X.mg X.base (L2.CX X.prog X.w) k f fd ps (spM X.K 2 mf)) (hd : Binds X.K fd ps []) (hr : Room j X.A) (hj : k ≤ j) (ha : DV X W a fa) (hb : DV X W b fb) (hm : behindInMarks .In b = false := by rfl) :
    DE X W (.Compare a [.In] [b] pos) (e2 fa fb (kInI C mf false)) := e_cmpW (op_inI tk D F hd hr hj) ha hb (fun _ _ _ _ _ _ _ _ _ rx ry z => inI_at cn rx ry z) hm
theorem t_inI (tk : TkC X W) (cn : ClsN X.K C Ca) (D : Dun X.K Ca f "__contains__") (F : FnOk X.prog X.w X.K X.mg X.base (L2.CX X.prog X.w) k f fd ps (spM X.K 2 mf)) (hd : Binds X.K fd ps []) (hr : Room j X.A) (hj : k ≤ j) (ha : DV X W a fa) (hb : DV X W b fb) (hm : behindInMarks .In b = false := by rfl) :
    DT X W (.Compare a [.In] [b] pos) (eT (e2 fa fb (kInI C mf false))) := t_cmpW (op_inI tk D F hd hr hj) ha hb (fun _ _ _ _ _ _ _ _ _ rx ry z => inI_at cn rx ry z) hm
theorem t_notInI (tk : TkC X W) (cn : ClsN X.K C Ca) (D : Dun X.K Ca f "__contains__") (F : FnOk X.prog X.w X.K X.mg X.base (L2.CX X.prog X.w) k f fd ps (spM X.K 2 mf)) (hd : Binds X.K fd ps []) (hr : Room j X.A) (hj : k ≤ j) (ha : DV X W a fa) (hb : DV X W b fb) (hm : behindInMarks .NotIn b = false := by rfl) :
    DT X W (.Compare a [.NotIn] [b] pos) (eT (e2 fa fb (kInI C mf true))) := t_cmpW (op_notInI tk D F hd hr hj) ha hb (fun _ _ _ _ _ _ _ _ _ rx ry z => inI_at cn rx ry z) hm
end
end Mir

namespace Mir
open PySem PySem.Spec PyProof.Rows L2
section
variable {X : Cx} {W : WX} {k j n : Nat} {f Ca : Addr} {fd : FuncData} {ps : List Str} {mf : MF} {C : Str} {a b : Expr} {fa fb : EF AV} {pos : Pos}
/-! ## a op b, both instances of one class -/
theorem cmpBack_of {x : V} {u : Value} {s : Shared} {Q : Value → Shared → Prop} (r : RelV x u) (q : Q u s) : PySem.W.CmpBack Q u s := by
  cases x with
  | non => cases r; exact q
  | bl b => cases r; exact q
  | int i => obtain ⟨t, rfl⟩ := r; exact q
  | str i => obtain ⟨t, rfl⟩ := r; exact q
  | byt i => obtain ⟨t, rfl⟩ := r; exact q
  | flt i => obtain ⟨t, rfl⟩ := r; exact q
  | ref i => cases r; exact q
  | ty i => cases r; exact q
def rBinI (Ca : Addr) (sp : Sp) (E : St → XK) : RW2 := fun σ x y H Q => ∃ a b dx dy fs gs, x = .ref a ∧ y = .ref b ∧ H a = some (.ins Ca dx fs) ∧ H b = some (.ins Ca dy gs) ∧ sp [x, y] H Q (E σ)
theorem op_binI {op : Operator} (tk : TkC X W) (D : Dun X.K Ca f (PySem.dunder op.info.2)) (sf : PySem.W.selfFirst X.K Ca = true) (F : FnOk X.prog X.w X.K X.mg X.base (L2.CX X.prog X.w) k f fd ps (spM X.K 2 mf)) (hb : Binds X.K fd ps []) (hr : Room j X.A) (hj : k ≤ j) :
    OpW X (binaryOp op) (rBinI Ca (spM X.K 2 mf) (fun σ cls dd H => W cls dd σ H)) := by
  intro pn s σ H x y v u Q I rx ry h
  obtain ⟨a, b, dx, dy, fs, gs, rfl, rfl, ha, hb', hsp⟩ := h
  obtain rfl : v = Value.ref a := rx
  obtain rfl : u = Value.ref b := ry
  obtain ⟨mA, J, _⟩ := ins_get I.hok ha
  obtain ⟨mB, J', _⟩ := ins_get I.hok hb'
  obtain ⟨od, J, _⟩ := J.look
  obtain ⟨od', J', _⟩ := J'.look
  obtain ⟨m, fr⟩ := I.fr
  refine PySem.W.binop_K fr I.ok.mod.kin J J'.type sf D.at_ D.fn ?_
  exact wpAny_mono (run_at F (hr.mono hj) rfl hb (tk σ) I (vs := [V.ref a, V.ref b]) (.cons rfl (.cons rfl .nil)) hsp) (fun r s2 z => by
    obtain ⟨w, H2, I2, rv, q2⟩ := z
    exact cmpBack_of rv ⟨w, H2, I2, rv, q2⟩) fun _ _ z => z
def kBinI (C : Str) (mf : MF) (x y : AV) : EF FR := fun env => match viewA x env, viewA y env with
  | some (.ins c _), some (.ins c' _) => if c = C ∧ c' = C then kCall mf [x, y] env else none
  | _, _ => none
def e2F (fa fb : EF AV) (g : AV → AV → EF FR) : EF FR := eBind fa fun x => eBind fb fun y => g x y
theorem df_opI {op : Operator} (tk : TkC X W) (cn : ClsN X.K C Ca) (D : Dun X.K Ca f (PySem.dunder op.info.2)) (sf : PySem.W.selfFirst X.K Ca = true) (F : FnOk X.prog X.w X.K X.mg X.base (L2.CX X.prog X.w) k f fd ps (spM X.K 2 mf)) (hd : Binds X.K fd ps []) (hr : Room j X.A) (hj : k ≤ j) (ha : DV X W a fa) (hb : DV X W b fb) :
    DF X W (.BinOp a op b pos) (e2F fa fb (kBinI C mf)) := by
  refine pe_imp (pe_opW (op_binI tk D sf F hd hr hj) ha hb) ?_
  rintro σ H Q ⟨S, env, z⟩
  refine ⟨S, env, (AtF.bind (R := RAv X.K) z).imp fun vx H1 ⟨x, S1, e1, rx, st, z1⟩ => ⟨S1, e1, (AtF.bind (R := RAv X.K) z1).imp fun vy H2 ⟨y, S2, e2, ry, st2, z2⟩ => ?_⟩⟩
  obtain ⟨r, env', rel, ef, q⟩ := z2
  unfold kBinI at ef
  split at ef
  · rename_i c fs c' gs hv hv'
    split at ef
    · rename_i hc
      obtain ⟨rfl, h2⟩ := hc
      subst h2
      have rx2 := rx.mono st2.le
      obtain ⟨C1, a1, dx, fv, cn1, rfl, hH, rf⟩ := view_one rel rx2 hv
      obtain ⟨C2, a2, dy, gv, cn2, rfl, hH2, rg⟩ := view_one rel ry hv'
      have h1 := cn1.inj cn
      have h2 := cn2.inj cn
      subst h1 h2
      exact ⟨a1, a2, dx, dy, fv, gv, rfl, rfl, hH, hH2, kcall_sp (as := [x, y]) (vs := [V.ref a1, V.ref a2]) rel ⟨.ref a1, [.ref a2], rfl, rx2, .ref a2, [], rfl, ry, rfl⟩ rfl ef q⟩
    · cases ef
  · cases ef
end
end Mir

namespace Mir
open PySem PySem.Spec PyProof.Rows L2
section
variable {X : Cx} {W : WX} {k j n : Nat} {f Ca : Addr} {fd : FuncData} {ps : List Str} {mf : MF} {C : Str} {a b : Expr} {fa fb : EF AV} {pos : Pos}
/-! ## a == b, a < b ..: both instances of one class that has its own def for it -/
theorem op_cmpI {op : CmpOp} (ho : ∀ u v, compareOp op u v = richCompare op u v) (tk : TkC X W) (D : Dun X.K Ca f (cmpInfo op).2.1) (F : FnOk X.prog X.w X.K X.mg X.base (L2.CX X.prog X.w) k f fd ps (spM X.K 2 mf)) (hb : Binds X.K fd ps []) (hr : Room j X.A) (hj : k ≤ j) :
    OpW X (compareOp op) (rBinI Ca (spM X.K 2 mf) (fun σ cls dd H => W cls dd σ H)) := by
  intro pn s σ H x y v u Q I rx ry h
  obtain ⟨a, b, dx, dy, fs, gs, rfl, rfl, ha, hb', hsp⟩ := h
  obtain rfl : v = Value.ref a := rx
  obtain rfl : u = Value.ref b := ry
  obtain ⟨mA, J, _⟩ := ins_get I.hok ha
  obtain ⟨mB, J', _⟩ := ins_get I.hok hb'
  obtain ⟨od, J, _⟩ := J.look
  obtain ⟨od', J', _⟩ := J'.look
  obtain ⟨m, fr⟩ := I.fr
  rw [ho]
  refine PySem.W.cmp_K (op := op) (tb := .ref Ca) hr.units0 fr I.ok.mod.kin J J'.type (by simp [PySem.W.notFirst]) D.at_ D.fn ?_
  exact wpAny_mono (run_at F (hr.mono hj) rfl hb (tk σ) I (vs := [V.ref a, V.ref b]) (.cons rfl (.cons rfl .nil)) hsp) (fun r s2 z => by
    obtain ⟨w, H2, I2, rv, q2⟩ := z
    exact cmpBack_of rv ⟨w, H2, I2, rv, q2⟩) fun _ _ z => z
def kCmpI (C : Str) (mf : MF) (x y : AV) : EF D := fun env => match viewA x env, viewA y env with
  | some (.ins c _), some (.ins c' _) => if c = C ∧ c' = C then match kCall mf [x, y] env with
    | some (.ok (.d d), e) => some (.ok d, e)
    | some (.ex x, e) => some (.ex x, e)
    | _ => none
    else none
  | _, _ => none
theorem cmpI_at {S : Hp} {env : ME} {σ : St} {H : Hp} {Q : VK} {x y : AV} {vx vy : V} (cn : ClsN X.K C Ca) (rx : RA X.K σ S x vx) (ry : RA X.K σ S y vy) (z : At X.K W (RD X.K) (kCmpI C mf x y) S env σ H Q) : rBinI Ca (spM X.K 2 mf) (fun σ cls dd H => W cls dd σ H) σ vx vy H Q := by
  obtain ⟨r, env', rel, ef, q⟩ := z
  unfold kCmpI at ef
  split at ef
  · rename_i c fs c' gs hv hv'
    split at ef
    · rename_i hc
      obtain ⟨rfl, h2⟩ := hc
      subst h2
      obtain ⟨C1, a1, dx, fv, cn1, rfl, hH, rf⟩ := view_one rel rx hv
      obtain ⟨C2, a2, dy, gv, cn2, rfl, hH2, rg⟩ := view_one rel ry hv'
      have h1 := cn1.inj cn
      have h2 := cn2.inj cn
      subst h1 h2
      refine ⟨a1, a2, dx, dy, fv, gv, rfl, rfl, hH, hH2, ?_⟩
      split at ef
      · rename_i d e2 hk
        cases ef
        exact kcall_sp (as := [x, y]) (vs := [V.ref a1, V.ref a2]) rel ⟨.ref a1, [.ref a2], rfl, rx, .ref a2, [], rfl, ry, rfl⟩ rfl hk fun S' H' st' v rv => q S' H' st' v rv
      · rename_i x' e2 hk
        cases ef
        exact kcall_sp (as := [x, y]) (vs := [V.ref a1, V.ref a2]) rel ⟨.ref a1, [.ref a2], rfl, rx, .ref a2, [], rfl, ry, rfl⟩ rfl hk fun S' H' st' => q S' H' st'
      · cases ef
    · cases ef
  · cases ef
theorem e_cmpI {op : CmpOp} (ho : ∀ u v, compareOp op u v = richCompare op u v) (tk : TkC X W) (cn : ClsN X.K C Ca) (D : Dun X.K Ca f (cmpInfo op).2.1) (F : FnOk X.prog X.w X.K X.mg X.base (L2.CX X.prog X.w) k f fd ps (spM X.K 2 mf)) (hd : Binds X.K fd ps []) (hr : Room j X.A) (hj : k ≤ j) (ha : DV X W a fa) (hb : DV X W b fb) (hm : behindInMarks op b = false := by rfl) :
    DE X W (.Compare a [op] [b] pos) (e2 fa fb (kCmpI C mf)) := e_cmpW (op_cmpI ho tk D F hd hr hj) ha hb (fun _ _ _ _ _ _ _ _ _ rx ry z => cmpI_at cn rx ry z) hm
theorem t_cmpI {op : CmpOp} (ho : ∀ u v, compareOp op u v = richCompare op u v) (tk : TkC X W) (cn : ClsN X.K C Ca) (D : Dun X.K Ca f (cmpInfo op).2.1) (F : FnOk X.prog X.w X.K X.mg X.base (L2.CX X.prog X.w) k f fd ps (spM X.K 2 mf)) (hd : Binds X.K fd ps []) (hr : Room j X.A) (hj : k ≤ j) (ha : DV X W a fa) (hb : DV X W b fb) (hm : behindInMarks op b = false := by rfl) :
    DT X W (.Compare a [op] [b] pos) (eT (e2 fa fb (kCmpI C mf))) := t_cmpW (op_cmpI ho tk D F hd hr hj) ha hb (fun _ _ _ _ _ _ _ _ _ rx ry z => cmpI_at cn rx ry z) hm
theorem cmp_eq (u v : Value) : compareOp .Eq u v = richCompare .Eq u v := rfl
end
end Mir

namespace Mir
open PySem PySem.Spec PyProof.Rows L2
section
variable {X : Cx} {W : WX} {k j n : Nat} {f Ca : Addr} {fd : FuncData} {ps : List Str} {mf : MF} {C : Str} {a b : Expr} {fa fb : EF AV} {pos : Pos}
/-! ## a[b], a an instance of a class with its own def for it -/
def rGetI (Ca : Addr) (sp : Sp) (E : St → XK) : RW2 := fun σ x y H Q => ∃ a dx fs, x = .ref a ∧ H a = some (.ins Ca dx fs) ∧ sp [x, y] H Q (E σ)
def SubIx (b : Expr) : Prop := ∀ (x : Addr) (i : Value), subscripted b true (.ref x) i = runValue (.builtin "lifetime.subscript" ⟨[.ref x, i], []⟩)
theorem pe_getI (tk : TkC X W) (D : Dun X.K Ca f "__getitem__") (hf : PySem.W.fnIn X.K f = true) (F : FnOk X.prog X.w X.K X.mg X.base (L2.CX X.prog X.w) k f fd ps (spM X.K 2 mf)) (hb : Binds X.K fd ps []) (hr : Room j X.A) (hj : k + 1 ≤ j) (hi : SubIx b) {ta tb : TE} (ha : PE X a ta) (hb' : PE X b tb) :
    PE X (.Subscript a b pos) (tOpW (rGetI Ca (spM X.K 2 mf) (fun σ cls dd H => W cls dd σ H)) ta tb) := by
  refine ⟨fun pn s σ H Q I h => ?_⟩
  refine Subscript_ (thn (ha.run pn s σ H _ I h) fun v s1 ⟨x, H1, I1, r1, q1⟩ => thn (hb'.run pn s1 σ H1 _ I1 q1) fun u s2 ⟨y, H2, I2, r2, q2⟩ => ?_)
  obtain ⟨a', dx, fs, rfl, ha', hsp⟩ := q2
  obtain rfl : v = Value.ref a' := r1
  obtain ⟨mA, J, _⟩ := ins_get I2.hok ha'
  obtain ⟨od, J, _⟩ := J.look
  obtain ⟨m, fr⟩ := I2.fr
  refine PySem.W.sub_K fr I2.ok.mod.kin J D.at_ hf D.fn ?_ (hi _ _)
  exact run_at F ((hr.mono hj).in1) rfl hb (tk σ) I2 (vs := [V.ref a', y]) (.cons rfl (.cons r2 .nil)) hsp
def kGetI (C : Str) (mf : MF) (x y : AV) : EF FR := fun env => match viewA x env with
  | some (.ins c _) => if c = C then kCall mf [x, y] env else none
  | _ => none
theorem df_getI (tk : TkC X W) (cn : ClsN X.K C Ca) (D : Dun X.K Ca f "__getitem__") (hf : PySem.W.fnIn X.K f = true) (F : FnOk X.prog X.w X.K X.mg X.base (L2.CX X.prog X.w) k f fd ps (spM X.K 2 mf)) (hd : Binds X.K fd ps []) (hr : Room j X.A) (hj : k + 1 ≤ j) (ha : DV X W a fa) (hb : DV X W b fb) (hi : SubIx b := by exact fun _ _ => rfl) :
    DF X W (.Subscript a b pos) (e2F fa fb (kGetI C mf)) := by
  refine pe_imp (pe_getI tk D hf F hd hr hj hi ha hb) ?_
  rintro σ H Q ⟨S, env, z⟩
  refine ⟨S, env, (AtF.bind (R := RAv X.K) z).imp fun vx H1 ⟨x, S1, e1, rx, st, z1⟩ => ⟨S1, e1, (AtF.bind (R := RAv X.K) z1).imp fun vy H2 ⟨y, S2, e2, ry, st2, z2⟩ => ?_⟩⟩
  obtain ⟨r, env', rel, ef, q⟩ := z2
  unfold kGetI at ef
  split at ef
  · rename_i c fs hv
    split at ef
    · rename_i hc
      subst hc
      have rx2 := rx.mono st2.le
      obtain ⟨C1, a1, dx, fv, cn1, rfl, hH, rf⟩ := view_one rel rx2 hv
      have h1 := cn1.inj cn
      subst h1
      exact ⟨a1, dx, fv, rfl, hH, kcall_sp (as := [x, y]) (vs := [V.ref a1, vy]) rel ⟨.ref a1, [vy], rfl, rx2, vy, [], rfl, ry, rfl⟩ rfl ef q⟩
    · cases ef
  · cases ef
end
end Mir

namespace Mir
open PySem PySem.Spec PyProof.Rows L2
/-! ## sets of texts: what such a set is, an add, the members in some order -/
def txtAt (e : Int × Value) : Str := match e.2 with
  | .str k _ => k
  | _ => ⟨#[]⟩
def TxtE (w : World) (e : Int × Value) : Prop := ∃ k tk, e = (hashStr w k, Value.str k tk)
structure TxtSet (w : World) (es : Array (Int × Value)) (t : SetTable) (l : List Str) : Prop where
  el : ∀ e ∈ es.toList, TxtE w e
  nd : l.Nodup
  pm : (es.toList.map txtAt).Perm l
  bd : es.size < scanBound
  ft : t.fits es.size = true
  ris : Ris t.place.toList
  led : w.params.followText "set-order" = true ∨ t.led = true
def SetT (w : World) (h : Heap) (a : Addr) (l : List Str) : Prop := ∃ o es ep t, h.get? a = some o ∧ o.ExactSet ∧ o.data = .set es ep t ∧ TxtSet w es t l
section
variable {P : Program} {w : World} {A : Around} {E : Value → Shared → Prop} {s : Shared} {a : Addr} {l : List Str}
theorem TxtSet.size {es : Array (Int × Value)} {t : SetTable} (T : TxtSet w es t l) : es.size = l.length := by
  have := T.pm.length_eq
  rwa [List.length_map, Array.length_toList] at this
theorem TxtSet.elems {es : Array (Int × Value)} {t : SetTable} (T : TxtSet w es t l) : ElemsOf (strKind P w) es.toList := by
  intro e he
  obtain ⟨k, tk, rfl⟩ := T.el e he
  exact ⟨⟨k, Froz.is_str k tk, rfl⟩, rfl⟩
theorem txt_is {e : Int × Value} (h : TxtE w e) (k : Str) : (strKind P w).is k e.2 = true ↔ txtAt e = k := by
  obtain ⟨k0, tk, rfl⟩ := h
  show Value.isStrOf k (.str k0 tk) = true ↔ k0 = k
  simp [Value.isStrOf]
theorem TxtSet.mem {es : Array (Int × Value)} {t : SetTable} (T : TxtSet w es t l) (k : Str) : k ∈ l ↔ ∃ e ∈ es.toList, (strKind P w).is k e.2 = true := by
  rw [← T.pm.mem_iff, List.mem_map]
  constructor
  · rintro ⟨e, he, q⟩
    exact ⟨e, he, (txt_is (T.el e he) k).2 q⟩
  · rintro ⟨e, he, q⟩
    exact ⟨e, he, (txt_is (T.el e he) k).1 q⟩
/-- l with k behind it, once -/
def insT (l : List Str) (k : Str) : List Str := if k ∈ l then l else l ++ [k]
theorem stored {h : Heap} {o : Obj} {es es' : Array (Int × Value)} {ep : Nat} {t t' : SetTable} (ho : h.get? a = some o) (hd : o.data = .set es ep t) : (h.update a (Obj.putSet es' t')).get? a = some { o with data := .set es' (ep + 1) t' } := PpSet.storeB_at ho hd
theorem TxtSet.push {es es1 : Array (Int × Value)} {t t1 : SetTable} {k : Str} {tk : Tok} (T : TxtSet w es t l) (hk : k ∉ l) (p : es1.toList.Perm (es.push (hashStr w k, Value.str k tk)).toList) (hb : l.length + 1 < scanBound) (f1 : t1.fits es1.size = true) (r1 : Ris t1.place.toList) (e1 : t1.led = t.led) : TxtSet w es1 t1 (l ++ [k]) := by
  rw [Array.toList_push] at p
  have pk : (es1.toList.map txtAt).Perm (l ++ [k]) := by
    refine (p.map txtAt).trans ?_
    rw [List.map_append]
    exact T.pm.append_right [k]
  refine ⟨fun e he => ?_, ?_, pk, ?_, f1, r1, ?_⟩
  · rcases List.mem_append.mp (p.mem_iff.mp he) with z | z
    · exact T.el e z
    · exact ⟨k, tk, List.mem_singleton.mp z⟩
  · rw [List.nodup_append]
    exact ⟨T.nd, by simp, fun x hx y hy => by
      rw [List.mem_singleton] at hy
      subst hy
      exact fun z => hk (z ▸ hx)⟩
  · have := pk.length_eq
    rw [List.length_map, Array.length_toList, List.length_append] at this
    rw [this]
    exact hb
  · rw [e1]
    exact T.led
theorem TxtSet.relay {es : Array (Int × Value)} {t : SetTable} {n : Nat} (T : TxtSet w es t l) : TxtSet w (relayAll t es n).1 (relayAll t es n).2.1 l := by
  have p := relayAll_perm t es n
  refine ⟨fun e he => T.el e (p.mem_iff.mp he), T.nd, (p.map txtAt).trans T.pm, ?_, relayAll_fits t es n, relayAll_ris t es n, ?_⟩
  · have := p.length_eq
    rw [Array.length_toList, Array.length_toList] at this
    rw [this]
    exact T.bd
  · rw [relayAll_led]
    exact T.led
theorem TxtSet.off {es : Array (Int × Value)} {t : SetTable} (T : TxtSet w es t l) : TxtSet w es { t with plain := false } l := ⟨T.el, T.nd, T.pm, T.bd, SetTable.fits_plain_off T.ft, T.ris, T.led⟩
theorem set_tail {g : Bool → Sem Unit} (hg : ∀ (b : Bool) (s₁ : Shared) (Q' : Unit → Shared → Prop), Q' () s₁ → wpAny (model P w) A (g b) Q' E s₁)
    {o : Obj} {es es1 : Array (Int × Value)} {ep : Nat} {t t2 : SetTable} (ho : s.heap.get? a = some o) (hx : o.ExactSet) (hd : o.data = .set es ep t) (T : TxtSet w es1 t2 l) {dm : Bool} {R : Option Bool → Shared → Prop}
    (hR : ∀ h', Heap.SameBut a s.heap h' → SetT w h' a l → R (some true) { s with heap := h' }) :
    wpAny (model P w) A (do
        storeSet a es1 t2
        if (!dm && t2.tooFull) = true then do
            g (relayAll t2 es1 (SetTable.grown es1.size)).2.2
            storeSet a (relayAll t2 es1 (SetTable.grown es1.size)).1 (relayAll t2 es1 (SetTable.grown es1.size)).2.1
            pure (some true)
          else pure (some true)) R E s := by
  refine wpAny_bind (wpAny_storeSet_of ho hd ?_ (fits_of_scanBound T.bd))
  have h1 := stored (es' := es1) (t' := t2) ho hd
  have b1 := Heap.SameBut.update s.heap a (Obj.putSet es1 t2)
  split
  · have T3 := T.relay (n := SetTable.grown es1.size)
    generalize relayAll t2 es1 (SetTable.grown es1.size) = Z at T3 ⊢
    obtain ⟨es2, t3, gv⟩ := Z
    dsimp only at T3 ⊢
    refine wpAny_bind (hg _ _ _ ?_)
    refine wpAny_bind (wpAny_storeSet_of h1 rfl ?_ (fits_of_scanBound T3.bd))
    have h2 := stored (es' := es2) (t' := t3) h1 rfl
    exact wpAny_pure (hR _ (b1.trans (Heap.SameBut.update _ a _)) ⟨_, es2, _, t3, h2, hx, rfl, T3⟩)
  · exact wpAny_pure (hR _ b1 ⟨_, es1, _, t2, h1, hx, rfl, T⟩)
theorem set_addH {k : Str} {tk : Tok} {Q : Bool → Shared → Prop} (R : SetT w s.heap a l) (room : l.length + 1 < scanBound) (hQ : ∀ b h', Heap.SameBut a s.heap h' → SetT w h' a (insT l k) → Q b { s with heap := h' }) :
    wpAny (model P w) A (setAddHashed a (.str k tk) (hashStr w k)) Q E s := by
  obtain ⟨o, es, ep, t, ho, hex, hd, T⟩ := R
  have hsc : (Value.str k tk).scannable = true := rfl
  have hel : ElemsOf (strKind P w) es.toList := T.elems
  have hkey : (strKind P w).is k (.str k tk) = true := Froz.is_str k tk
  unfold setAddHashed setAddHashedIn
  refine wpAny_holding (wpAny_bind (wpAny_setState_of ho hd T.ft ?_))
  dsimp only
  rw [byScan_of hsc T.bd hel]
  simp only [↓reduceIte]
  unfold setAddByScan
  refine wpAny_bind ?_
  refine wpAny_bind (wpAny_rule ?_)
  refine wpAny_bind (wpAny_setScan_of hkey ho hd T.ft hel ?_)
  cases hfi : List.findIdx? (fun e => (strKind P w).is k e.2) es.toList with
  | some j =>
    dsimp only
    obtain ⟨hj, pj, _⟩ := List.findIdx?_eq_some_iff_getElem.mp hfi
    have hk : k ∈ l := (T.mem (P := P) k).2 ⟨_, List.getElem_mem hj, pj⟩
    have q := hQ false s.heap (Heap.SameBut.refl a s.heap) (by
      unfold insT
      rw [if_pos hk]
      exact ⟨o, es, ep, t, ho, hex, hd, T⟩)
    exact wpAny_pure (wpAny_pure q)
  | none =>
    dsimp only
    have hk : k ∉ l := fun z => by
      obtain ⟨e, he, q⟩ := (T.mem (P := P) k).1 z
      have c := List.findIdx?_eq_none_iff.mp hfi e he
      rw [q] at c
      cases c
    have gw : ∀ (b : Bool) {s₁ : Shared} {Q' : Unit → Shared → Prop}, Q' () s₁ → wpAny (model P w) A (match b with | true => rule "set.scan.the-table-gave-way" | false => pure ()) Q' E s₁ := by
      intro b s₁ Q' q
      cases b with
      | true => exact wpAny_rule q
      | false => exact wpAny_pure q
    have T1 : TxtSet w (layNew t es (hashStr w k) (.str k tk)).1 (layNew t es (hashStr w k) (.str k tk)).2.1 (l ++ [k]) :=
      T.push hk (layNew_perm t es (hashStr w k) (.str k tk)) room (layNew_fits t es (hashStr w k) (.str k tk)) (layNew_ris t es (hashStr w k) (.str k tk) T.ris) (layNew_led t es (hashStr w k) (.str k tk))
    generalize hZ : layNew t es (hashStr w k) (.str k tk) = Z at T1
    obtain ⟨es1, t1, dm, gv⟩ := Z
    dsimp only at T1 ⊢
    have fin : ∀ h', Heap.SameBut a s.heap h' → SetT w h' a (l ++ [k]) → Q true { s with heap := h' } := fun h' sb r => hQ true h' sb (by
      unfold insT
      rw [if_neg hk]
      exact r)
    refine wpAny_bind (gw _ ?_)
    by_cases hpl : t1.plain = true
    · rw [if_pos hpl]
      refine wpAny_bind ?_
      rw [hashByValue_scannable 8 hsc]
      refine wpAny_pure ?_
      refine set_tail (fun b s₁ Q' q => ?_) ho hex hd (by first | exact T1.off | exact T1) fun h' sb r => ?_
      · cases b with
        | true => exact wpAny_rule q
        | false => exact wpAny_pure q
      · dsimp only
        exact wpAny_pure (fin h' sb r)
    · rw [if_neg hpl]
      refine wpAny_bind (wpAny_pure ?_)
      simp only [↓reduceIte]
      refine set_tail (fun b s₁ Q' q => ?_) ho hex hd T1 fun h' sb r => ?_
      · cases b with
        | true => exact wpAny_rule q
        | false => exact wpAny_pure q
      · dsimp only
        exact wpAny_pure (fin h' sb r)
end
end Mir

namespace Mir
open PySem PySem.Spec PyProof.Rows L2
section
variable {P : Program} {w : World} {A : Around} {E : Value → Shared → Prop} {s : Shared} {a : Addr} {l : List Str}
def txtV (v : Value) : Str := match v with
  | .str k _ => k
  | _ => ⟨#[]⟩
theorem txt_vals : ∀ (vs : List Value), (∀ v ∈ vs, ∃ k tk, v = Value.str k tk) → StrsAre vs (vs.map txtV)
  | [], _ => .nil
  | v :: vs, h => by
    obtain ⟨k, tk, rfl⟩ := h v List.mem_cons_self
    exact .cons k tk (txt_vals vs fun u hu => h u (List.mem_cons_of_mem _ hu))
theorem sorted_setT {Q : Value → Shared → Prop} (R : SetT w s.heap a l) (hh : A.handled = none)
    (hQ : ∀ s' p (out : Array Value) (c : Nat), (∀ b o, s.heap.get? b = some o → s'.heap.get? b = some o) → s'.gens = s.gens → s'.os = s.os → s.heap.objs.size ≤ p → s'.heap.get? p = some (seqObj "list" out c) → StrsAre out.toList (srt l) → Q (.ref p) s') :
    wpAny (model P w) A (call (.builtin "sorted") [.ref a]) Q E s := by
  obtain ⟨o, es, ep, t, ho, hex, hd, T⟩ := R
  refine Calls.call_function_entry kind_sorted plain_sorted entry_sorted (args_sorted1 _) ?_
  unfold Builtin.«sorted»
  refine wpAny_bind (m := checkCount "sorted" 1 1 _) (wpAny_pure ?_)
  refine wpAny_bind (collect_set (A := A.in1) hh ⟨o, ho, hex.1, hd⟩ T.ft T.bd T.ris T.led fun s1 vs k1 hz g1 o1 pm => ?_)
  have hvl : vs.length = es.size := by rw [pm.length_eq, List.length_map, Array.length_toList]
  have hL : vs.length ≤ sizeLine := by rw [hvl]; exact fits_of_scanBound T.bd
  have hS : StrsAre vs (vs.map txtV) := txt_vals vs fun v hv => by
    obtain ⟨e, he, q⟩ := List.mem_map.mp (pm.mem_iff.mp hv)
    obtain ⟨k, tk, h1⟩ := T.el e he
    exact ⟨k, tk, by rw [← q, h1]⟩
  have pk : (vs.map txtV).Perm l := by
    have q := pm.map txtV
    rw [List.map_map] at q
    exact q.trans T.pm
  refine wpAny_bind (wpAny_newList ?_ hL)
  have hoL : (s1.heap.push (seqObj "list" vs.toArray 0)).get? s1.heap.objs.size = some (seqObj "list" vs.toArray 0) := Heap.get?_push_size _ rfl
  refine wpAny_bind (wpAny_holding (wpAny_call_entry slot_list_sort ⟨_, hoL, rfl⟩ entry_list_sort
    (list_sort_treeKAny strKind_oneLt hoL hS.keysOf (fun v₁ v₂ rest e => keyKind_strs (by rw [← e]; exact hS)) hL fun st' hp hs => ⟨_, rfl, ?_⟩) (args_list_sort _)))
  obtain ⟨ss, h1, h2, h3⟩ := sorted_out_str hS hp hs
  have es' := srt_of (h2.trans pk) h3
  subst es'
  obtain ⟨c, hc⟩ := sortedHeap_at (vs := vs) (out := (arrOf st').map (·.2)) hoL
  refine wpAny_pure ⟨_, rfl, hQ _ s1.heap.objs.size _ c (fun b u e => ?_) g1 o1 hz hc h1⟩
  have q := k1 b u e
  have hlt := Heap.lt_size q
  show (sortedHeap (s1.heap.push (seqObj "list" vs.toArray 0)) s1.heap.objs.size vs _).get? b = some u
  rw [sortedHeap_old (Nat.ne_of_lt hlt) (by rw [size_push']; exact Nat.lt_succ_of_lt hlt)]
  exact Heap.get?_push_of_some _ q
end
end Mir

namespace Mir
open PySem PySem.Spec PyProof.Rows L2
/-! ## the set as a tracked thing -/
def SetTO (w : World) (a : Addr) (l : List Str) : HO := .ext fun h => SetT w h a l
theorem SetT.there {w : World} {h : Heap} {a : Addr} {l : List Str} (R : SetT w h a l) : ∃ o, h.get? a = some o := by
  obtain ⟨o, _, _, _, ho, _⟩ := R
  exact ⟨o, ho⟩
theorem setTO_new {w : World} {P : Program} {H : Hp} {h : Heap} {a : Addr} {l : List Str} (R : SetT w h a l) : ObjOk P w H h a (SetTO w a l) := by
  refine ⟨R, R.there, fun h1 h2 p k => ?_⟩
  obtain ⟨o, es, ep, t, ho, r⟩ := p
  exact ⟨o, es, ep, t, k o ho, r⟩
section
variable {X : Cx}
theorem setTO_get {pn : List (Addr × Obj)} {σ : St} {H : Hp} {s : Shared} {a : Addr} {l : List Str} (I : Inv X pn σ H s) (ha : H a = some (SetTO X.w a l)) : SetT X.w s.heap a l := (I.hok a _ ha).1
theorem set_addT {pn : List (Addr × Obj)} {σ : St} {H : Hp} {s : Shared} {E : Value → Shared → Prop} {a : Addr} {l : List Str} {k : Str} {tk : Tok} {Q : Value → Shared → Prop} (I : Inv X pn σ H s) (ha : H a = some (SetTO X.w a l)) (room : l.length + 1 < scanBound)
    (hQ : ∀ s2, Inv X pn σ (upd H a (SetTO X.w a (insT l k))) s2 → Q .none s2) : wpAny (model X.prog X.w) X.A (call (.builtin "set.add") [.ref a, .str k tk]) Q E s := by
  have R := setTO_get I ha
  have hT : s.TypeIs (.ref a) "set" := by
    obtain ⟨o, es, ep, t, ho, hex, _⟩ := R
    exact ⟨o, ho, hex.1⟩
  refine wpAny_call_entry F.slot_set_add hT F.entry_set_add ?_ (F.args_set_add_2 _ _)
  unfold Builtin.«set.add» Builtin.Frozenset.oneOther
  simp only [List.isEmpty_nil, bind_assoc]
  unfold Builtin.Frozenset.addrOf setAdd
  refine wpAny_bind (wpAny_pure ?_)
  try dsimp only
  refine wpAny_bind (wpAny_pure ?_)
  try dsimp only
  refine wpAny_bind (wpAny_holding (wpAny_bind ((strKind X.prog X.w).pyHash (Froz.is_str k tk) ?_)))
  refine set_addH (s := { s with toks := s.toks + 1 }) R room fun b h2 sb new => ?_
  show wpAny _ _ (ret Value.none) _ _ _
  exact wpAny_pure ⟨_, rfl, hQ _ (I.write (e := a) (t' := s.toks + 1) (by rw [ha]; trivial) (.inl rfl) (fun c u hc hu => (sb.2 c hc).trans hu) new.there (setTO_new new))⟩
def rSortT (w : World) : List V → Hp → VK → Prop := fun xs H Q => ∃ a l, xs = [V.ref a] ∧ H a = some (SetTO w a l) ∧ ∀ p, H p = none → Q (.ref p) (upd H p (.lst ((srt l).map V.str)))
theorem strs_vals : ∀ {vs : List Value} {ss : List Str}, StrsAre vs ss → Vals (ss.map V.str) vs := fun h => vals_of_strs h
theorem cr_sortT (hc : X.calm = true) : CallR X (.builtin "sorted") (rSortT X.w) := by
  intro pn s σ H xs us Q I r h
  obtain ⟨a, l, rfl, ha, q⟩ := h
  rw [Vals.ref1 r]
  have R := setTO_get I ha
  have hb : l.length ≤ sizeLine := by
    obtain ⟨_, _, _, _, _, _, _, T⟩ := R
    rw [← T.size]
    exact fits_of_scanBound T.bd
  refine sorted_setT R (I.ok.hd hc) fun s2 p out c k g1 o1 hp hob hs => ?_
  have hlen : ((srt l).map V.str).length ≤ sizeLine := by rw [List.length_map, (srt_perm l).length_eq]; exact hb
  have hn := I.hok.fresh hp
  have hk := I.hok.laid k hp (o := .lst ((srt l).map V.str)) ⟨hlen, out.toList, c, vals_of_strs hs, hob⟩
  exact ⟨.ref p, _, I.call' (ch := []) o1 (Un.laid k hp hn) hk (by rw [g1]; exact I.bare) (by simp), rfl, q p hn⟩
end
end Mir

namespace Mir
open PySem PySem.Spec PyProof.Rows L2
/-! ## {el for tg in iter if ..}, el a text: L is the new set -/
def tSt (w : World) (wi : TI) (g : TG) (tt : TT) (te : TE) (vs : List Nat) : TE := fun σ H Q => wi σ H fun J G => ∀ L, G L = none → ∃ V : Nat → Nat → Hp → Prop, (∃ m, V 0 m (upd G L (SetTO w L []))) ∧ ∀ i m G1, V i m G1 →
  (J.stop i G1 ∧ Q (.ref L) G1) ∨ (J.go i G1 ∧ ∃ Nx : Hp → Prop, (∀ G2, Nx G2 → ∃ k, k < m ∧ V (i + 1) k G2) ∧ ∀ x G2, J.yld i G1 x G2 → g x (wipe σ vs) G2 fun τ G3 => wipe τ vs = wipe σ vs ∧ tt τ G3 fun b G4 =>
    if b = true then te τ G4 fun y G5 => ∃ (c : Str) (l : List Str), y = .str c ∧ G5 L = some (SetTO w L l) ∧ l.length + 1 < scanBound ∧ Nx (upd G5 L (SetTO w L (insT l c))) else Nx G4)
theorem setT_fresh {h : Heap} (w : World) : SetT w (h.push { cls := .type "set", dict := none, data := .set #[] 0 (.fresh 0 0 (!w.params.followText "set-order")) }) h.objs.size [] := by
  refine ⟨_, #[], 0, _, Heap.get?_push_size _ rfl, ⟨rfl, rfl, rfl⟩, rfl, ⟨fun e he => by simp at he, List.nodup_nil, .nil, by decide, by rfl, List.Pairwise.nil, ?_⟩⟩
  show _ ∨ (!w.params.followText "set-order") = true
  cases w.params.followText "set-order"
  · exact .inr rfl
  · exact .inl rfl
section
variable {X : Cx}
theorem st_core {pn : List (Addr × Obj)} {s : Shared} {σ : St} {H : Hp} {Q : VK} {el tg it : Expr} {ifs : List Expr} {sc : Scope} {own : List (Str × Nat)} {pos p2 : Pos} {wi : TI} {g : TG} {tt : TT} {te : TE} {use : Option (Value → Sem Unit)} {Qf : Value → Shared → Prop}
    (calm : X.calm = true) (hN : X.N.Nodup) (I : Inv X pn σ H s) (hi : PI X tg it wi) (ok : BlkOk X.N X.env.scope sc own)
    (pgs : ∀ s H C cl fp, PG (X.blk s H sc (compEnvC sc cl C X.env) fp) tg g) (pts : ∀ s H C cl fp, PTs (X.blk s H sc (compEnvC sc cl C X.env) fp) ifs tt) (pes : ∀ s H C cl fp, PE (X.blk s H sc (compEnvC sc cl C X.env) fp) el te)
    (hs : ∀ x, foldedSetIterable it X.env x = pure x) (h : tSt X.w wi g tt te (own.map (·.2)) σ H Q)
    (out : ∀ L C s2 m G, Inv X pn σ G s2 → Q (.ref L) G → s2.heap.Ns C m → FpOk X pn G C → compPost (model X.prog X.w) X.A X.xe use Qf (.ref L) C (.ok .next) s2) :
    wpAny (model X.prog X.w) X.A (comprehension (.SetComp el [⟨tg, it, ifs, 0⟩] sc pos) sc X.env p2 (newSet (.type "set")) false (eval it X.env) use) Qf X.xe s := by
  have fr : ∀ y ∈ sc.names, y.2 = .free → ∃ c, X.env.cells.lookup y.1 = some c := by
    intro y hy e
    rcases ok.free y hy e with q | q
    · exact I.ok.has _ (.inl q)
    · exact I.ok.has _ (.inr q)
  refine wpAny_comprehension_free (use := use) rfl hs (closure_ok fr) ok.kind (fun y hy e => by rw [ok.uniq y hy, e]) (thn (hi.run pn s σ H _ I h) fun xv s1 hx => thn hx fun itv s2 h2 => ?_)
  obtain ⟨itr, fp, tn, J, G, e, I2, T, st2, f2, q⟩ := h2
  subst e
  refine PpSet.newSet_ok (newEnv_comp ?_)
  have hLn : G s2.heap.objs.size = none := I2.hok.fresh (Nat.le_refl _)
  obtain ⟨V, ⟨m0, v0⟩, turn⟩ := q _ hLn
  have kp3 : ∀ b o, s2.heap.get? b = some o → (s2.heap.push { cls := .type "set", dict := none, data := .set #[] 0 (.fresh 0 0 (!X.w.params.followText "set-order")) }).get? b = some o := fun b o e => Heap.get?_push_of_some _ e
  have I3 := I2.laid (t' := s2.toks) kp3 (Nat.le_refl _) (setTO_new (setT_fresh X.w))
  have sz : ∀ b ∈ fp, b < s2.heap.objs.size := by
    intro b hb
    obtain ⟨o, e, _⟩ := T.obj _ _ st2 b hb
    exact Heap.lt_size e
  have st3 := T.keep _ _ _ st2 fun b _ o e => kp3 b o e
  have hz : s2.heap.objs.size < (s2.heap.push { cls := .type "set", dict := none, data := .set #[] 0 (.fresh 0 0 (!X.w.params.followText "set-order")) }).objs.size := by rw [Heap.size_push]; exact Nat.lt_succ_self _
  generalize hh3 : s2.heap.push { cls := .type "set", dict := none, data := .set #[] 0 (.fresh 0 0 (!X.w.params.followText "set-order")) } = h3 at *
  generalize s2.heap.objs.size = L at *
  generalize hs3 : ({ s2 with heap := h3, toks := s2.toks } : Shared) = s3 at *
  have eh : s3.heap = h3 := by rw [← hs3]
  have f3 : ∀ b ∈ fp, FpOk X pn (upd G L (SetTO X.w L [])) b ∧ b < s3.heap.objs.size := by
    intro b hb
    have lt := sz b hb
    refine ⟨⟨?_, (f2 b hb).2⟩, ?_⟩
    · rw [upd_ne (Nat.ne_of_lt lt)]
      exact (f2 b hb).1
    · rw [eh]
      exact Nat.lt_trans lt hz
  have I4 := block_start I3 ok hN f3
  have pg := pgs s3 (upd G L (SetTO X.w L [])) s3.heap.objs.size (cellsFrom (s3.heap.objs.size + 1) sc.names (cloFrom X.env.cells sc.names [])) fp
  have pt := pts s3 (upd G L (SetTO X.w L [])) s3.heap.objs.size (cellsFrom (s3.heap.objs.size + 1) sc.names (cloFrom X.env.cells sc.names [])) fp
  have pe := pes s3 (upd G L (SetTO X.w L [])) s3.heap.objs.size (cellsFrom (s3.heap.objs.size + 1) sc.names (cloFrom X.env.cells sc.names [])) fp
  have goal : codeAny (model X.prog X.w) X.A (.compStart (.SetComp el [⟨tg, it, ifs, 0⟩] sc pos) 0 (.ref itr) (.ref L) (compEnvC sc (cellsFrom (s3.heap.objs.size + 1) sc.names (cloFrom X.env.cells sc.names [])) s3.heap.objs.size X.env)) (compPost (model X.prog X.w) X.A X.xe use Qf (.ref L) s3.heap.objs.size) { s3 with heap := pushCells (s3.heap.push { cls := .type "dict", data := .dict #[] }) sc.names } := by
    generalize hce : compEnvC sc (cellsFrom (s3.heap.objs.size + 1) sc.names (cloFrom X.env.cells sc.names [])) s3.heap.objs.size X.env = ce at I4 pg pt pe ⊢
    have cL : ce.locals = s3.heap.objs.size := by rw [← hce]; rfl
    have nfp : ∀ b ∈ fp, (upd G L (SetTO X.w L [])) b = none := fun b hb => (f3 b hb).1.1
    generalize upd G L (SetTO X.w L []) = G3 at *
    generalize hs4 : ({ s3 with heap := pushCells (s3.heap.push { cls := .type "dict", data := .dict #[] }) sc.names } : Shared) = s4 at I4 ⊢
    have st4 : tn 0 s4.heap := T.keep _ _ _ st3 fun b _ o e => by
      rw [← hs4]
      exact pushCells_keeps _ _ _ _ (Heap.get?_push_of_some _ (by rw [eh]; exact e))
    have stat : ∀ {τ : St} {G2 : Hp} {s2 : Shared}, Inv (X.blk s3 G3 sc ce fp) [] τ G2 s2 → (∀ b ∈ fp, G2 b = none) → ∀ b ∈ fp, FpOk (X.blk s3 G3 sc ce fp) [] G2 b := by
      intro τ G2 s2 I' hn b hb
      exact ⟨hn b hb, (I'.ok.exf b hb).1, I'.ok.exfs b hb, .inl hb, fun x c e => (I'.ok.exf b hb).2 x c e, fun p hp => absurd (show p ∈ ([] : List (Addr × Obj)) ++ [] from hp) (by simp)⟩
    have lp : codeAny (model X.prog X.w) X.A (.compLoop (.SetComp el [⟨tg, it, ifs, 0⟩] sc pos) 0 (.ref itr) (.ref L) ce) (compPost (model X.prog X.w) X.A X.xe use Qf (.ref L) s3.heap.objs.size) s4 := by
      refine PpSet.compLoopS_any (fun n s2 => ∃ i G2, Inv (X.blk s3 G3 sc ce fp) [] (wipe σ (own.map (·.2))) G2 s2 ∧ tn i s2.heap ∧ (∀ b ∈ fp, G2 b = none) ∧ V i n G2) ?_ m0 ⟨0, G3, I4, st4, nfp, v0⟩
      rintro n s5 ⟨i, G5, I5, st5, n5, w5⟩
      rcases turn i n G5 w5 with ⟨stop, qq⟩ | ⟨go, Nx, hNx, step⟩
      · have td := T.done (X.blk s3 G3 sc ce fp) rfl rfl rfl calm i [] s5 _ G5 (fun _ _ => False) I5 (stat I5 n5) st5 stop
        refine thnF td fun r s6 ⟨hr, I6⟩ => ?_
        subst hr
        have I7 : Inv X pn σ G5 s6 := I3.call' (ch := fp) I6.os I6.base I6.hok I6.bare fun b hb => ⟨(f3 b hb).1.2.2.2.1, (f3 b hb).1.2.1, (f3 b hb).1.2.2.2.2.1, (f3 b hb).1.2.2.2.2.2⟩
        have nC : G5 s3.heap.objs.size = none := by
          have z : G5 ce.locals = none := I6.free
          rwa [cL] at z
        obtain ⟨m, hn, _⟩ := I6.loc
        have hn : s6.heap.Ns ce.locals m := hn
        rw [cL] at hn
        exact out L s3.heap.objs.size s6 m G5 I7 qq hn (I3.fpOk (Nat.le_refl _) nC)
      · have ti := T.item (X.blk s3 G3 sc ce fp) rfl rfl rfl calm i [] s5 _ G5 (fun _ _ => False) I5 (stat I5 n5) st5 go
        refine thnF ti fun r s6 ⟨u, hr, h6⟩ => ?_
        subst hr
        refine thnF h6 fun _ s7 ⟨x, G7, I7, r7, y7, st7, n7⟩ => ?_
        have I7' := I7.pinned (stat I7 n7) (T.obj _ _ st7)
        refine thnF (pg.run _ s7 _ G7 x u _ I7' r7 (step x G7 y7)) fun _ s8 ⟨τ, G8, I8, hw8, q8⟩ => ?_
        refine thnF (pt.run _ s8 τ G8 _ I8 q8) fun b s9 ⟨G9, I9, q9⟩ => ?_
        have fin : ∀ {s2 : Shared} {G2 : Hp}, Inv (X.blk s3 G3 sc ce fp) ([] ++ pinsAt fp s7.heap) τ G2 s2 → Nx G2 → ∃ m, m < n ∧ ∃ i G2, Inv (X.blk s3 G3 sc ce fp) [] (wipe σ (own.map (·.2))) G2 s2 ∧ tn i s2.heap ∧ (∀ b ∈ fp, G2 b = none) ∧ V i m G2 := by
          intro s2 G2 I' nx
          obtain ⟨k, hk, w'⟩ := hNx G2 nx
          have pin' : ∀ b ∈ fp, ∀ o, s7.heap.get? b = some o → s2.heap.get? b = some o ∧ G2 b = none := fun b hb o e => by
            have z := I'.pin (b, o) (List.mem_append_right _ (List.mem_append_right _ (mem_pinsAt hb e)))
            exact ⟨z.1, z.2.1⟩
          have hl : (wipe σ (own.map (·.2))).length = τ.length := by rw [← hw8, wipe_length]
          refine ⟨k, hk, i + 1, G2, (I'.unpinned (pins := [])).weak hl (fun j v e => ?_), T.keep _ _ _ st7 fun b hb o e => (pin' b hb o e).1, fun b hb => ?_, w'⟩
          · rw [← hw8] at e
            exact (wipe_some e).1
          · obtain ⟨o, e, _⟩ := T.obj _ _ st7 b hb
            exact (pin' b hb o e).2
        cases b with
        | false =>
          simp only [Bool.false_eq_true, if_false] at q9 ⊢
          exact fin I9 q9
        | true =>
          simp only [if_true] at q9 ⊢
          refine thnF (pe.run _ s9 τ G9 _ I9 q9) fun z s10 ⟨yv, G10, I10, r10, c, l, ey, hL10, hz10, nx⟩ => ?_
          subst ey
          obtain ⟨tk, rfl⟩ := (show ∃ tk, z = Value.str c tk from r10)
          exact set_addT (X := X.blk s3 G3 sc ce fp) I10 hL10 hz10 fun s11 I11 => fin I11 nx
    exact PpSet.codeAny_compStart_set lp (T.self X.A 0 _ _ _ st4 lp)
  subst hs3
  exact goal
end
end Mir

namespace Mir
open PySem PySem.Spec PyProof.Rows L2
section
variable {X : Cx}
theorem pe_st {el tg it : Expr} {ifs : List Expr} {sc : Scope} {own : List (Str × Nat)} {pos : Pos} {wi : TI} {g : TG} {tt : TT} {te : TE} (calm : X.calm = true) (hN : X.N.Nodup) (hi : PI X tg it wi) (ok : BlkOk X.N X.env.scope sc own)
    (pgs : ∀ s H C cl fp, PG (X.blk s H sc (compEnvC sc cl C X.env) fp) tg g) (pts : ∀ s H C cl fp, PTs (X.blk s H sc (compEnvC sc cl C X.env) fp) ifs tt) (pes : ∀ s H C cl fp, PE (X.blk s H sc (compEnvC sc cl C X.env) fp) el te) (hs : ∀ x, foldedSetIterable it X.env x = pure x := by intro _; rfl) :
    PE X (.SetComp el [⟨tg, it, ifs, 0⟩] sc pos) (tSt X.w wi g tt te (own.map (·.2))) := by
  constructor
  intro pn s σ H Q I h
  rw [PpSet.eval_SetComp]
  refine st_core calm hN I hi ok pgs pts pes hs h ?_
  intro L C s2 m G J q hn ⟨f0, f1, f2, f3, f4, f5⟩
  exact ⟨m, hn, fun h'' sb => ⟨.ref L, G, J.turned (t' := s2.toks) (fun b o hb e => (sb.2 b hb).trans e) f0 f1 f3 f4 f5, rfl, q⟩⟩
end
end Mir

namespace Mir
open PySem PySem.Spec PyProof.Rows L2
section
variable {X : Cx} {W : WX}
/-! ## the mirror of sorted({el for tg in iter if tst}) -/
def stLoop (vs : List Nat) (tgt : TF) (tst : EF Bool) (el : EF D) : List D → List Str → ME → Option (List Str × ME)
  | [], acc, e => some (acc, e)
  | d :: ds, acc, e => match tgt d e with
    | some e1 => match tst e1 with
      | some (.ok true, e2) => match el e2 with
        | some (.ok (.str x), e3) => stLoop vs tgt tst el ds (insT acc x) (wipeE e3 vs)
        | _ => none
      | some (.ok false, e2) => stLoop vs tgt tst el ds acc (wipeE e2 vs)
      | _ => none
    | none => none
def eSrtSt (vs : List Nat) (fi : EF (List D)) (tgt : TF) (tst : EF Bool) (el : EF D) : EF FR := eBind fi fun ds e => if offAt vs e = true ∧ ds.length + 1 < scanBound then match stLoop vs tgt tst el ds [] e with
    | some (acc, e') => some (.ok (.o (.lst ((srt acc).map .str))), e')
    | none => none
  else none
theorem insT_len (l : List Str) (k : Str) : (insT l k).length ≤ l.length + 1 := by
  unfold insT
  split
  · exact Nat.le_succ _
  · simp
theorem insT_mem {l : List Str} {k z : Str} (h : z ∈ insT l k) : z ∈ l ∨ z = k := by
  unfold insT at h
  split at h
  · exact .inl h
  · simpa using h
theorem st_tr {K : PySem.W.Frag} {w : World} {vs : List Nat} {fi : EF (List D)} {tgt : TF} {tst : EF Bool} {el : EF D} {σ : St} {H : Hp} {Q : VK} (h : trF K W (eSrtSt vs fi tgt tst el) σ H Q) :
    tSt w (tr K W (RI K) fi) (trGv vs K tgt) (tr K W0 RB tst) (tr K W0 (RD K) el) vs σ H (fun v G => rSortT w [v] G Q) := by
  obtain ⟨S, env, z⟩ := h
  refine ⟨S, env, (AtF.bind (R := RI K) z).imp fun J H1 ⟨ds, S1, e1, io, st, z1⟩ => ?_⟩
  intro L hL
  obtain ⟨r, env', rel, ef, q⟩ := z1
  dsimp only at ef
  split at ef
  · rename_i hc
    obtain ⟨hoff, hlen⟩ := hc
    split at ef
    · rename_i out e' hcl
      cases ef
      have hoff := offAt_of hoff
      have l0 : (wipe σ vs).length = σ.length := wipe_length _ _
      have st0 : Step K S1 e1 (wipe σ vs) H1 S1 e1 (wipe σ vs) H1 := rel.step.off (fun i s h => wipe_out (hoff i s h)) (fun i s h => wipe_out (hoff i s h)) l0 l0
      refine ⟨fun i m G => m = ds.length - i ∧ i ≤ ds.length ∧ ∃ S2 e2 acc, Step K S1 e1 (wipe σ vs) H1 S2 e2 (wipe σ vs) (less G L) ∧ G L = some (SetTO w L acc) ∧ acc.length ≤ i ∧ (∀ x ∈ acc, x.length ≤ sizeLine) ∧ (∀ i s, e2[i]? = some (some s) → i ∉ vs) ∧ stLoop vs tgt tst el (ds.drop i) acc e2 = some (out, env'),
        ⟨ds.length, rfl, Nat.zero_le _, S1, e1, [], by rw [less_upd, less_id hL]; exact st0, upd_same, Nat.zero_le _, fun x hx => (nomatch hx), hoff, hcl⟩, ?_⟩
      rintro i m G2 ⟨rfl, hi, S2, en2, acc, st2, hH, hal, hsz, hoff2, hcl2⟩
      have bst : Step K S2 en2 (wipe σ vs) (less G2 L) S2 en2 (wipe σ vs) G2 := by
        have := st2.rel.beside (p := L) (o := SetTO w L acc) less_same
        rwa [upd_less hH] at this
      have nS : S2 L = none := by
        cases e : S2 L with
        | none => rfl
        | some u =>
          have := st2.rel.sub _ _ e
          rw [less_same] at this
          cases this
      have nO : ¬ Own en2 (wipe σ vs) L := by
        rintro ⟨j, m, h1, h2⟩
        obtain ⟨a, o, q1, q2, _, _⟩ := st2.rel.obj j m h1
        rw [h2] at q1
        cases q1
        rw [less_same] at q2
        cases q2
      by_cases hlt : i < ds.length
      · rw [List.drop_eq_getElem_cons hlt] at hcl2
        unfold stLoop at hcl2
        refine .inr ⟨io.goes i S2 en2 _ G2 hlt st2.le bst.rel, fun H3 => i + 1 ≤ ds.length ∧ ∃ S2 en2 acc, Step K S1 e1 (wipe σ vs) H1 S2 en2 (wipe σ vs) (less H3 L) ∧ H3 L = some (SetTO w L acc) ∧ acc.length ≤ i + 1 ∧ (∀ x ∈ acc, x.length ≤ sizeLine) ∧ (∀ i s, en2[i]? = some (some s) → i ∉ vs) ∧ stLoop vs tgt tst el (ds.drop (i + 1)) acc en2 = some (out, env'),
          fun H3 h3 => ⟨ds.length - (i + 1), by omega, rfl, h3⟩, fun x H3 hy => ?_⟩
        obtain ⟨S3, d, st3, hd, rd, _⟩ := io.yields i S2 en2 _ G2 x H3 hlt st2.le bst.rel hy
        rw [List.getElem?_eq_getElem hlt] at hd
        cases hd
        split at hcl2
        · rename_i e3 hg3
          refine ⟨S3, en2, _, e3, st3.rel, rd, hg3, fun S4 σ4 H4 st4 es eh ew => ?_⟩
          have ew' : wipe σ4 vs = wipe σ vs := ew.trans wipe_idem
          have st24 := st3.trans st4
          have fin : ∀ (S5 : Hp) (e5 : ME) (H5 : Hp), Step K S2 en2 (wipe σ vs) G2 S5 e5 σ4 H5 → Step K S1 e1 (wipe σ vs) H1 S5 (wipeE e5 vs) (wipe σ vs) (less H5 L) ∧ H5 L = some (SetTO w L acc) := fun S5 e5 H5 st5 => by
            refine ⟨?_, st5.frame L _ hH nS nO⟩
            have a := st2.trans (st5.lessen hH nS nO)
            have b := a.rel.wipe (vs := vs) fun j hj m hm => by
              obtain ⟨m', hm'⟩ := a.borr j m hm
              exact hoff j _ hm' hj
            rw [ew'] at b
            exact a.trans b
          refine ⟨ew', ?_⟩
          split at hcl2
          · rename_i e4 ht4
            refine ⟨S4, e3, .ok true, e4, st4.rel, ht4, fun S5 H5 st5 b hb => ?_⟩
            have hb' : true = b := hb
            subst hb'
            split at hcl2
            · rename_i y e5 hel
              refine iteT ⟨S5, e4, .ok (.str y), e5, st5.rel, hel, fun S6 H6 st6 u ru => ?_⟩
              obtain ⟨f1, f2⟩ := fin S6 e5 H6 ((st24.trans st5).trans st6)
              have il := insT_len acc y
              exact ⟨y, acc, ru.1, f2, by omega, hlt, S6, wipeE e5 vs, insT acc y, by rw [less_upd]; exact f1, upd_same, by omega, fun z hz => (insT_mem hz).elim (fun q => hsz z q) (fun q => q ▸ ru.2), fun j s h => (wipeE_some h).2, hcl2⟩
            · cases hcl2
          · rename_i e4 ht4
            refine ⟨S4, e3, .ok false, e4, st4.rel, ht4, fun S5 H5 st5 b hb => ?_⟩
            have hb' : false = b := hb
            subst hb'
            obtain ⟨f1, f2⟩ := fin S5 e4 H5 (st24.trans st5)
            exact iteF ⟨hlt, S5, wipeE e4 vs, acc, f1, f2, Nat.le_succ_of_le hal, hsz, fun j s h => (wipeE_some h).2, hcl2⟩
          · cases hcl2
        · cases hcl2
      · have e : i = ds.length := by omega
        subst e
        rw [List.drop_length] at hcl2
        have hcl3 : some (acc, en2) = some (out, env') := hcl2
        cases hcl3
        refine .inl ⟨io.stops S2 _ _ G2 st2.le bst.rel, L, out, rfl, hH, fun p hp => ?_⟩
        have full := (st2.trans bst).off (fun i s h => (wipe_out (hoff i s h)).symm) (fun i s h => (wipe_out (hoff2 i s h)).symm) l0.symm l0.symm
        have big : scanBound ≤ sizeLine := by decide +kernel
        have ll : ((srt out).map D.str).length ≤ sizeLine := by rw [List.length_map, (srt_perm out).length_eq]; omega
        exact q S2 G2 full p (.lst ((srt out).map V.str)) hp ⟨_, rfl, ll, reps_strs fun x hx => hsz x ((srt_perm out).subset hx)⟩
    · cases ef
  · cases ef
end
end Mir

namespace Mir
open PySem PySem.Spec PyProof.Rows L2
/-! ## try: several clauses with a name each; the exception is tracked in its suite -/
section
variable {X : Cx} {pins : List (Addr × Obj)} {σ : St} {H : Hp} {s : Shared} {a : Addr} {o : HO}
theorem inv_track (I : L2.Inv X pins σ H s) (na : H a = none) (n0 : ∀ u, X.s_0.heap.get? a = some u → X.H_0 a = none → False) (nL : a ≠ X.env.locals)
    (nC : ∀ x c, X.env.cells.lookup x = some c → c ≠ a) (np : ∀ p ∈ X.pn ++ pins, p.1 ≠ a) (new : ObjOk X.prog X.w (upd H a o) s.heap a o) : L2.Inv X pins σ (upd H a o) s := by
  have other : ∀ {b : Addr} {u : HO}, H b = some u → (upd H a o) b = some u := fun e => by rw [upd_ne (ne_of_none e na)]; exact e
  refine ⟨I.ok, I.os, I.bare, ⟨I.base.keep, I.base.slot, fun b u e n hx => ?_, I.base.there, fun b xs e => other (I.base.tups b xs e), fun b u xs e => other (I.base.frzs b u xs e), fun b ps e => ?_⟩, I.loc, I.cell, ?_, fun x c e => ?_, fun p hp => ?_, fun b u e => ?_, I.len⟩
  · have hb : b ≠ a := fun z => by subst z; exact n0 u e n
    rw [upd_ne hb]; exact I.base.free b u e n hx
  · obtain ⟨m, q⟩ := I.base.tbls b ps e
    exact ⟨m, other q⟩
  · rw [upd_ne (Ne.symm nL)]; exact I.free
  · rw [upd_ne (nC x c e)]; exact I.freeC x c e
  · obtain ⟨q1, q2, q3⟩ := I.pin p hp
    exact ⟨q1, by rw [upd_ne (np p hp)]; exact q2, q3⟩
  · by_cases hb : b = a
    · subst hb
      rw [upd_same] at e; cases e
      exact new
    · rw [upd_ne hb] at e
      exact (I.hok b u e).stay (fun _ _ _ q => q) (fun _ q => other q) fun _ _ q => other q
theorem inv_suite (I : L2.Inv X pins σ H s) : L2.Inv (X.suite a (X.pn ++ pins)) [] σ H s :=
  ⟨I.ok.suite _ _, I.os, I.bare, I.base, I.loc, I.cell, I.free, I.freeC, fun p hp => I.pin p (by simpa using hp), I.hok, I.len⟩
theorem inv_back (ok : X.Ok) (I : L2.Inv (X.suite a (X.pn ++ pins)) [] σ H s) : L2.Inv X pins σ H s :=
  ⟨ok, I.os, I.bare, I.base, I.loc, I.cell, I.free, I.freeC, fun p hp => I.pin p (by simpa using hp), I.hok, I.len⟩
end
abbrev ClE := Value × Nat × TS
def endN (i : Nat) (Dn : Ends) : Ends := ⟨fun τ G => Dn.nx (τ.set i none) G, Dn.rt, fun τ G => Dn.bk (τ.set i none) G, fun τ G => Dn.ct (τ.set i none) G⟩
/-- what the clauses wish, one after the other -/
def wCls (K : PySem.W.Frag) (Wo : WX) (Dn : Ends) : List ClE → WX
  | [] => Wo
  | (c, i, ts) :: r => fun cls dd σ H => ∃ b, PySem.W.exmOne K cls c = some b ∧ (b = true → ∀ a, H a = none → ts (endN i Dn) (σ.set i (some (.ref a))) (upd H a (ExH cls dd a))) ∧ (b = false → wCls K Wo Dn r cls dd σ H)
inductive HdsN (X : Cx) : List ExceptHandler → List ClE → Prop
  | nil : HdsN X [] []
  | cons {x n : Str} {c : Value} {i : Nat} {ts : TS} {st : Stmt} {sts : List Stmt} {np hp : Pos} {hs : List ExceptHandler} {l : List ClE} (hc : Names X x c) (hi : X.N[i]? = some n) (hl : X.env.kindOf n = some .local)
      (run : ∀ a pn, PSs (X.suite a pn) (st :: sts) ts) (rest : HdsN X hs l) : HdsN X (.ExceptHandler (some (.Name x np)) (some n) (st :: sts) hp :: hs) ((c, i, ts) :: l)
section
variable {X : Cx} {body : List Stmt} {h1 : ExceptHandler} {hds : List ExceptHandler} {l : List ClE} {pos : Pos} {tb : WX → TS} {Wo : WX}
/-- the clauses looked at, the exception on the ground -/
theorem clauses_run {pins : List (Addr × Obj)} {σ : St} {H : Hp} {s : Shared} {Dn : Ends} {B : Heap} {a : Addr} {cls : Value} {dd : Option Addr} (ok : X.Ok) (hN : X.N.Nodup) (hf : X.env.frame = some X.env.locals) (hst : X.stack = X.env :: X.outer)
    (land : ∀ h, HandSPX.FlyingZ B (X.env :: X.outer) a (Zc cls dd) h → s.heap.UpToSlots h → L2.Inv X pins σ H { s with heap := h })
    (na : H a = none) (n0 : ∀ u, X.s_0.heap.get? a = some u → X.H_0 a = none → False) (nL : a ≠ X.env.locals) (nC : ∀ x c, X.env.cells.lookup x = some c → c ≠ a) (np : ∀ p ∈ X.pn ++ pins, p.1 ≠ a)
    (out : Wo cls dd σ H → wpAny (model X.prog X.w) X.A (handleBy (.ref a) X.env []) (SP X pins Dn) X.xe s) (fl : HandSPX.FlyingZ B (X.env :: X.outer) a (Zc cls dd) s.heap) :
    ∀ {hds : List ExceptHandler} {l : List ClE}, HdsN X hds l → wCls X.K Wo Dn l cls dd σ H → wpAny (model X.prog X.w) X.A (handleBy (.ref a) X.env hds) (SP X pins Dn) X.xe s := by
  intro hds l hk
  induction hk with
  | nil => exact out
  | @cons x n c i ts st sts npos hpos hs2 l2 hc hi hl run rest ih =>
    rintro ⟨b, hb, yes, no⟩
    obtain ⟨oe, vs, ge, gz, gd⟩ := fl.there
    have I0 : L2.Inv X pins σ H s := land s.heap fl (Heap.UpToSlots.refl _)
    have J0 : L2.Inv (X.suite a (X.pn ++ pins)) [] σ H s := inv_suite I0
    refine wpAny_handleBy_cons (codeAny_handlers_test ?_) (fun q => by cases q)
    have ty : PySem.W.Looks (model X.prog X.w) s.heap (typeOf (.ref a)) cls := fun A Q E s k q => wpAny_typeOf_ref (k _ _ ge) (by rw [gz.1]; exact q)
    have mt := PySem.W.exm_one (M := model X.prog X.w) I0.kIn ty hb
    have named : ∀ {Q : Value → Shared → Prop} {E : Value → Shared → Prop}, Q c s → wpAny (model X.prog X.w) (X.A.mark (some (.ref a))) (eval (.Name x npos) X.env) Q E s := by
      intro Q E q
      obtain ⟨g, db, hm | ⟨hm, hv, hn⟩⟩ := hc
      · exact ld_glob (X := X.suite a (X.pn ++ pins)) J0 g hm q db
      · exact ld_blt (X := X.suite a (X.pn ++ pins)) J0 g hm hv q hn db
    refine named (mt.here ?_)
    cases b with
    | false => exact ih (no rfl)
    | true =>
      refine codeAny_handlers_suite_as (HandSPX.lands_againZ fl fun h4 fl4 up4 => ?_)
      obtain ⟨oe4, vs4, ge4, gz4, gd4⟩ := fl4.there
      have I4 := land h4 fl4 up4
      have T4 : L2.Inv X pins σ (upd H a (ExH cls dd a)) { s with heap := h4 } := inv_track I4 na n0 nL nC np
        ⟨⟨oe4, vs4, ge4, gz4, gd4⟩, ⟨oe4, ge4⟩, fun g1 g2 ⟨u, us, q1, q2, q3⟩ k => ⟨u, us, k u q1, q2, q3⟩⟩
      refine store_ok (X := X.suite a (X.pn ++ pins)) (v := .ref a) (inv_suite T4) hN hi (.inl hl) rfl (fun s5 S5 => ?_) (.inr hl)
      refine wpAny_mono ((run a (X.pn ++ pins)).run [] s5 _ _ _ S5 (yes rfl a na)) (fun f s6 hsp => ?_) (fun _ _ z => False.elim z)
      have close : ∀ {τ : St} {G : Hp} {Q : Shared → Prop}, L2.Inv (X.suite a (X.pn ++ pins)) [] τ G s6 → (∀ s7, L2.Inv X pins (τ.set i none) G s7 → Q s7) →
          wpAny (model X.prog X.w) X.A (do bindName X.env n .none; unbindBehindTheSuite X.env n hpos) (fun _ s7 => Q s7) X.xe s6 := fun S6 q => gone_ok (inv_back ok S6) hN hi hl q
      cases f with
      | next =>
        obtain ⟨τ, G, S6, q6⟩ := hsp
        exact close S6 fun s7 J7 => ⟨_, _, J7, q6⟩
      | brk =>
        obtain ⟨τ, G, S6, q6⟩ := hsp
        exact close S6 fun s7 J7 => ⟨_, _, J7, q6⟩
      | cont =>
        obtain ⟨τ, G, S6, q6⟩ := hsp
        exact close S6 fun s7 J7 => ⟨_, _, J7, q6⟩
      | ret u =>
        obtain ⟨v6, τ, G, S6, r6, q6⟩ := hsp
        exact close S6 fun s7 J7 => ⟨_, _, _, J7, r6, q6⟩
end
end Mir

namespace Mir
open PySem PySem.Spec PyProof.Rows L2
section
variable {X : Cx} {body : List Stmt} {h1 : ExceptHandler} {hds : List ExceptHandler} {l : List ClE} {pos : Pos} {tb : WX → TS} {Wo : WX}
theorem ps_tryN (hst : X.stack = X.env :: X.outer) (hf : X.env.frame = some X.env.locals) (hex : X.ex = []) (hN : X.N.Nodup) (tk : Takes X Wo)
    (hb : ∀ (W : WX) (pn : List (Addr × Obj)) (xe : Value → Shared → Prop), Takes (X.tr pn xe) W → PassesOwn (model X.prog X.w) X.A X.env xe → PSs (X.tr pn xe) body (tb W))
    (hh : HdsN X (h1 :: hds) l) : PS X (.Try body (h1 :: hds) [] [] pos) (fun Dn σ H => tb (wCls X.K Wo Dn l) Dn σ H) := by
  refine ⟨fun pins s σ H Dn inv h => wpAny_Try_except ?_⟩
  have ok := inv.ok
  have hfr : X.A.frames = some (X.env :: X.outer) := by rw [ok.frames, hst]
  obtain ⟨xe', exe⟩ : ∃ xe' : Value → Shared → Prop, xe' = fun e s₁ => wpAny (model X.prog X.w) X.A (noteFrame e X.env) (fun _ s₂ => wpAny (model X.prog X.w) X.A (setFlight e none) (fun _ s₃ =>
    wpAny (model X.prog X.w) X.A (handleBy e X.env (h1 :: hds)) (SP X pins Dn) X.xe s₃) X.xe s₂) X.xe s₁ := ⟨_, rfl⟩
  have pas : PassesOwn (model X.prog X.w) X.A X.env xe' := by rw [exe]; exact PassesOwn.looking
  have taken : Takes (X.tr (X.pn ++ pins) xe') (wCls X.K Wo Dn l) := by
    rintro u s' ⟨a, B, sI, pins', σ', H', cls, d, rfl, J', nb, up, sky, na, os, ag, w⟩
    have J : L2.Inv X pins σ' H' sI := J'.ofTry ok
    have sk : Sky B (X.env :: X.outer) a (Zc cls d) X.env.locals s'.heap := by rw [← hst]; exact sky
    show xe' _ _
    rw [exe]
    refine Sky.land Zc.steady hfr hf sk fun h3 fl up3 => ?_
    have land : ∀ h4, HandSPX.FlyingZ B (X.env :: X.outer) a (Zc cls d) h4 → h3.UpToSlots h4 → L2.Inv X pins σ' H' { s' with heap := h4 } := fun h4 f4 u4 => J.landed nb f4.1 ((up.trans up3).trans u4) os ag
    have J3 := land h3 fl (Heap.UpToSlots.refl _)
    obtain ⟨oe, vs, ge, gz, gd⟩ := fl.there
    have notin : a ∉ frs (X.env :: X.outer) := fun hm => by
      obtain ⟨_, o', e', hn⟩ := fl.2.2.1.mem hm
      rw [ge] at e'; cases e'
      exact hn _ gd
    have nL : a ≠ X.env.locals := fun z => notin (List.mem_filterMap.mpr ⟨X.env, List.mem_cons_self, by rw [hf, z]⟩)
    have gone : ∀ b o, sI.heap.get? b = some o → b ∉ frs (X.env :: X.outer) → b ≠ a := fun b o e hn z => by
      have q := nb b o e (by rw [hst]; exact hn)
      rw [z, fl.2.1] at q; cases q
    have nC : ∀ x c, X.env.cells.lookup x = some c → c ≠ a := fun x c e z => by
      obtain ⟨v, o, q1, q2⟩ := J3.cell x c e
      rw [z] at q1
      have q1' : h3.get? a = some o := q1
      rw [ge] at q1'; cases q1'
      rw [gd] at q2; cases q2
    have np : ∀ p ∈ X.pn ++ pins, p.1 ≠ a := fun p hp => by
      obtain ⟨q1, q2, q3, q4, _⟩ := J.pin p hp
      refine gone p.1 p.2 q1 fun hm => ?_
      obtain ⟨e, he, q⟩ := List.mem_filterMap.mp hm
      rcases List.mem_cons.mp he with rfl | he
      · rw [hf] at q; exact q3 (Option.some.inj q).symm
      · exact q4 (List.mem_filterMap.mpr ⟨e, he, q⟩)
    have n0 : ∀ u, X.s_0.heap.get? a = some u → X.H_0 a = none → False := fun u e n => by
      have hfs : a ∉ X.fs := fun hm => by
        obtain ⟨e, he, q⟩ := List.mem_filterMap.mp hm
        exact notin (List.mem_filterMap.mpr ⟨e, List.mem_cons_of_mem _ he, q⟩)
      exact gone a u (J.base.keep a u e n hfs (by rw [hex]; simp)) notin rfl
    refine clauses_run (s := { s' with heap := h3 }) (Wo := Wo) ok hN hf hst land na n0 nL nC np (fun wo => ?_) fl hh w
    refine wpAny_handleBy_nil ?_
    obtain ⟨_, _, _, oe1, vs1, T, oT, ts1, g1, _, g3, g4, _⟩ := id fl
    unfold PySem.passOn
    refine wpAny_bind (wpAny_field g1 g3 g4 ?_)
    rw [if_neg (show ¬ ((Value.ref T == Value.none) = true) from by simp)]
    have last : wpAny (model X.prog X.w) X.A (setFlight (.ref a) X.env.frame) (fun _ s4 => wpAny (model X.prog X.w) X.A (throw (.ref a) : Sem Flow) (SP X pins Dn) X.xe s4) X.xe { s' with heap := h3 } := by
      rw [hf]
      refine HandSPX.setFlight_upZ fl fun h4 hh4 up4 => wpAny_throw (tk _ _ ?_)
      exact ⟨a, B, sI, pins, σ', H', cls, d, rfl, J, nb, (up.trans up3).trans up4, .inr (.inr (by rw [hst]; exact hh4)), na, os, ag, wo⟩
    first
      | exact wpAny_bind (wpAny_pure (wpAny_bind last))
      | exact wpAny_bind last
  have go := (hb (wCls X.K Wo Dn l) (X.pn ++ pins) xe' taken pas).run [] s σ H Dn (inv.toTry _) h
  rw [show (X.tr (X.pn ++ pins) xe').xe = xe' from rfl, exe] at go
  refine wpAny_mono go (fun f s1 hsp => ?_) (fun _ _ z => z)
  cases f with
  | next =>
    obtain ⟨τ, G, J, q⟩ := hsp
    exact wpAny_execs_nil ⟨τ, G, J.ofTry ok, q⟩
  | brk =>
    obtain ⟨τ, G, J, q⟩ := hsp
    exact ⟨τ, G, J.ofTry ok, q⟩
  | cont =>
    obtain ⟨τ, G, J, q⟩ := hsp
    exact ⟨τ, G, J.ofTry ok, q⟩
  | ret u =>
    obtain ⟨v, τ, G, J, r, q⟩ := hsp
    exact ⟨v, τ, G, J.ofTry ok, r, q⟩
end
end Mir

namespace Mir
open PySem PySem.Spec PyProof.Rows L2
/-! ## try, mirrored -/
structure Cl where
  tab : List (Str × Bool)
  i : Nat
  g : SF
def pick (C : Str) (fs : List (Str × D)) : List Cl → SF
  | [] => fun e => some (.ex (.own C fs), e)
  | c :: r => fun e => match c.tab.lookup C with
    | some true => if isB e c.i then none else match c.g (e.set c.i (some (.v (.exc C fs)))) with
      | some (.ex _, _) => none
      | some (o, e2) => if isB e2 c.i then none else some (o, e2.set c.i none)
      | none => none
    | some false => pick C fs r e
    | none => none
def sTry (f : SF) (cl : List Cl) : SF := fun e => match f e with
  | some (.ex (.own C fs), e1) => pick C fs cl e1
  | some (.ex (.bi _), _) => none
  | r => r
/-- what a clause's table tells -/
def TabOk (K : PySem.W.Frag) (c : Value) (tab : List (Str × Bool)) : Prop := ∀ C b, tab.lookup C = some b → ∃ Ca, ClsN K C Ca ∧ PySem.W.exmOne K (.ref Ca) c = some b
inductive ClsOk (X : Cx) : List ExceptHandler → List Cl → List ClE → Prop
  | nil : ClsOk X [] [] []
  | cons {x n : Str} {c : Value} {i : Nat} {g : SF} {tab : List (Str × Bool)} {st : Stmt} {sts : List Stmt} {np hp : Pos} {hs : List ExceptHandler} {cl : List Cl} {l : List ClE} (hc : Names X x c) (ht : TabOk X.K c tab) (run : ∀ a pn, DB (X.suite a pn) W0 (st :: sts) g) (rest : ClsOk X hs cl l)
      (hi : X.N[i]? = some n := by rfl) (hl : X.env.kindOf n = some .local := by rfl) :
      ClsOk X (.ExceptHandler (some (.Name x np)) (some n) (st :: sts) hp :: hs) (⟨tab, i, g⟩ :: cl) ((c, i, trS X.K W0 g) :: l)
theorem ClsOk.hds {X : Cx} : ∀ {hs : List ExceptHandler} {cl : List Cl} {l : List ClE}, ClsOk X hs cl l → HdsN X hs l
  | _, _, _, .nil => .nil
  | _, _, _, .cons hc ht run rest hi hl => .cons hc hi hl run rest.hds
theorem pick_w {X : Cx} {W : WX} {Dn : Ends} {C : Str} {fs : List (Str × D)} : ∀ {hs : List ExceptHandler} {cl : List Cl} {l : List ClE} {S : Hp} {env : ME} {σ : St} {H : Hp} {cls : Value} {dd : Option Addr}, ClsOk X hs cl l → AtS X.K W (pick C fs cl) S env σ H Dn → RepX X.K S (.own C fs) cls dd H → wCls X.K W Dn l cls dd σ H
  | _, _, _, S, env, σ, H, cls, dd, .nil, z, r => by
    obtain ⟨o, e', rel, e, q⟩ := z
    cases e
    exact q S σ H rel.step cls dd r
  | _, _, _, S, env, σ, H, cls, dd, @ClsOk.cons _ x n c i g tab st sts np hp hs cl l hc ht run rest hi hl, z, r => by
    obtain ⟨o, e', rel, e, q⟩ := z
    unfold pick at e
    dsimp only at e
    split at e
    · rename_i hb
      obtain ⟨Ca, cn, hx⟩ := ht C true hb
      obtain ⟨Ca', cn', rfl, d, kvs, rfl, hd, rf⟩ := r
      have hca := cn'.inj cn
      subst hca
      refine ⟨true, hx, fun _ a na => ?_, fun h => absurd h (by decide)⟩
      split at e
      · cases e
      · rename_i nb
        have sa := rel.alloc (o := ExH (.ref Ca') (some d) a) na
        have sS : S a = none := by
          cases q : S a with
          | none => rfl
          | some u => rw [rel.sub _ _ q] at na; cases na
        have hd2 : (upd S a (ExH (.ref Ca') (some d) a)) d = some (.xd kvs) := by
          rw [upd_ne (ne_of_none hd sS)]; exact hd
        have sv := sa.rel.setV (i := i) (d := .exc C fs) (v := .ref a) (notB_of (by simpa using nb)) ⟨Ca', a, d, kvs, cn', rfl, upd_same, hd2, RepF.mono sa.le _ _ rf⟩
        have st2 := sa.trans sv
        cases hg : g (env.set i (some (.v (.exc C fs)))) with
        | none => rw [hg] at e; cases e
        | some p =>
          obtain ⟨o2, e2⟩ := p
          rw [hg] at e
          have nex : ∀ x, o2 ≠ .ex x := fun x hx => by subst hx; cases e
          have e5 : (if isB e2 i = true then none else some (o2, e2.set i none)) = some (o, e') := by
            cases o2 with
            | ex x => exact absurd rfl (nex x)
            | _ => exact e
          clear e
          split at e5
          · cases e5
          · rename_i nb2
            cases e5
            refine ⟨_, _, o, e2, st2.rel, hg, fun S3 σ3 H3 st3 => ?_⟩
            have sf := st3.rel.forget (i := i) (x := none) (notB_of (by simpa using nb2))
            have fin := q _ _ _ ((st2.trans st3).trans sf)
            cases o with
            | nx => exact fin
            | ret r => exact fin
            | brk => exact fin
            | cnt => exact fin
            | ex x => exact absurd rfl (nex _)
    · rename_i hb
      obtain ⟨Ca, cn, hx⟩ := ht C false hb
      have r0 := r
      obtain ⟨Ca', cn', rfl, _⟩ := r0
      have hca := cn'.inj cn
      subst hca
      exact ⟨false, hx, fun h => absurd h (by decide), fun _ => pick_w rest ⟨o, e', rel, e, q⟩ r⟩
    · cases e
section
variable {X : Cx} {W : WX} {pos : Pos}
theorem ds_try {body : List Stmt} {h1 : ExceptHandler} {hds : List ExceptHandler} {f : SF} {cl : List Cl} {l : List ClE} (hN : X.N.Nodup) (tk : Takes X W)
    (hb : ∀ (W' : WX) (pn : List (Addr × Obj)) (xe : Value → Shared → Prop), Takes (X.tr pn xe) W' → PassesOwn (model X.prog X.w) X.A X.env xe → DB (X.tr pn xe) W' body f)
    (hc : ClsOk X (h1 :: hds) cl l) (hst : X.stack = X.env :: X.outer := by rfl) (hf : X.env.frame = some X.env.locals := by rfl) (hex : X.ex = [] := by rfl) : DS X W (.Try body (h1 :: hds) [] [] pos) (sTry f cl) := by
  refine ps_imp (ps_tryN (tb := fun W' => trS X.K W' f) hst hf hex hN tk (fun W' pn xe t p => hb W' pn xe t p) hc.hds) ?_
  rintro Dn σ H ⟨S, env, o, e', rel, e, q⟩
  unfold sTry at e
  refine ⟨S, env, ?_⟩
  cases hfe : f env with
  | none => rw [hfe] at e; cases e
  | some p =>
    obtain ⟨o1, e1⟩ := p
    rw [hfe] at e
    cases o1 with
    | ex x =>
      cases x with
      | own C fs =>
        dsimp only at e
        exact ⟨_, _, rel, hfe, fun S' σ' H' st cls dd r => pick_w hc ⟨o, e', st.rel, e, fun S2 σ2 H2 st2 => q S2 σ2 H2 (st.trans st2)⟩ r⟩
      | bi n => cases e
    | nx => cases e; exact ⟨_, _, rel, hfe, fun S' σ' H' st => q S' σ' H' st⟩
    | brk => cases e; exact ⟨_, _, rel, hfe, fun S' σ' H' st => q S' σ' H' st⟩
    | cnt => cases e; exact ⟨_, _, rel, hfe, fun S' σ' H' st => q S' σ' H' st⟩
    | ret r => cases e; exact ⟨_, _, rel, hfe, fun S' σ' H' st => q S' σ' H' st⟩
end
end Mir

namespace Mir
open PySem PySem.Spec PyProof.Rows L2
/-! ## an exception read: its fields, its class -/
section
open PySem.W PySem.Calls
variable {prog : Program} {w : World} {A : Around} {E : Value → Shared → Prop} {s : Shared} {K : Frag} {x C : Addr} {ox : Obj} {od : Option Obj}
theorem find_dat {nm : Str} {a g : Value} (hc : (clsIn K C).isSome = true) (ha : findIn K (.ref C) nm = some (some a)) (hg : specialIn K a "__get__" = some (some g)) (ht : takesIn K a = some true) : findObj K C od nm = some (.bind g a) := by
  obtain ⟨cd, e⟩ := Option.isSome_iff_exists.mp hc
  unfold findObj
  rw [e, Option.bind_some, ha, Option.bind_some]
  simp [hg, ht]
theorem cls_exc {Q : Option Value → Shared → Prop} (T : L2.ExcC K C) (X : K.In s.heap) (I : InstAt s.heap x ox C od) (h : Q (some (.ref C)) { s with toks := s.toks + 1 }) : wpAny (model prog w) A (getAttr? (.ref x) "__class__") Q E s := by
  have fnd : findObj K C od "__class__" = some (.bind (.builtin "getset_descriptor.__get__") (.builtin "object.__class__")) :=
    find_dat (by obtain ⟨cd, hc, _⟩ := any_some T.hd; rw [hc]; rfl) T.ha T.hn T.ht
  obtain ⟨hp, gs, dr, tk, os⟩ := s
  have lT := I.type (M := model prog w)
  have lG := looks_findIn (M := model prog w) X T.hg
  have lK := looks_findIn (M := model prog w) X T.hk
  have lF := looks_find (M := model prog w) X I fnd
  have lB : Looks (model prog w) hp (isInstance (.ref x) (.type "BaseException")) true := lT.andThen (looks_subIn X T.hs)
  have z2 : (Value.builtin "BaseException.__getattribute__" == Value.builtin "object.__getattribute__") = false := by decide +kernel
  have z1 : (onTheHeap (Value.ref C) && Value.builtin "BaseException.__getattribute__" == Value.builtin "object.__getattribute__") = false := by rw [z2] ; rfl
  have z0 : (false && onTheHeap (Value.builtin "BaseException.__getattribute__")) = false := by rfl
  unfold getAttr? getAttrBy? getAttrBy
  refine wpAny_bind (wpAny_mkText (wpAny_bind (wpAny_attempt (wpAny_holding (wpAny_bind (lT.at (wpAny_bind (lG.at ?_))))))))
  show wpAny _ _ (if (onTheHeap (Value.ref C) && Value.builtin "BaseException.__getattribute__" == Value.builtin "object.__getattribute__") = true then _ else _) _ _ _
  rw [z1, if_neg Bool.false_ne_true]
  unfold getAttrByItsOwn hookBefore
  refine wpAny_bind ?_
  rw [if_pos (show onTheHeap (Value.ref C) = true from rfl)]
  refine lK.at (wpAny_bind (wpAny_attempt (wpAny_holding ?_)))
  unfold callGetattribute
  rw [z0, if_neg Bool.false_ne_true]
  unfold boundAndCalled
  rw [PySem.F.excAttr_ValueError.ga.bind (.ref x)]
  refine wpAny_bind (wpAny_pure ?_)
  show wpAny _ _ (call (.builtin "BaseException.__getattribute__") [.ref x, .str "__class__" tk]) _ _ _
  refine wpAny_call (codeAny_call_builtin PySem.F.excAttr_ValueError.ga.plain PySem.F.entry_bexc_ga ?_)
  refine @check_slot (model prog w) _ _ ⟨hp, gs, dr, tk + 1, os⟩ "BaseException.__getattribute__" "BaseException" "__getattribute__" (.ref x) [.str "__class__" tk] [] _ (by decide +kernel) (by decide +kernel) lB (PySem.F.args_bexc_ga (.ref x) (.str "__class__" tk)) ?_
  unfold Builtin.«object.__getattribute__»
  refine wpAny_bind (wpAny_of_eq (a := ((Value.ref x : Value), [Value.str "__class__" tk])) (by first | rfl | (simp only [slotArgs]; rfl)) ?_)
  refine wpAny_bind (wpAny_pure (wpAny_bind (lT.at (wpAny_bind (lF.at ?_)))))
  show wpAny _ _ (holding [Value.builtin "object.__class__"] (call (.builtin "getset_descriptor.__get__") [.builtin "object.__class__", .ref x, .ref C]) >>= ret) _ _ _
  refine wpAny_bind (wpAny_holding (wpAny_call (class_get (s := ⟨hp, gs, dr, tk + 1, os⟩) (ox := ox) (od := od) X I T.hm (wpAny_pure ?_))))
  show wpAny _ _ (handedOut (.ref C)) _ _ _
  rw [handedOut_of (v := .ref C) rfl]
  first
    | exact wpAny_pure (wpAny_pure h)
    | exact wpAny_pure h
    | exact wpAny_pure (wpAny_bind (wpAny_pure (wpAny_pure h)))
theorem kitx_excD (T : L2.ExcC K C) : KitX K (.ref x) (.ref C) (fun h => ∃ ox od, InstAt h x ox C od) where
  ty := fun _ _ _ ⟨_, _, I⟩ => I.type
  it := fun _ _ X _ => by
    obtain ⟨cd, hC, _⟩ := any_some T.hd
    unfold clsIn at hC
    split at hC
    · rename_i c' d' cd' sl' ho
      intro A' Q' E' s' k q
      unfold isType loadHead
      exact wpAny_bind (wpAny_loadPart (k _ _ (X _ _ ho)) (wpAny_pure q))
    · cases hC
  ne := fun h tp dd its n sl X htp => by
    obtain ⟨cd, hC, _⟩ := any_some T.hd
    refine Bool.eq_false_iff.mpr fun q => ?_
    obtain rfl : C = tp := Value.ref.inj (beq_iff_eq.mp q)
    unfold clsIn at hC
    split at hC
    · rename_i c' d' cd' sl' ho
      cases (X _ _ ho).symm.trans htp
    · cases hC
  ca := fun X ⟨_, _, I⟩ k => cls_exc T X I k
end
/-- what stands at a tracked exception -/
theorem inst_of {P : Program} {w : World} {H : Hp} {h : Heap} {a d C : Addr} {fs : List (Str × V)} (hk : HOk P w H h) (e1 : H a = some (ExH (.ref C) (some d) a)) (e2 : H d = some (.xd fs)) :
    ∃ ox od, PySem.W.InstAt h a ox C (some od) ∧ ∃ mA : Str → Option Value, (∀ f, RelO (fs.lookup f) (mA f)) ∧ ∀ name, PySem.W.lookIn name od = some (mA name) := by
  have ha : ObjOk P w H h a (ExH (.ref C) (some d) a) := hk a _ e1
  have hd : ObjOk P w H h d (.xd fs) := hk d _ e2
  obtain ⟨⟨oe, vs, ge, gz, gd⟩, _, _⟩ := ha
  obtain ⟨mA, hns, hr⟩ := hd
  obtain ⟨od, ho, hl⟩ := lookIn_ns hns
  exact ⟨oe, od, ⟨ge, gz.1, by unfold PySem.W.notCls; rw [gd] <;> rfl, by rw [gz.2]; exact ho⟩, mA, hr, hl⟩
def tXfH (C : Addr) (f : Str) (te : TE) : TE := fun σ H Q => te σ H fun x H1 => ∃ (a d : Addr) (fs : List (Str × V)) (v : V), x = .ref a ∧ H1 a = some (ExH (.ref C) (some d) a) ∧ H1 d = some (.xd fs) ∧ fs.lookup f = some v ∧ Q v H1
theorem pe_xfH {X : Cx} {C : Addr} {e : Expr} {te : TE} {pos : Pos} {n : Str} (T : XfC X.K C) (hno : PySem.W.findIn X.K (.ref C) n = some none)
    (he : PE X e te) (hb : attributeBase e n X.env (eval e X.env) = eval e X.env) : PE X (.Attribute e n pos) (tXfH C n te) := by
  refine ⟨fun pins s σ H Q I h => ?_⟩
  refine attr_of hb (thn (he.run pins s σ H _ I h) fun u s1 hh => ?_)
  obtain ⟨x, H1, I1, rx, a, d, fs, v, ex, ea, ed, l, q⟩ := hh
  subst ex
  obtain rfl : u = Value.ref a := rx
  obtain ⟨ox, od, J, mA, hr, hl⟩ := inst_of I1.hok ea ed
  obtain ⟨u, hu, ru⟩ := RelO.some_of (v := v) (o := mA n) (by rw [← l]; exact hr n)
  exact HandSPX.exc_get I1.kIn J T.ga T.gg T.exC (PySem.W.findObj_own T.hdC hno rfl (by rw [hl, hu])) (handed_of ru) ⟨v, H1, I1.tok _, ru, q⟩
def rIsX (K : PySem.W.Frag) : List V → Hp → VK → Prop := fun xs H Q => ∃ (a d C : Addr) (fs : List (Str × V)) (c : V) (cv : Value) (b : Bool), xs = [.ref a, c] ∧ H a = some (ExH (.ref C) (some d) a) ∧ H d = some (.xd fs) ∧ L2.ExcC K C ∧ (∀ u, RelV c u → u = cv) ∧ PySem.W.kitOne K (.ref C) cv = some b ∧ Q (.bl b) H
theorem call_isX {X : Cx} : CallR X (.builtin "isinstance") (rIsX X.K) := by
  intro pins s σ H xs us Q I r h
  obtain ⟨a, d, C, fs, c, cv, b, rfl, ea, ed, T, hcv, e, q⟩ := h
  cases r with
  | cons rx rr =>
    cases rr with
    | cons rt rr =>
      cases rr
      cases rx
      have ec := hcv _ rt
      subst ec
      obtain ⟨ox, od, J, _⟩ := inst_of I.hok ea ed
      exact PySem.W.kia_one (kitx_excD T) I.kIn ⟨ox, some od, J⟩ e (fun z => nomatch z) fun tk => ⟨.bl b, H, I.kept (t' := tk) fun _ _ z => z, rfl, q⟩
end Mir

namespace Mir
open PySem PySem.Spec PyProof.Rows L2
section
variable {X : Cx} {W : WX} {p pos : Pos} {C : Str} {Ca : Addr}
/-! ## e.f of an exception -/
structure XFld (K : PySem.W.Frag) (C : Str) (Ca : Addr) (f : Str) : Prop where
  cn : ClsN K C Ca
  xf : XfC K Ca
  no : PySem.W.findIn K (.ref Ca) f = some none
def oXf (C f : Str) : D → Option D
  | .exc c gs => if c = C then gs.lookup f else none
  | _ => none
theorem de_xf {o : Expr} {fo : EF AV} {fl : Str} (T : XFld X.K C Ca fl) (ho : DV X W o fo) (hb : attributeBase o fl X.env (eval o X.env) = eval o X.env := by rfl) : DE X W (.Attribute o fl pos) (eBind fo fun a => eOn a (oXf C fl)) := by
  refine pe_imp (pe_xfH T.xf T.no ho hb) ?_
  rintro σ H Q ⟨S, env, z⟩
  refine ⟨S, env, (At.bind (R := RAv X.K) z).imp fun x H1 ⟨a, S1, e1, ra, st, z1⟩ => ?_⟩
  obtain ⟨d, y, r1, hy, rel, q⟩ := z1.on ra
  cases d with
  | exc c gs =>
    unfold oXf at hy
    dsimp only at hy
    split at hy
    · rename_i hc
      subst hc
      obtain ⟨Ca', a', dx, fs, cn, rfl, h1, h2, rf⟩ := r1
      have hca := cn.inj T.cn
      subst hca
      obtain ⟨v, hl, rv⟩ := repF_lookup rf hy
      exact ⟨a', dx, fs, v, rfl, h1, h2, hl, q S1 H1 rel.step v rv⟩
    · cases hy
  | _ => cases hy
/-! ## isinstance(e, C) of an exception -/
def SubX (K : PySem.W.Frag) (cv : Value) (cs : List (Str × Bool)) : Prop := ∀ c b, cs.lookup c = some b → ∃ Cc, ClsN K c Cc ∧ L2.ExcC K Cc ∧ PySem.W.kitOne K (.ref Cc) cv = some b
def oIsX (cs : List (Str × Bool)) : D → Option D
  | .exc c _ => (cs.lookup c).map .bl
  | _ => none
theorem de_isiX {a ce : Expr} {fa : EF AV} {cv : V} {cu : Value} (cs : List (Str × Bool)) (hm : X.mg "isinstance" = none) (h2 : PE X ce (tC cv)) (hcv : ∀ u, RelV cv u → u = cu) (hsub : SubX X.K cu cs) (ha : DV X W a fa) (hg : Gl X "isinstance" := by rfl)
    (he : starEach [a, ce] X.env = (false, eval a X.env) :: starEach [ce] X.env := by rfl) (he2 : starEach [ce] X.env = (false, eval ce X.env) :: starEach [] X.env := by rfl) (hpl : (backTo pos (starEach [ce] X.env)).any (·.1) = false := by rfl) :
    DE X W (.Call (.Name "isinstance" p) [a, ce] [] pos) (eBind fa fun a => eOn a (oIsX cs)) := by
  refine pe_imp (pe_callB call_isX hg hm PyProof.Rows.boot_isinstance (pa_cons ha (pa_cons h2 pa_nil he2) he) (he := he) (hpl := hpl)) ?_
  rintro σ H Q ⟨S, env, z⟩
  refine ⟨S, env, (At.bind (R := RAv X.K) z).imp fun x H1 ⟨a, S1, e1, ra, st, z1⟩ => ?_⟩
  obtain ⟨d, y, r1, hy, rel, q⟩ := z1.on ra
  cases d with
  | exc c gs =>
    unfold oIsX at hy
    obtain ⟨b, hb, rfl⟩ := Option.map_eq_some_iff.mp hy
    obtain ⟨Cc, cn, T, hk⟩ := hsub c b hb
    obtain ⟨Ca', a', dx, fs, cn', rfl, h1, h2, rf⟩ := r1
    have hca := cn'.inj cn
    subst hca
    exact ⟨a', dx, _, fs, cv, cu, b, rfl, h1, h2, T, hcv, hk, q S1 H1 rel.step _ rfl⟩
  | _ => cases hy
/-- the class named: one of the program's own, a built-in one -/
theorem cls_own {x : Str} (h : X.mg x = some (.ref Ca)) (hg : Gl X x := by rfl) (hdb : (x == ("__debug__" : Str)) = false := by decide) : PE X (.Name x p) (tC (.ref Ca)) := pe_glob hg h rfl hdb
theorem own_only : ∀ u, RelV (.ref Ca) u → u = .ref Ca := fun u h => h
theorem cls_bi {x : Str} {n : String} (hm : X.mg x = none) (hv : bootBuiltins x = some (.type n)) (hg : Gl X x := by rfl) (hn : x ≠ "__name__" := by decide) (hdb : (x == ("__debug__" : Str)) = false := by decide) : PE X (.Name x p) (tC (.ty n)) :=
  pe_bltn (v := .ty n) hg hm hv rfl hn hdb
theorem bi_only {n : String} : ∀ u, RelV (.ty n) u → u = .type n := fun u h => h
end
end Mir

namespace Mir
open PySem PySem.Spec PyProof.Rows L2
section
variable {X : Cx} {W : WX} {p pos pos1 : Pos}
/-! ## sorted({el for tg in it if ..}), texts -/
theorem df_srtSt {elt tg it : Expr} {ifs : List Expr} {sc : Scope} {own : List (Str × Nat)} {fi : EF (List D)} {tgt : TF} {tst : EF Bool} {el : EF D} (hm : X.mg "sorted" = none) (hc : X.calm = true) (hN : X.N.Nodup) (hi : DI X W tg it fi) (ok : BlkOk X.N X.env.scope sc own)
    (hg : ∀ (s : Shared) (H : Hp) (C : Addr) (cl : List (Str × Addr)) (fp : List Addr), DGv (X.blk s H sc (compEnvC sc cl C X.env) fp) (own.map (·.2)) tg tgt)
    (ht : ∀ (s : Shared) (H : Hp) (C : Addr) (cl : List (Str × Addr)) (fp : List Addr), DTs (X.blk s H sc (compEnvC sc cl C X.env) fp) W0 ifs tst)
    (he : ∀ (s : Shared) (H : Hp) (C : Addr) (cl : List (Str × Addr)) (fp : List Addr), DE (X.blk s H sc (compEnvC sc cl C X.env) fp) W0 elt el) (hs : ∀ x, foldedSetIterable it X.env x = pure x := by intro _; rfl)
    (hgl : Gl X "sorted" := by rfl) (hst : starEach [.SetComp elt [⟨tg, it, ifs, 0⟩] sc pos1] X.env = (false, eval (.SetComp elt [⟨tg, it, ifs, 0⟩] sc pos1) X.env) :: starEach [] X.env := by rfl) :
    DF X W (.Call (.Name "sorted" p) [.SetComp elt [⟨tg, it, ifs, 0⟩] sc pos1] [] pos) (eSrtSt (own.map (·.2)) fi tgt tst el) := by
  refine pe_imp (pe_callB (cr_sortT hc) hgl hm (by decide +kernel) (pa_cons (pe_st (pos := pos1) (g := trGv (List.map (fun p : Str × Nat => p.2) own) X.K tgt) (tt := tr X.K W0 RB tst) (te := tr X.K W0 (RD X.K) el) hc hN hi ok hg ht he hs) pa_nil hst) (he := hst)) ?_
  intro σ H Q h
  exact st_tr h
/-! ## dicts, read -/
def keyD : D → Option Key
  | .int i => some (.inl i)
  | .str x => some (.inr x)
  | _ => none
def lookD : List (Key × D) → Key → Option D
  | [], _ => none
  | (j, d) :: r, k => if j = k then some d else lookD r k
def oDGet (d k : D) : Option D := match d, keyD k with
  | .dK kvs, some j => lookD kvs j
  | _, _ => none
def oDIn (k d : D) : Option D := match d, keyD k with
  | .dK kvs, some j => some (.bl (lookD kvs j).isSome)
  | _, _ => none
def oDNotIn (k d : D) : Option D := match d, keyD k with
  | .dK kvs, some j => some (.bl (!(lookD kvs j).isSome))
  | _, _ => none
theorem keyD_v {K : PySem.W.Frag} {S H : Hp} {d : D} {k : Key} {v : V} (h : keyD d = some k) (r : Rep1 K S H d v) : v = L2.kV k := by
  cases d with
  | int i => cases h; exact r
  | str x => cases h; exact r.1
  | _ => cases h
theorem keyD_r {K : PySem.W.Frag} {S : Hp} {d : D} {k : Key} {v : V} (h : keyD d = some k) (r : Rep K S d v) : v = L2.kV k := by
  cases d with
  | int i => cases h; exact r
  | str x => cases h; exact r.1
  | _ => cases h
theorem lookD_some {K : PySem.W.Frag} {S : Hp} {k : Key} {d : D} : ∀ {kds : List (Key × D)} {kvs : List (Key × V)}, RepK K S kds kvs → lookD kds k = some d → ∃ v, valV kvs k = some v ∧ Rep K S d v
  | [], _, _, h => by cases h
  | (j, x) :: ds, _, r, h => by
    obtain ⟨v, rs, rfl, r1, r2⟩ := r
    unfold lookD at h
    by_cases e : j = k
    · rw [if_pos e] at h
      cases h
      exact ⟨v, valV_pos e, r1⟩
    · rw [if_neg e] at h
      obtain ⟨w, q1, q2⟩ := lookD_some r2 h
      exact ⟨w, by rw [valV_neg e]; exact q1, q2⟩
theorem lookD_none {K : PySem.W.Frag} {S : Hp} {k : Key} : ∀ {kds : List (Key × D)} {kvs : List (Key × V)}, RepK K S kds kvs → lookD kds k = none → valV kvs k = none
  | [], _, r, _ => by cases r; rfl
  | (j, x) :: ds, _, r, h => by
    obtain ⟨v, rs, rfl, r1, r2⟩ := r
    unfold lookD at h
    by_cases e : j = k
    · rw [if_pos e] at h; cases h
    · rw [if_neg e] at h
      rw [valV_neg e]
      exact lookD_none r2 h
theorem lookD_is {K : PySem.W.Frag} {S : Hp} {k : Key} {kds : List (Key × D)} {kvs : List (Key × V)} (r : RepK K S kds kvs) : (lookD kds k).isSome = (valV kvs k).isSome := by
  cases h : lookD kds k with
  | none => rw [lookD_none r h]; rfl
  | some d => obtain ⟨v, q, _⟩ := lookD_some r h; rw [q]; rfl
def rDGet : R2 := fun x y H Q => ∃ a w, x = .ref a ∧ DGet H a y (some w) ∧ Q w H
def rDIn (neg : Bool) : R2 := fun y x H Q => ∃ a o, x = .ref a ∧ DGet H a y o ∧ Q (.bl (if neg then !o.isSome else o.isSome)) H
theorem ix_dict (hu : X.A.units + 1 < cLine) : IxR X rDGet := by
  rintro value slice pins s σ H x y v u Q I rx ry ⟨a, w, rfl, g, q⟩ hs
  obtain rfl : v = Value.ref a := rx
  unfold subscriptTail
  refine wpAny_bind ?_
  rw [getitemInPython_of_ne (dict_typeIs I g).not_modules]
  refine wpAny_bind (wpAny_specialOf (dict_typeIs I g) PySem.F.slot_dict_getitem.lookup ?_)
  have last : wpAny (model X.prog X.w) X.A (subscripted slice false (.ref a) u) (fun r t => wpAny (model X.prog X.w) X.A (letTemporaryGo value (.ref a) r >>= fun _ => pure r) (EP X pins σ Q) X.xe t) X.xe s := by
    rw [hs]
    exact wpAny_operating (d_getItem hu I g ry fun w' t J rw' => wpAny_bind (wpAny_letTemporaryGo (wpAny_pure ⟨w, H, J, rw', q⟩)))
  first
    | exact wpAny_pure (wpAny_bind last)
    | exact wpAny_bind (wpAny_pure (wpAny_bind last))
    | exact wpAny_bind last
theorem op_dictIn (hu : X.A.units + 1 < cLine) : OpR X (compareOp .In) (rDIn false) := by
  rintro pins s σ H x y v u Q I rx ry ⟨a, o, rfl, g, q⟩
  obtain rfl : u = Value.ref a := ry
  exact d_in hu I g rx fun t J => ⟨.bl o.isSome, H, J, rfl, q⟩
theorem op_dictNotIn (hu : X.A.units + 1 < cLine) : OpR X (compareOp .NotIn) (rDIn true) := by
  rintro pins s σ H x y v u Q I rx ry ⟨a, o, rfl, g, q⟩
  obtain rfl : u = Value.ref a := ry
  exact d_notIn hu I g rx fun t J => ⟨.bl (!o.isSome), H, J, rfl, q⟩
theorem ok_dget {K : PySem.W.Frag} : OpOk K rDGet oDGet := by
  intro S env σ H Q d d' v u x rel r1 r2 e q
  unfold oDGet at e
  split at e
  · rename_i kvs j hk
    obtain ⟨a, vs, rfl, hrd, hl, rk⟩ := r1
    obtain ⟨w, q1, q2⟩ := lookD_some rk e
    exact ⟨a, w, rfl, .inl ⟨vs, j, hrd, keyD_v hk r2, q1.symm⟩, q S H rel.step w q2⟩
  · cases e
theorem ok_din {K : PySem.W.Frag} : OpOk K (rDIn false) oDIn := by
  intro S env σ H Q d d' v u x rel r1 r2 e q
  unfold oDIn at e
  split at e
  · rename_i kvs j hk
    cases e
    obtain ⟨a, vs, rfl, hrd, hl, rk⟩ := r2
    refine ⟨a, valV vs j, rfl, .inl ⟨vs, j, hrd, keyD_v hk r1, rfl⟩, ?_⟩
    exact q S H rel.step _ (by show _ = _; rw [lookD_is rk]; rfl)
  · cases e
theorem ok_dnotin {K : PySem.W.Frag} : OpOk K (rDIn true) oDNotIn := by
  intro S env σ H Q d d' v u x rel r1 r2 e q
  unfold oDNotIn at e
  split at e
  · rename_i kvs j hk
    cases e
    obtain ⟨a, vs, rfl, hrd, hl, rk⟩ := r2
    refine ⟨a, valV vs j, rfl, .inl ⟨vs, j, hrd, keyD_v hk r1, rfl⟩, ?_⟩
    exact q S H rel.step _ (by show _ = _; rw [lookD_is rk]; rfl)
  · cases e
/-! ## x in a tuple of flat things -/
def flD : D → Option V
  | .non => some .non
  | .bl b => some (.bl b)
  | .int i => some (.int i)
  | .str x => some (.str x)
  | _ => none
def flDs : List D → Option (List V)
  | [] => some []
  | d :: r => match flD d, flDs r with
    | some v, some vs => some (v :: vs)
    | _, _ => none
theorem flD_v {K : PySem.W.Frag} {S : Hp} {d : D} {v w : V} (h : flD d = some v) (r : Rep K S d w) : w = v ∧ flatV v = true := by
  cases d with
  | non => cases h; exact ⟨r, rfl⟩
  | bl b => cases h; exact ⟨r, rfl⟩
  | int i => cases h; exact ⟨r, rfl⟩
  | str x => cases h; exact ⟨r.1, rfl⟩
  | _ => cases h
theorem flD_1 {K : PySem.W.Frag} {S H : Hp} {d : D} {v w : V} (h : flD d = some v) (r : Rep1 K S H d w) : w = v ∧ flatV v = true := by
  cases d with
  | non => cases h; exact ⟨r, rfl⟩
  | bl b => cases h; exact ⟨r, rfl⟩
  | int i => cases h; exact ⟨r, rfl⟩
  | str x => cases h; exact ⟨r.1, rfl⟩
  | _ => cases h
theorem flDs_v {K : PySem.W.Frag} {S : Hp} : ∀ {ds : List D} {vs ws : List V}, flDs ds = some vs → Reps K S ds ws → ws = vs ∧ vs.all flatV = true
  | [], _, _, h, r => by cases h; exact ⟨r, rfl⟩
  | d :: ds, _, _, h, r => by
    unfold flDs at h
    split at h
    · rename_i v vs h1 h2
      cases h
      obtain ⟨w, rs, rfl, r1, r2⟩ := r
      obtain ⟨rfl, f1⟩ := flD_v h1 r1
      obtain ⟨rfl, f2⟩ := flDs_v h2 r2
      exact ⟨rfl, by rw [List.all_cons, f1, f2]; rfl⟩
    · cases h
def oInT (neg : Bool) (d c : D) : Option D := match c with
  | .tup ds => match flD d, flDs ds with
    | some v, some vs => some (.bl (if neg then !inV v vs else inV v vs))
    | _, _ => none
  | _ => none
theorem ok_inT {K : PySem.W.Frag} {neg : Bool} : OpOk K (rIn K neg) (oInT neg) := by
  intro S env σ H Q d d' v u x rel r1 r2 e q
  unfold oInT at e
  split at e
  · split at e
    · rename_i ds w ws h1 h2
      cases e
      obtain ⟨a, vs, rfl, ht, hl, hlen, rr, _⟩ := r2
      obtain ⟨rfl, f1⟩ := flD_1 h1 r1
      obtain ⟨rfl, f2⟩ := flDs_v h2 rr
      exact ⟨a, vs, rfl, .inr ht.sq, f1, f2, q S H rel.step _ rfl⟩
    · cases e
  · cases e
/-! ## all of in -/
def oIn4 (d c : D) : Option D := match (match oIn d c with
  | some x => some x
  | none => oInT false d c) with
  | some x => some x
  | none => oDIn d c
def oNotIn4 (d c : D) : Option D := match (match oNotIn d c with
  | some x => some x
  | none => oInT true d c) with
  | some x => some x
  | none => oDNotIn d c
theorem c_in4 (r : RoomL X.A) : CmpR X .In oIn4 := ⟨_, OpR.or (OpR.or (op_in2 (by have := r.un; omega)) op_in_seq) (op_dictIn (by have := r.un; omega)), OpOk.or (OpOk.or ok_in2 ok_inT) ok_din⟩
theorem c_notin4 (r : RoomL X.A) : CmpR X .NotIn oNotIn4 := ⟨_, OpR.or (OpR.or (op_notInD (by have := r.un; omega)) op_notIn_seq) (op_dictNotIn (by have := r.un; omega)), OpOk.or (OpOk.or ok_notInL ok_inT) ok_dnotin⟩
/-! ## all of a[b] -/
def oIx4 (d c : D) : Option D := match oIx d c with
  | some x => some x
  | none => oDGet d c
theorem de_ix4 {a b : Expr} {fa fb : EF AV} (r : RoomL X.A) (ha : DV X W a fa) (hb : DV X W b fb) (hs : PlainIx b := by exact fun _ _ => rfl) : DE X W (.Subscript a b pos) (e2 fa fb fun x y => eOn2 x y oIx4) := by
  refine pe_imp (pe_ix (IxR.or ix3 (ix_dict (by have := r.un; omega))) ha hb hs) ?_
  rintro σ H Q ⟨S, env, z⟩
  refine ⟨S, env, (At.bind (R := RAv X.K) z).imp fun vx H1 ⟨x, S1, e1, rx, st, z1⟩ => ?_⟩
  refine ⟨S1, e1, (At.bind (R := RAv X.K) z1).imp fun vy H2 ⟨y, S2, e2, ry, st2, z2⟩ => ?_⟩
  obtain ⟨d, d', w, r1, r2, e, rel, q⟩ := z2.on2 (rx.mono st2.le) ry
  exact (OpOk.or ok_ix ok_dget) S2 e2 σ H2 Q d d' vx vy w rel r1 r2 e q
end
end Mir

namespace Mir
open PySem PySem.Spec PyProof.Rows L2
/-! ## a deep dict is locked for good, so that it may be walked -/
section
variable {K : PySem.W.Frag} {W : WX} {S : Hp} {env : ME} {σ : St} {H : Hp}
theorem Rel.lock (r : Rel K S env σ H) {a : Addr} {kvs : List (Key × V)} {od : Obj} (h : S a = some (.dK kvs)) : Step K S env σ H (upd S a (.frz od (.dK kvs))) env σ (upd H a (.frz od (.dK kvs))) := by
  have oth : ∀ {b : Addr} {o : HO}, S b = some o → o ≠ .dK kvs → (upd S a (.frz od (.dK kvs))) b = some o := fun {b o} e n => by
    rw [upd_ne (fun z => by subst z; rw [h] at e; cases e; exact n rfl)]
    exact e
  have le : Le S (upd S a (.frz od (.dK kvs))) := by
    refine ⟨fun b xs e => oth e (by simp), fun b xs e => oth e (by simp), fun b ks e => ?_, fun b C dx fs e => oth e (by simp), fun b o u e => oth e (by simp), fun b p e => oth e (by simp), fun b fs e => oth e (by simp)⟩
    rcases e with e | ⟨o, e⟩
    · by_cases hb : b = a
      · subst hb
        rw [h] at e
        cases e
        exact .inr ⟨od, upd_same⟩
      · exact .inl (by rw [upd_ne hb]; exact e)
    · exact .inr ⟨o, oth e (by simp)⟩
  refine ⟨⟨r.len, fun b u e => ?_, fun i d e => ?_, fun i m e => ?_, r.dis⟩, le, fun b hb => ?_, fun b o e hS _ => ?_, fun i m e => ⟨⟨m, e⟩, rfl⟩, fun i m e => ⟨m, e⟩, fun b e => .inl e, rfl, fun b hb => ?_⟩
  · by_cases hb : b = a
    · subst hb; rw [upd_same] at e ⊢; exact e
    · rw [upd_ne hb] at e ⊢; exact r.sub b u e
  · obtain ⟨v, e1, e2⟩ := r.val i d e
    exact ⟨v, e1, Rep.mono le _ _ e2⟩
  · obtain ⟨b, o, e1, e2, e3, e4⟩ := r.obj i m e
    have hb : b ≠ a := fun z => by subst z; rw [h] at e3; cases e3
    exact ⟨b, o, e1, by rw [upd_ne hb]; exact e2, by rw [upd_ne hb]; exact e3, e4.mono le⟩
  · by_cases hb' : b = a
    · subst hb'; exact .inl (by rw [h]; simp)
    · rw [upd_ne hb'] at hb; exact .inl hb
  · rw [upd_ne (fun z => by subst z; rw [h] at hS; cases hS)]; exact e
  · by_cases hb' : b = a
    · subst hb'; rw [upd_same]; simp
    · rw [upd_ne hb']; exact hb
end
/-- .. a dict among them is locked -/
def RDL (K : PySem.W.Frag) : RR D V := fun _ S d v => Rep K S d v ∧ ∀ kds, d = .dK kds → ∃ a o kvs, v = .ref a ∧ S a = some (.frz o (.dK kvs)) ∧ RepK K S kds kvs
theorem pe_lk {X : Cx} {W : WX} {e : Expr} {f : EF D} (h : DE X W e f) : PE X e (tr X.K W (RDL X.K) f) := by
  refine ⟨fun pins s σ H Q I ⟨S, env, r, env', rel, ef, q⟩ => ?_⟩
  cases r with
  | ex x => exact PE.run h pins s σ H Q I ⟨S, env, .ex x, env', rel, ef, q⟩
  | ok d =>
    refine thn (PE.run h pins s σ H (fun v H1 => ∃ S1, Step X.K S env σ H S1 env' σ H1 ∧ Rep X.K S1 d v) I ⟨S, env, .ok d, env', rel, ef, fun S1 H1 st v rv => ⟨S1, st, rv⟩⟩) fun u s1 ⟨x, H1, I1, rx, S1, st, rd⟩ => ?_
    have easy : (∀ kds, d ≠ .dK kds) → EP X pins σ Q u s1 := fun nd => ⟨x, H1, I1, rx, q S1 H1 st x ⟨rd, fun kds e => absurd e (nd kds)⟩⟩
    cases d with
    | dK kds =>
      have rd0 := rd
      obtain ⟨a, kvs, rfl, hrd, hl, rk⟩ := rd
      rcases hrd with hrd | ⟨o, hrd⟩
      · obtain ⟨od, I2⟩ := I1.lock (st.rel.sub _ _ hrd) (by trivial)
        have sl := st.rel.lock (od := od) hrd
        exact ⟨.ref a, _, I2, rx, q _ _ (st.trans sl) _ ⟨Rep.mono sl.le _ _ rd0, fun kds' e => by cases e; exact ⟨a, od, kvs, rfl, upd_same, RepK.mono sl.le _ _ rk⟩⟩⟩
      · exact ⟨.ref a, H1, I1, rx, q S1 H1 st _ ⟨rd0, fun kds' e => by cases e; exact ⟨a, o, kvs, rfl, hrd, rk⟩⟩⟩
    | _ => exact easy (fun _ e => by cases e)
/-! ## for k in d, d.items(), d.values() -/
def keyOf : Key → D
  | .inl i => .int i
  | .inr x => .str x
/-- the keys are texts that fit -/
def keysOk (kds : List (Key × D)) : Bool := kds.all fun p => match p.1 with
  | .inl _ => true
  | .inr x => decide (x.length ≤ sizeLine)
theorem keyOf_rep {K : PySem.W.Frag} {S : Hp} {k : Key} (h : (match k with
  | .inl _ => true
  | .inr x => decide (x.length ≤ sizeLine)) = true) : Rep K S (keyOf k) (L2.kV k) := by
  cases k with
  | inl i => rfl
  | inr x => exact ⟨rfl, of_decide_eq_true h⟩
theorem repK_at {K : PySem.W.Frag} {S : Hp} : ∀ {kds : List (Key × D)} {kvs : List (Key × V)} {i : Nat} {k : Key} {v : V}, RepK K S kds kvs → kvs[i]? = some (k, v) → ∃ d, kds[i]? = some (k, d) ∧ Rep K S d v
  | [], _, i, k, v, r, h => by cases r; simp at h
  | (j, x) :: ds, _, 0, k, v, r, h => by
    obtain ⟨w, rs, rfl, r1, r2⟩ := r
    simp at h
    obtain ⟨rfl, rfl⟩ := h
    exact ⟨x, rfl, r1⟩
  | (j, x) :: ds, _, i + 1, k, v, r, h => by
    obtain ⟨w, rs, rfl, r1, r2⟩ := r
    simp only [List.getElem?_cons_succ] at h ⊢
    exact repK_at r2 h
section
variable {K : PySem.W.Frag} {S : Hp} {a : Addr} {o : Obj} {kds : List (Key × D)} {kvs : List (Key × V)}
theorem itOk_keys (hk : keysOk kds = true) (h : S a = some (.frz o (.dK kvs))) (r : RepK K S kds kvs) : ItOk K S (Itk a o kvs) (kds.map fun p => keyOf p.1) := by
  have hl := repK_len r
  refine ItOk.still (G := fun H => H a = some (.frz o (.dK kvs))) (by rw [List.length_map, hl]; exact walk_keys) (fun S' H le sm => sm _ _ (le.frz _ _ _ h)) ?_
  rintro i S' H x H' le ⟨e, k, v, h1, rfl⟩
  obtain ⟨d, e1, e2⟩ := repK_at r h1
  refine ⟨e, keyOf k, by rw [List.getElem?_map, e1]; rfl, keyOf_rep ?_⟩
  exact List.all_eq_true.mp hk (k, d) (List.mem_of_getElem? e1)
theorem itOk_vals (h : S a = some (.frz o (.dK kvs))) (r : RepK K S kds kvs) : ItOk K S (Itd a o kvs) (kds.map fun p => p.2) := by
  have hl := repK_len r
  refine ItOk.still (G := fun H => H a = some (.frz o (.dK kvs))) (by rw [List.length_map, hl]; exact walk_values) (fun S' H le sm => sm _ _ (le.frz _ _ _ h)) ?_
  rintro i S' H x H' le ⟨e, k, h1⟩
  obtain ⟨d, e1, e2⟩ := repK_at r h1
  exact ⟨e, d, by rw [List.getElem?_map, e1]; rfl, Rep.mono le _ _ e2⟩
theorem itOk_items (hk : keysOk kds = true) (h : S a = some (.frz o (.dK kvs))) (r : RepK K S kds kvs) : ItOk K S (Iti a o kvs) (kds.map fun p => .tup [keyOf p.1, p.2]) := by
  have hl := repK_len r
  refine ItOk.pairs (G := fun H => H a = some (.frz o (.dK kvs))) (fx := fun i => kvs[i]?.map fun kv => L2.kV kv.1) (fy := fun i => kvs[i]?.map Prod.snd) (by rw [List.length_map, hl]; exact walk_items) (fun S' H le sm => sm _ _ (le.frz _ _ _ h)) ?_
  intro i S' x y le h1 h2
  obtain ⟨⟨k, v⟩, e1, rfl⟩ := Option.map_eq_some_iff.mp h1
  rw [e1] at h2
  have h2' : v = y := by simpa using h2
  subst h2'
  obtain ⟨d, e2, e3⟩ := repK_at r e1
  exact ⟨keyOf k, d, by rw [List.getElem?_map, e2]; rfl, keyOf_rep (List.all_eq_true.mp hk (k, d) (List.mem_of_getElem? e2)), Rep.mono le _ _ e3⟩
end
def oIter4 : D → EF (List D)
  | .tup ds => eRet ds
  | .lst ds => eRet ds
  | .frl ds => eRet ds
  | .str x => eRet (signs x)
  | .dK kds => if keysOk kds = true then eRet (kds.map fun p => keyOf p.1) else fun _ => none
  | _ => fun _ => none
def eOf4 (f : EF D) : EF (List D) := eBind f oIter4
section
variable {X : Cx} {W : WX} {pos apos cpos : Pos} {tg : Expr}
theorem di_val4 {e : Expr} {f : EF D} (he : DE X W e f) : DI X W tg e (eOf4 f) := by
  refine ⟨fun pins s σ H R I h => ?_⟩
  obtain ⟨S, env, h⟩ := h
  refine thn (PE.run (pe_lk he) pins s σ H _ I ⟨S, env, At.bind (R := RDL X.K) h⟩) fun v s1 ⟨x, H1, I1, r1, d, S1, env1, ⟨rd, lk⟩, st, z⟩ => ?_
  cases d with
  | tup ds =>
    obtain ⟨a, vs, rfl, hq, l, rr⟩ := rd
    cases r1
    obtain ⟨its, rv, p, hz⟩ := I1.tuple ((Le.of st.rel.sub).tupAt hq).sq
    exact wpAny_pyIter_tuple (show s1.heap.IsTuple a its.toArray from p) (pi_one (tk := s1.toks) I1 _ (turn_tuple a _) ⟨_, Heap.get?_push_size _ rfl, rfl, rfl⟩ (z.ret (itOk_tup hq rr)))
  | lst ds =>
    obtain ⟨a, vs, rfl, hq, l, rr⟩ := rd
    cases r1
    have hq' : SqL X.K S1 a vs := .inl (.inl hq)
    obtain ⟨its, rv, p, hz⟩ := I1.list ((Le.of st.rel.sub).sqL hq')
    exact wpAny_pyIter_list p.isList (pi_one (tk := s1.toks) I1 _ (turn_list a _) ⟨_, Heap.get?_push_size _ rfl, rfl, rfl⟩ (z.ret (itOk_list hq' rr)))
  | frl ds =>
    obtain ⟨a, vs, rfl, hq, l, rr⟩ := rd
    cases r1
    obtain ⟨its, rv, p, hz⟩ := I1.list ((Le.of st.rel.sub).sqL hq)
    exact wpAny_pyIter_list p.isList (pi_one (tk := s1.toks) I1 _ (turn_list a _) ⟨_, Heap.get?_push_size _ rfl, rfl, rfl⟩ (z.ret (itOk_list hq rr)))
  | dK kds =>
    obtain ⟨a, o, kvs, rfl, hf, rk⟩ := lk kds rfl
    cases r1
    unfold oIter4 at z
    dsimp only at z
    split at z
    · rename_i hk
      have q := z.ret (itOk_keys hk hf rk)
      obtain ⟨hs, hgd, hx, es, ep, vs, hdt, hsz, kv, hm⟩ := I1.frzK (st.rel.sub _ _ hf)
      refine iter_keys hs hgd hx hdt (pi_one (tk := s1.toks) I1 _ (turn_keys _ hdt) ⟨_, Heap.get?_push_size _ rfl, rfl, ?_⟩ q)
      rw [hsz] <;> rfl
    · exact (z.none rfl).elim
  | str y =>
    obtain ⟨rfl, hl⟩ := rd
    obtain ⟨t, rfl⟩ := r1
    have q := z.ret (itOk_str (K := X.K) (S := S1) (x := y))
    cases ha : y.cps.all (· < 128)
    · exact wpAny_pyIter_wide ha (pi_one (tk := s1.toks) I1 _ (turn_str _ y t "str_iterator" (.inr rfl)) ⟨_, Heap.get?_push_size _ rfl, rfl, rfl⟩ q)
    · exact wpAny_pyIter_ascii ha (pi_one (tk := s1.toks) I1 _ (turn_str _ y t "str_ascii_iterator" (.inl rfl)) ⟨_, Heap.get?_push_size _ rfl, rfl, rfl⟩ q)
  | _ => exact (z.none rfl).elim
def gItems : D → EF (List D)
  | .dK kds => if keysOk kds = true then eRet (kds.map fun p => .tup [keyOf p.1, p.2]) else fun _ => none
  | _ => fun _ => none
def gVals : D → EF (List D)
  | .dK kds => eRet (kds.map fun p => p.2)
  | _ => fun _ => none
theorem di_items {e : Expr} {f : EF D} {elts : List Expr} {kk : Nat} {tpos : Pos} (he : DE X W e f) (hbase : attributeBase e "items" X.env (eval e X.env) = eval e X.env := by rfl) (hline : (apos.endLine == cpos.line) = true := by rfl) :
    DI X W (.Tuple elts kk tpos) (.Call (.Attribute e "items" apos) [] [] cpos) (eBind f gItems) := by
  refine pi_imp (pi_items (pe_lk he) hbase hline) ?_
  rintro σ H R ⟨S, env, z⟩
  refine ⟨S, env, (At.bind (R := RDL X.K) z).imp fun x H1 ⟨d, S1, e1, ⟨rd, lk⟩, st, z1⟩ => ?_⟩
  cases d with
  | dK kds =>
    obtain ⟨a, o, kvs, rfl, hf, rk⟩ := lk kds rfl
    unfold gItems at z1
    dsimp only at z1
    split at z1
    · rename_i hk
      exact ⟨a, o, kvs, rfl, st.rel.sub _ _ hf, z1.ret (itOk_items hk hf rk)⟩
    · exact (z1.none rfl).elim
  | _ => exact (z1.none rfl).elim
theorem di_values {e : Expr} {f : EF D} (he : DE X W e f) (hbase : attributeBase e "values" X.env (eval e X.env) = eval e X.env := by rfl) (hline : (apos.endLine == cpos.line) = true := by rfl) :
    DI X W tg (.Call (.Attribute e "values" apos) [] [] cpos) (eBind f gVals) := by
  refine pi_imp (pi_values (pe_lk he) hbase hline) ?_
  rintro σ H R ⟨S, env, z⟩
  refine ⟨S, env, (At.bind (R := RDL X.K) z).imp fun x H1 ⟨d, S1, e1, ⟨rd, lk⟩, st, z1⟩ => ?_⟩
  cases d with
  | dK kds =>
    obtain ⟨a, o, kvs, rfl, hf, rk⟩ := lk kds rfl
    exact ⟨a, o, kvs, rfl, st.rel.sub _ _ hf, z1.ret (itOk_vals hf rk)⟩
  | _ => exact (z1.none rfl).elim
end
end Mir

namespace Mir
open PySem PySem.Spec PyProof.Rows L2
/-! ## d[k] = v -/
def putM (kds : List (Key × D)) (k : Key) (d : D) : List (Key × D) := if (kds.any fun p => decide (p.1 = k)) = true then kds.map (fun p => if p.1 = k then (p.1, d) else p) else kds ++ [(k, d)]
theorem repK_any {K : PySem.W.Frag} {S : Hp} {k : Key} : ∀ {kds : List (Key × D)} {kvs : List (Key × V)}, RepK K S kds kvs → (kds.any fun p => decide (p.1 = k)) = (kvs.any fun p => decide (p.1 = k))
  | [], _, r => by cases r; rfl
  | (j, x) :: ds, _, r => by
    obtain ⟨w, rs, rfl, r1, r2⟩ := r
    rw [List.any_cons, List.any_cons, repK_any r2]
theorem repK_map {K : PySem.W.Frag} {S : Hp} {k : Key} {d : D} {v : V} (h : Rep K S d v) : ∀ {kds : List (Key × D)} {kvs : List (Key × V)}, RepK K S kds kvs → RepK K S (kds.map fun p => if p.1 = k then (p.1, d) else p) (kvs.map fun p => if p.1 = k then (p.1, v) else p)
  | [], _, r => by cases r; rfl
  | (j, x) :: ds, _, r => by
    obtain ⟨w, rs, rfl, r1, r2⟩ := r
    rw [List.map_cons, List.map_cons]
    by_cases e : j = k
    · rw [if_pos e, if_pos e]; exact ⟨v, _, rfl, h, repK_map h r2⟩
    · rw [if_neg e, if_neg e]; exact ⟨w, _, rfl, r1, repK_map h r2⟩
theorem repK_snoc {K : PySem.W.Frag} {S : Hp} {k : Key} {d : D} {v : V} (h : Rep K S d v) : ∀ {kds : List (Key × D)} {kvs : List (Key × V)}, RepK K S kds kvs → RepK K S (kds ++ [(k, d)]) (kvs ++ [(k, v)])
  | [], _, r => by cases r; exact ⟨v, [], rfl, h, rfl⟩
  | (j, x) :: ds, _, r => by
    obtain ⟨w, rs, rfl, r1, r2⟩ := r
    exact ⟨w, _, rfl, r1, repK_snoc h r2⟩
theorem repK_put {K : PySem.W.Frag} {S : Hp} {k : Key} {d : D} {v : V} {kds : List (Key × D)} {kvs : List (Key × V)} (h : Rep K S d v) (r : RepK K S kds kvs) : RepK K S (putM kds k d) (putK kvs k v) := by
  unfold putM putK
  rw [repK_any r]
  split
  · exact repK_map h r
  · exact repK_snoc h r
theorem putM_len (kds : List (Key × D)) (k : Key) (d : D) : (putM kds k d).length ≤ kds.length + 1 := by
  unfold putM
  split
  · rw [List.length_map]; omega
  · simp
section
variable {X : Cx} {W : WX} {pos : Pos}
def rSetD : TSet := fun o i v H Q => ∃ a H4, o = .ref a ∧ DPut H a i v H4 ∧ Q H4
theorem set_dict (hu : X.A.units + 1 < cLine) : PSet X rSetD := by
  rintro pins s σ H o i v ov iv u Q I ro ri rv ⟨a, H4, rfl, g, q⟩
  obtain rfl : ov = Value.ref a := ro
  exact d_setItem hu I g ri rv fun t J => ⟨H4, J, q⟩
theorem PSet.or {r r' : TSet} (h : PSet X r) (h' : PSet X r') : PSet X (fun o i v H Q => r o i v H Q ∨ r' o i v H Q) := by
  intro pins s σ H o i v ov iv u Q I ro ri rv q
  rcases q with q | q
  · exact h pins s σ H o i v ov iv u Q I ro ri rv q
  · exact h' pins s σ H o i v ov iv u Q I ro ri rv q
def isObj (env : ME) (i : Nat) : Bool := match env[i]? with
  | some (some (.o _)) => true
  | some (some (.b _)) => true
  | _ => false
theorem isObj_has {env : ME} {i : Nat} (h : isObj env i = true) : ∃ m, Has env i m := by
  unfold isObj at h
  split at h
  · rename_i m e; exact ⟨m, _, e, rfl⟩
  · rename_i m e; exact ⟨m, _, e, rfl⟩
  · cases h
/-- the slot's object with an item put -/
def putAt (i : Nat) (k d : D) : SF := fun env => match env[i]? with
  | some (some s) => match s.mo with
    | some (.lst ds) => match k with
      | .int j => match ixN ds.length j with
        | some j => some (.nx, env.set i (some (s.put (.lst (ds.set j d)))))
        | none => none
      | _ => none
    | some (.dK kds) => match keyD k with
      | some j => if kds.length < sizeLine then some (.nx, env.set i (some (s.put (.dK (putM kds j d))))) else none
      | none => none
    | _ => none
  | _ => none
def sPutA (i : Nat) (fe fk : EF D) : SF := sBind fe fun d env => if isObj env i = true then sBind fk (fun k => putAt i k d) env else none
theorem ds_putA (i : Nat) {x : Str} {p tp : Pos} {k e : Expr} {fe fk : EF D} (hr : RoomL X.A) (he : DE X W e fe) (hk : DE X W k fk) (hN : X.N[i]? = some x := by rfl) (hv : Vis X.env.scope x := by first | exact Or.inl rfl | exact Or.inr (Or.inl rfl) | exact Or.inr (Or.inr rfl))
    (hd : (x == ("__debug__" : Str)) = false := by decide) (hcd : (x == ("__classdict__" : Str)) = false := by decide)
    (ha : ∀ v, assign (.Subscript (.Name x p) k tp) X.env v = (do
      let ov ← holding [v] (eval (.Name x p) X.env)
      let iv ← holding [v, ov] (eval k X.env)
      standAt tp
      holding [v, ov, iv] (setItem ov iv v)
      release [v, ov, iv] []) := by intro _; rfl)
    (hs : swapsWithSole [.Subscript (.Name x p) k tp] e pos.line X.env = pure false := by rfl) (hw : swappedStores [.Subscript (.Name x p) k tp] e X.env = pure none := by rfl)
    (h1 : (assignEach [.Subscript (.Name x p) k tp] X.env).map (·.2) = [assign (.Subscript (.Name x p) k tp) X.env] := by rfl) : DS X W (.Assign [.Subscript (.Name x p) k tp] e pos) (sPutA i fe fk) := by
  refine ps_imp (ps_asg he (pg_sub (pe_var hN hv hd hcd) hk (PSet.or set_list (set_dict (by have := hr.un; omega))) ha) hs hw h1) ?_
  rintro Dn σ H ⟨S, env, z⟩
  refine ⟨S, env, (AtS.bind (R := RD X.K) z).imp fun v H1 ⟨d, S1, en1, rd, st, z1⟩ => ?_⟩
  obtain ⟨o1, en', rel1, ef, q1⟩ := z1
  dsimp only at ef
  split at ef
  · rename_i hobj
    obtain ⟨m0, h0⟩ := isObj_has hobj
    obtain ⟨a, o, x1, x2, x3, x4⟩ := rel1.obj i _ h0
    refine ⟨.ref a, x1, S1, en1, ?_⟩
    have z2 : AtS X.K W (sBind fk fun k => putAt i k d) S1 en1 σ H1 Dn := ⟨o1, en', rel1, ef, q1⟩
    refine (AtS.bind (R := RD X.K) z2).imp fun u H2 ⟨k, S2, en2, rk, st2, z3⟩ => ?_
    obtain ⟨o3, en3, rel3, ef3, q3⟩ := z3
    have rd2 : Rep X.K S2 d v := Rep.mono st2.le _ _ rd
    unfold putAt at ef3
    split at ef3
    · rename_i s e3
      split at ef3
      · rename_i ds e4
        obtain ⟨a', o', y1, y2, y3, y4⟩ := rel3.obj i _ ⟨s, e3, e4⟩
        rw [x1] at y1
        cases y1
        obtain ⟨vs, rfl, hz, rv⟩ := y4
        split at ef3
        · rename_i j
          split at ef3
          · rename_i j' hj
            cases ef3
            have hlen := Reps.len rv
            exact .inl ⟨a, vs, j, j', rfl, rk, y2, by rw [← hlen]; exact hj, q3 _ _ _ (rel3.mut e3 e4 x1 (m' := .lst (ds.set j' d)) ⟨vs.set j' v, rfl, by rw [List.length_set]; exact hz, reps_set rd2 j' rv⟩)⟩
          · cases ef3
        · cases ef3
      · rename_i kds e4
        obtain ⟨a', o', y1, y2, y3, y4⟩ := rel3.obj i _ ⟨s, e3, e4⟩
        rw [x1] at y1
        cases y1
        obtain ⟨kvs, rfl, hz, rv⟩ := y4
        split at ef3
        · rename_i j hj
          split at ef3
          · rename_i hlt
            cases ef3
            have hlen := repK_len rv
            obtain rfl := keyD_r hj rk
            exact .inr ⟨a, _, rfl, .inl ⟨kvs, j, y2, rfl, by rw [← hlen]; exact hlt, rfl⟩, q3 _ _ _ (rel3.mut e3 e4 x1 (m' := .dK (putM kds j d)) ⟨_, rfl, by have := putM_len kds j d; omega, repK_put rd2 rv⟩)⟩
          · cases ef3
        · cases ef3
      · cases ef3
    · cases ef3
  · cases ef
/-! ## {k: v for tg in it if ..} -/
def dcLoop (vs : List Nat) (tgt : TF) (tst : EF Bool) (fk fv : EF D) : List D → List (Key × D) → ME → Option (List (Key × D) × ME)
  | [], acc, e => some (acc, e)
  | d :: ds, acc, e => match tgt d e with
    | some e1 => match tst e1 with
      | some (.ok true, e2) => match fk e2 with
        | some (.ok x, e3) => match keyD x with
          | some k => match fv e3 with
            | some (.ok y, e4) => dcLoop vs tgt tst fk fv ds (putM acc k y) (wipeE e4 vs)
            | _ => none
          | none => none
        | _ => none
      | some (.ok false, e2) => dcLoop vs tgt tst fk fv ds acc (wipeE e2 vs)
      | _ => none
    | none => none
def eDc (vs : List Nat) (fi : EF (List D)) (tgt : TF) (tst : EF Bool) (fk fv : EF D) : EF FR := eBind fi fun ds e => if offAt vs e = true ∧ ds.length ≤ sizeLine then match dcLoop vs tgt tst fk fv ds [] e with
    | some (acc, e') => some (.ok (.o (.dK acc)), e')
    | none => none
  else none
theorem dc_tr {K : PySem.W.Frag} {vs : List Nat} {fi : EF (List D)} {tgt : TF} {tst : EF Bool} {fk fv : EF D} {σ : St} {H : Hp} {Q : VK} (h : trF K W (eDc vs fi tgt tst fk fv) σ H Q) :
    tDc (tr K W (RI K) fi) (trGv vs K tgt) (tr K W0 RB tst) (tr K W0 (RD K) fk) (tr K W0 (RD K) fv) vs σ H Q := by
  obtain ⟨S, env, z⟩ := h
  refine ⟨S, env, (AtF.bind (R := RI K) z).imp fun J H1 ⟨ds, S1, e1, io, st, z1⟩ => ?_⟩
  intro L hL
  obtain ⟨r, env', rel, ef, q⟩ := z1
  dsimp only at ef
  split at ef
  · rename_i hc
    obtain ⟨hoff, hlen⟩ := hc
    split at ef
    · rename_i out e' hcl
      cases ef
      have hoff := offAt_of hoff
      have l0 : (wipe σ vs).length = σ.length := wipe_length _ _
      have st0 : Step K S1 e1 (wipe σ vs) H1 S1 e1 (wipe σ vs) H1 := rel.step.off (fun i s h => wipe_out (hoff i s h)) (fun i s h => wipe_out (hoff i s h)) l0 l0
      refine ⟨fun i m G => m = ds.length - i ∧ i ≤ ds.length ∧ ∃ S2 e2 acc vacc, Step K S1 e1 (wipe σ vs) H1 S2 e2 (wipe σ vs) (less G L) ∧ G L = some (.dK vacc) ∧ RepK K S2 acc vacc ∧ acc.length ≤ i ∧ (∀ i s, e2[i]? = some (some s) → i ∉ vs) ∧ dcLoop vs tgt tst fk fv (ds.drop i) acc e2 = some (out, env'),
        ⟨ds.length, rfl, Nat.zero_le _, S1, e1, [], [], by rw [less_upd, less_id hL]; exact st0, upd_same, rfl, Nat.zero_le _, hoff, hcl⟩, ?_⟩
      rintro i m G2 ⟨rfl, hi, S2, en2, acc, vacc, st2, hH, rr, hal, hoff2, hcl2⟩
      have bst : Step K S2 en2 (wipe σ vs) (less G2 L) S2 en2 (wipe σ vs) G2 := by
        have := st2.rel.beside (p := L) (o := .dK vacc) less_same
        rwa [upd_less hH] at this
      have nS : S2 L = none := by
        cases e : S2 L with
        | none => rfl
        | some u =>
          have := st2.rel.sub _ _ e
          rw [less_same] at this
          cases this
      have nO : ¬ Own en2 (wipe σ vs) L := by
        rintro ⟨j, m, h1, h2⟩
        obtain ⟨a, o, q1, q2, _, _⟩ := st2.rel.obj j m h1
        rw [h2] at q1
        cases q1
        rw [less_same] at q2
        cases q2
      by_cases hlt : i < ds.length
      · rw [List.drop_eq_getElem_cons hlt] at hcl2
        unfold dcLoop at hcl2
        refine .inr ⟨io.goes i S2 en2 _ G2 hlt st2.le bst.rel, fun H3 => i + 1 ≤ ds.length ∧ ∃ S2 en2 acc vacc, Step K S1 e1 (wipe σ vs) H1 S2 en2 (wipe σ vs) (less H3 L) ∧ H3 L = some (.dK vacc) ∧ RepK K S2 acc vacc ∧ acc.length ≤ i + 1 ∧ (∀ i s, en2[i]? = some (some s) → i ∉ vs) ∧ dcLoop vs tgt tst fk fv (ds.drop (i + 1)) acc en2 = some (out, env'),
          fun H3 h3 => ⟨ds.length - (i + 1), by omega, rfl, h3⟩, fun x H3 hy => ?_⟩
        obtain ⟨S3, d, st3, hd, rd, _⟩ := io.yields i S2 en2 _ G2 x H3 hlt st2.le bst.rel hy
        rw [List.getElem?_eq_getElem hlt] at hd
        cases hd
        split at hcl2
        · rename_i e3 hg3
          refine ⟨S3, en2, _, e3, st3.rel, rd, hg3, fun S4 σ4 H4 st4 es eh ew => ?_⟩
          have ew' : wipe σ4 vs = wipe σ vs := ew.trans wipe_idem
          have st24 := st3.trans st4
          have fin : ∀ (S5 : Hp) (e5 : ME) (H5 : Hp), Step K S2 en2 (wipe σ vs) G2 S5 e5 σ4 H5 → Step K S1 e1 (wipe σ vs) H1 S5 (wipeE e5 vs) (wipe σ vs) (less H5 L) ∧ H5 L = some (.dK vacc) := fun S5 e5 H5 st5 => by
            refine ⟨?_, st5.frame L _ hH nS nO⟩
            have a := st2.trans (st5.lessen hH nS nO)
            have b := a.rel.wipe (vs := vs) fun j hj m hm => by
              obtain ⟨m', hm'⟩ := a.borr j m hm
              exact hoff j _ hm' hj
            rw [ew'] at b
            exact a.trans b
          refine ⟨ew', ?_⟩
          split at hcl2
          · rename_i e4 ht4
            refine ⟨S4, e3, .ok true, e4, st4.rel, ht4, fun S5 H5 st5 b hb => ?_⟩
            have hb' : true = b := hb
            subst hb'
            split at hcl2
            · rename_i y e5 hel
              split at hcl2
              · rename_i k hk
                split at hcl2
                · rename_i y2 e6 hev
                  refine iteT ⟨S5, e4, .ok y, e5, st5.rel, hel, fun S6 H6 st6 u ru => ?_⟩
                  refine ⟨S6, e5, .ok y2, e6, st6.rel, hev, fun S7 H7 st7 u2 ru2 => ?_⟩
                  have all := ((st24.trans st5).trans st6).trans st7
                  obtain ⟨f1, f2⟩ := fin S7 e6 H7 all
                  have hl := repK_len rr
                  have pl := putM_len acc k y2
                  exact ⟨vacc, k, keyD_r hk ru, f2, by omega, hlt, S7, wipeE e6 vs, putM acc k y2, putK vacc k u2, by rw [less_upd]; exact f1, upd_same, repK_put ru2 (RepK.mono all.le _ _ rr), by omega, fun j s h => (wipeE_some h).2, hcl2⟩
                · cases hcl2
              · cases hcl2
            · cases hcl2
          · rename_i e4 ht4
            refine ⟨S4, e3, .ok false, e4, st4.rel, ht4, fun S5 H5 st5 b hb => ?_⟩
            have hb' : false = b := hb
            subst hb'
            obtain ⟨f1, f2⟩ := fin S5 e4 H5 (st24.trans st5)
            exact iteF ⟨hlt, S5, wipeE e4 vs, acc, vacc, f1, f2, RepK.mono (st24.trans st5).le _ _ rr, Nat.le_succ_of_le hal, fun j s h => (wipeE_some h).2, hcl2⟩
          · cases hcl2
        · cases hcl2
      · have e : i = ds.length := by omega
        subst e
        rw [List.drop_length] at hcl2
        have hcl3 : some (acc, en2) = some (out, env') := hcl2
        cases hcl3
        refine .inl ⟨io.stops S2 _ _ G2 st2.le bst.rel, ?_⟩
        have full := st2.off (fun i s h => (wipe_out (hoff i s h)).symm) (fun i s h => (wipe_out (hoff2 i s h)).symm) l0.symm l0.symm
        have z := q S2 (less G2 L) full L (.dK vacc) less_same ⟨vacc, rfl, by omega, rr⟩
        rwa [upd_less hH] at z
    · cases ef
  · cases ef
theorem df_dc {kx vx tg iter : Expr} {ifs : List Expr} {scope : Scope} {own : List (Str × Nat)} {fi : EF (List D)} {tgt : TF} {tst : EF Bool} {fk fv : EF D} (hc : X.calm = true) (hN : X.N.Nodup) (hi : DI X W tg iter fi) (ok : BlkOk X.N X.env.scope scope own)
    (hg : ∀ (s : Shared) (H : Hp) (C : Addr) (cl : List (Str × Addr)) (fp : List Addr), DGv (X.blk s H scope (compEnvC scope cl C X.env) fp) (own.map (·.2)) tg tgt)
    (ht : ∀ (s : Shared) (H : Hp) (C : Addr) (cl : List (Str × Addr)) (fp : List Addr), DTs (X.blk s H scope (compEnvC scope cl C X.env) fp) W0 ifs tst)
    (hk : ∀ (s : Shared) (H : Hp) (C : Addr) (cl : List (Str × Addr)) (fp : List Addr), DE (X.blk s H scope (compEnvC scope cl C X.env) fp) W0 kx fk)
    (he : ∀ (s : Shared) (H : Hp) (C : Addr) (cl : List (Str × Addr)) (fp : List Addr), DE (X.blk s H scope (compEnvC scope cl C X.env) fp) W0 vx fv) (hs : ∀ x, foldedSetIterable iter X.env x = pure x := by intro _; rfl) :
    DF X W (.DictComp kx vx [⟨tg, iter, ifs, 0⟩] scope pos) (eDc (own.map (·.2)) fi tgt tst fk fv) :=
  pe_imp (pe_dc (g := trGv (List.map (fun p : Str × Nat => p.2) own) X.K tgt) (tt := tr X.K W0 RB tst) (tk := tr X.K W0 (RD X.K) fk) (tv := tr X.K W0 (RD X.K) fv) hc hN hi ok hg ht hk he hs) fun σ H Q h => dc_tr h
end
end Mir

namespace Mir
open PySem PySem.Spec PyProof.Rows L2
/-! ## a op b, a an instance with its own def for it, b of a built-in kind -/
section
open PySem.W PySem.Calls
variable {prog : Program} {w : World} {A : Around} {E : Value → Shared → Prop} {s : Shared} {K : Frag} {x C L f : Addr} {h₀ : Heap} {m : Str → Option Value} {ox : Obj} {od : Option Obj}
def fillT (T nm : String) : Option Bool := match fastLookup T (PySem.dunder nm), fastLookup T (dunderR nm) with
  | some f, some r => some ((f.isSome && !isSeqSlot f) || (r.isSome && !isSeqSlot r))
  | _, _ => none
theorem looks_fillT {M : Model} {h : Heap} (X : K.In h) {T nm : String} {b : Bool} (e : fillT T nm = some b) : Looks M h (fillsNumberSlot (.type T) nm) b := by
  unfold fillT at e
  split at e
  · rename_i g r h1 h2
    cases e
    intro A Q E s k q
    unfold fillsNumberSlot
    exact wpAny_bind ((looks_findIn X (t := .type T) h1) A _ E s k (wpAny_bind ((looks_findIn X (t := .type T) h2) A _ E s k (wpAny_pure q))))
  · cases e
theorem looks_pySlot {M : Model} {h : Heap} (X : K.In h) {nm : String} {r : Option Value} (h1 : findIn K (.ref C) (PySem.dunder nm) = some (some (.ref f))) (h2 : findIn K (.ref C) (dunderR nm) = some r) (hr : r = none ∨ ∃ g, r = some (.ref g)) : Looks M h (numberSlotInPython (.ref C) nm) true := by
  intro A Q E s k q
  unfold numberSlotInPython
  refine wpAny_bind ((looks_findIn X h1) A _ E s k ?_)
  refine wpAny_bind (m := calledByName _ _ (some (.ref f))) (wpAny_pure ?_)
  refine wpAny_bind ((looks_findIn X h2) A _ E s k ?_)
  rcases hr with rfl | ⟨g, rfl⟩
  · refine wpAny_bind (m := calledByName _ _ none) (wpAny_pure ?_)
    exact wpAny_pure q
  · refine wpAny_bind (m := calledByName _ _ (some (.ref g))) (wpAny_pure ?_)
    exact wpAny_pure q
theorem bop1_T {nm : String} {b : Value} {T : String} {r rT : Option Value} {bt : Bool} {R : Option Value → Shared → Prop} (X : K.In s.heap) (I : InstAt s.heap x ox C od) (hb : Looks (model prog w) s.heap (typeOf b) (.type T)) (hc : selfFirst K C = true)
    (hs : findIn K (.ref C) (PySem.dunder nm) = some (some (.ref f))) (h2 : findIn K (.ref C) (dunderR nm) = some r) (hr : r = none ∨ ∃ g, r = some (.ref g))
    (hT : fillT T nm = some bt) (hT2 : fastLookup T (dunderR nm) = some rT) (hsub : subIn K (.type T) (.ref C) = some false)
    (run : wpAny (model prog w) A (tryMethod (.ref x) (PySem.dunder nm) b) (fun o s' => ∃ v, o = some v ∧ R (some v) s') E s) : wpAny (model prog w) A (binaryOp1 nm (.ref x) b) R E s := by
  obtain ⟨cd, hcd, hm⟩ := any_some hc
  obtain ⟨rest, hm⟩ : ∃ rest, cd.mro = .ref C :: rest := by
    cases q : cd.mro with
    | nil => rw [q] at hm; cases hm
    | cons a r => rw [q] at hm; exact ⟨r, by rw [List.head?_cons] at hm; cases (beq_iff_eq.mp hm); rfl⟩
  unfold binaryOp1
  refine wpAny_bind (I.type.here (wpAny_bind (hb.here (wpAny_bind ((fills_K X hcd hm hs).here ?_)))))
  rw [show (Value.ref C == Value.type T) = false from rfl]
  simp only [Bool.false_eq_true, if_false]
  refine wpAny_bind ((looks_fillT X hT).here ?_)
  cases bt with
  | false =>
    simp only [Bool.and_false, Bool.false_eq_true, if_false, Bool.false_and]
    refine wpAny_bind (wpAny_pure ?_)
    simp only [Bool.false_eq_true, if_false, if_true]
    refine wpAny_bind (m := tryMethod (.ref x) (PySem.dunder nm) b) (wpAny_mono run (fun o s' ho => ?_) fun _ _ z => z)
    obtain ⟨v, rfl, q⟩ := ho
    exact wpAny_pure q
  | true =>
    simp only [Bool.and_true, Bool.true_and, if_true, Bool.not_false]
    refine wpAny_bind ((looks_subIn X hsub).here ?_)
    simp only [Bool.false_eq_true, if_false, Bool.not_false, if_true]
    refine wpAny_bind ((looks_pySlot X hs h2 hr).here ?_)
    simp only [if_true]
    refine wpAny_bind (m := numberSlotInPython (.type T) nm) (wpAny_pure ?_)
    simp only [Bool.not_false, if_true]
    refine wpAny_bind ((looks_findIn X (t := .type T) hT2).here ?_)
    refine wpAny_bind (m := tryMethod (.ref x) (PySem.dunder nm) b) (wpAny_mono run (fun o s' ho => ?_) fun _ _ z => z)
    obtain ⟨v, rfl, q⟩ := ho
    exact wpAny_pure q
theorem binop_T {op : Operator} {b : Value} {T : String} {r rT : Option Value} {bt : Bool} {Q : Value → Shared → Prop} (X : K.In s.heap) (I : InstAt s.heap x ox C od) (hb : Looks (model prog w) s.heap (typeOf b) (.type T)) (hc : selfFirst K C = true)
    (hs : findIn K (.ref C) (PySem.dunder op.info.2) = some (some (.ref f))) (h2 : findIn K (.ref C) (dunderR op.info.2) = some r) (hr : r = none ∨ ∃ g, r = some (.ref g)) (hf : isFn K (.ref f) = true)
    (hT : fillT T op.info.2 = some bt) (hT2 : fastLookup T (dunderR op.info.2) = some rT) (hsub : subIn K (.type T) (.ref C) = some false)
    (h : wpAny (model prog w) A (call (.ref f) [.ref x, b]) (PySem.W.CmpBack Q) E s) : wpAny (model prog w) A (binaryOp op (.ref x) b) Q E s := by
  unfold binaryOp
  refine wpAny_holding (wpAny_bind (bop1_T X I hb hc hs h2 hr hT hT2 hsub ?_))
  unfold tryMethod
  refine wpAny_bind (special_fn X I hs (beq_iff_eq.mp hf) (wpAny_mono h (fun v s' hv => ?_) fun _ _ e => e))
  cases v <;> first | exact hv.elim | exact wpAny_pure ⟨_, rfl, wpAny_pure hv⟩
end
end Mir

namespace Mir
open PySem PySem.Spec PyProof.Rows L2
def kinds7 : List String := ["NoneType", "bool", "int", "str", "tuple", "list", "dict"]
theorem mem_kinds {t : String} (h : t = "NoneType" ∨ t = "bool" ∨ t = "int" ∨ t = "str" ∨ t = "tuple" ∨ t = "list" ∨ t = "dict") : t ∈ kinds7 := by
  unfold kinds7
  simp only [List.mem_cons]
  rcases h with h | h | h | h | h | h | h <;> simp [h]
def fillAll (nm : String) : Bool := kinds7.all fun T => (fillT T nm).isSome && (fastLookup T (dunderR nm)).isSome
theorem sub_no {K : PySem.W.Frag} {Ca : Addr} {t : String} (ht : t = "NoneType" ∨ t = "bool" ∨ t = "int" ∨ t = "str" ∨ t = "tuple" ∨ t = "list" ∨ t = "dict") : PySem.W.subIn K (.type t) (.ref Ca) = some false := by
  rcases ht with rfl | rfl | rfl | rfl | rfl | rfl | rfl <;> rfl
section
variable {X : Cx} {W : WX} {k j n : Nat} {f Ca : Addr} {fd : FuncData} {ps : List Str} {mf : MF} {C : Str} {a b : Expr} {fa fb : EF AV} {pos : Pos}
/-- the right operand: an instance of the class, or of a built-in kind -/
def AnyR (K : PySem.W.Frag) (Ca : Addr) (H : Hp) (y : V) : Prop := (∃ b dy gs, y = .ref b ∧ H b = some (.ins Ca dy gs)) ∨ ∃ t, TyX K H y (.type t) ∧ (t = "NoneType" ∨ t = "bool" ∨ t = "int" ∨ t = "str" ∨ t = "tuple" ∨ t = "list" ∨ t = "dict")
def rBinX (K : PySem.W.Frag) (Ca : Addr) (sp : Sp) (E : L2.St → XK) : RW2 := fun σ x y H Q => ∃ a dx fs, x = .ref a ∧ H a = some (.ins Ca dx fs) ∧ AnyR K Ca H y ∧ sp [x, y] H Q (E σ)
/-- the def for the right side, if there is one, is the program's own -/
def DunR (K : PySem.W.Frag) (Ca : Addr) (nm : Str) : Prop := ∃ r, PySem.W.findIn K (.ref Ca) nm = some r ∧ (r = none ∨ ∃ g, r = some (.ref g))
theorem op_binX {op : Operator} (tk : TkC X W) (D : Dun X.K Ca f (PySem.dunder op.info.2)) (D2 : DunR X.K Ca (dunderR op.info.2)) (sf : PySem.W.selfFirst X.K Ca = true) (hfill : fillAll op.info.2 = true) (F : FnOk X.prog X.w X.K X.mg X.base (L2.CX X.prog X.w) k f fd ps (spM X.K 2 mf)) (hb : Binds X.K fd ps []) (hr : Room j X.A) (hj : k ≤ j) :
    OpW X (binaryOp op) (rBinX X.K Ca (spM X.K 2 mf) (fun σ cls dd H => W cls dd σ H)) := by
  intro pn s σ H x y v u Q I rx ry h
  obtain ⟨a, dx, fs, rfl, ha, hy, hsp⟩ := h
  obtain rfl : v = Value.ref a := rx
  obtain ⟨mA, J, _⟩ := ins_get I.hok ha
  obtain ⟨od, J, _⟩ := J.look
  obtain ⟨m, fr⟩ := I.fr
  have run : wpAny (model X.prog X.w) X.A (call (.ref f) [.ref a, u]) (PySem.W.CmpBack (EP X pn σ Q)) X.xe s := by
    exact wpAny_mono (run_at F (hr.mono hj) rfl hb (tk σ) I (vs := [V.ref a, y]) (.cons rfl (.cons ry .nil)) hsp) (fun r s2 z => by
      obtain ⟨w, H2, I2, rv, q2⟩ := z
      exact cmpBack_of rv ⟨w, H2, I2, rv, q2⟩) fun _ _ z => z
  rcases hy with ⟨b, dy, gs, rfl, hb'⟩ | ⟨t, ty, ht⟩
  · obtain rfl : u = Value.ref b := ry
    obtain ⟨mB, J', _⟩ := ins_get I.hok hb'
    obtain ⟨od', J', _⟩ := J'.look
    exact PySem.W.binop_K fr I.ok.mod.kin J J'.type sf D.at_ D.fn run
  · obtain ⟨P, kx, hp, _⟩ := kit_of I ry ty
    obtain ⟨r, h2, hr2⟩ := D2
    have hall := List.all_eq_true.mp hfill t (mem_kinds ht)
    obtain ⟨e1, e2⟩ := Bool.and_eq_true_iff.mp hall
    obtain ⟨bt, e1⟩ := Option.isSome_iff_exists.mp e1
    obtain ⟨rT, e2⟩ := Option.isSome_iff_exists.mp e2
    exact binop_T I.kIn J (kx.ty _ _ I.kIn hp) sf D.at_ h2 hr2 D.fn e1 e2 (sub_no ht) run
theorem op_cmpX {op : CmpOp} (ho : ∀ u v, compareOp op u v = richCompare op u v) (tk : TkC X W) (D : Dun X.K Ca f (cmpInfo op).2.1) (F : FnOk X.prog X.w X.K X.mg X.base (L2.CX X.prog X.w) k f fd ps (spM X.K 2 mf)) (hb : Binds X.K fd ps []) (hr : Room j X.A) (hj : k ≤ j) :
    OpW X (compareOp op) (rBinX X.K Ca (spM X.K 2 mf) (fun σ cls dd H => W cls dd σ H)) := by
  intro pn s σ H x y v u Q I rx ry h
  obtain ⟨a, dx, fs, rfl, ha, hy, hsp⟩ := h
  obtain rfl : v = Value.ref a := rx
  obtain ⟨mA, J, _⟩ := ins_get I.hok ha
  obtain ⟨od, J, _⟩ := J.look
  obtain ⟨m, fr⟩ := I.fr
  have run : wpAny (model X.prog X.w) X.A (call (.ref f) [.ref a, u]) (PySem.W.CmpBack (EP X pn σ Q)) X.xe s := by
    exact wpAny_mono (run_at F (hr.mono hj) rfl hb (tk σ) I (vs := [V.ref a, y]) (.cons rfl (.cons ry .nil)) hsp) (fun r s2 z => by
      obtain ⟨w, H2, I2, rv, q2⟩ := z
      exact cmpBack_of rv ⟨w, H2, I2, rv, q2⟩) fun _ _ z => z
  rw [ho]
  rcases hy with ⟨b, dy, gs, rfl, hb'⟩ | ⟨t, ty, ht⟩
  · obtain rfl : u = Value.ref b := ry
    obtain ⟨mB, J', _⟩ := ins_get I.hok hb'
    obtain ⟨od', J', _⟩ := J'.look
    exact PySem.W.cmp_K (op := op) (tb := .ref Ca) hr.units0 fr I.ok.mod.kin J J'.type (by simp [PySem.W.notFirst]) D.at_ D.fn run
  · obtain ⟨P, kx, hp, _⟩ := kit_of I ry ty
    exact PySem.W.cmp_K (op := op) (tb := .type t) hr.units0 fr I.ok.mod.kin J (kx.ty _ _ I.kIn hp) (by unfold PySem.W.notFirst; rw [sub_no ht]; rfl) D.at_ D.fn run
def anyD (C : Str) : D → Bool
  | .ins c _ => decide (c = C)
  | d => (tyN d).isSome
theorem anyD_of {K : PySem.W.Frag} {S H : Hp} {d : D} {v : V} (cn : ClsN K C Ca) (h : anyD C d = true) (r : Rep1 K S H d v) : AnyR K Ca H v := by
  have rest : ∀ t, tyN d = some t → AnyR K Ca H v := fun t ht => by
    obtain ⟨tx, hts⟩ := tyX_of r ht
    exact .inr ⟨t, tx, hts⟩
  cases d with
  | ins c fs =>
    obtain rfl : c = C := of_decide_eq_true h
    obtain ⟨Ca', a', dx, fv, cn', rfl, hH, rf⟩ := r
    obtain rfl := cn'.inj cn
    exact .inl ⟨_, _, _, rfl, hH⟩
  | ty n => cases h
  | ref a => cases h
  | exc c g => cases h
  | _ => exact rest _ rfl
def kBinX (C : Str) (mf : MF) (x y : AV) : EF FR := fun env => match viewA x env, viewA y env with
  | some (.ins c _), some d => if c = C ∧ anyD C d = true then kCall mf [x, y] env else none
  | _, _ => none
def kCmpX (C : Str) (mf : MF) (x y : AV) : EF D := fun env => match viewA x env, viewA y env with
  | some (.ins c _), some d => if c = C ∧ anyD C d = true then match kCall mf [x, y] env with
    | some (.ok (.d d), e) => some (.ok d, e)
    | some (.ex x, e) => some (.ex x, e)
    | _ => none
    else none
  | _, _ => none
theorem df_opX {op : Operator} (tk : TkC X W) (cn : ClsN X.K C Ca) (D : Dun X.K Ca f (PySem.dunder op.info.2)) (D2 : DunR X.K Ca (dunderR op.info.2)) (sf : PySem.W.selfFirst X.K Ca = true) (F : FnOk X.prog X.w X.K X.mg X.base (L2.CX X.prog X.w) k f fd ps (spM X.K 2 mf)) (hd : Binds X.K fd ps []) (hr : Room j X.A) (hj : k ≤ j) (ha : DV X W a fa) (hb : DV X W b fb) (hfill : fillAll op.info.2 = true := by decide +kernel) :
    DF X W (.BinOp a op b pos) (e2F fa fb (kBinX C mf)) := by
  refine pe_imp (pe_opW (op_binX tk D D2 sf hfill F hd hr hj) ha hb) ?_
  rintro σ H Q ⟨S, env, z⟩
  refine ⟨S, env, (AtF.bind (R := RAv X.K) z).imp fun vx H1 ⟨x, S1, e1, rx, st, z1⟩ => ?_⟩
  refine ⟨S1, e1, (AtF.bind (R := RAv X.K) z1).imp fun vy H2 ⟨y, S2, e2, ry, st2, z2⟩ => ?_⟩
  obtain ⟨r, env', rel, ef, q⟩ := z2
  unfold kBinX at ef
  split at ef
  · rename_i c fs d hv hv'
    split at ef
    · rename_i hc
      obtain ⟨rfl, h2⟩ := hc
      have rx' := rx.mono st2.le
      have r2 := view_one rel ry hv'
      obtain ⟨C1, a1, dx, fv, cn1, rfl, hH, rf⟩ := view_one rel rx' hv
      obtain rfl := cn1.inj cn
      exact ⟨a1, dx, fv, rfl, hH, anyD_of cn h2 r2, kcall_sp (as := [x, y]) (vs := [V.ref a1, vy]) rel ⟨.ref a1, [vy], rfl, rx', vy, [], rfl, ry, rfl⟩ rfl ef q⟩
    · cases ef
  · cases ef
theorem cmpX_at {S : Hp} {env : ME} {σ : St} {H : Hp} {Q : VK} {x y : AV} {vx vy : V} (cn : ClsN X.K C Ca) (rx : RA X.K σ S x vx) (ry : RA X.K σ S y vy) (z : At X.K W (RD X.K) (kCmpX C mf x y) S env σ H Q) : rBinX X.K Ca (spM X.K 2 mf) (fun σ cls dd H => W cls dd σ H) σ vx vy H Q := by
  obtain ⟨r, env', rel, ef, q⟩ := z
  unfold kCmpX at ef
  split at ef
  · rename_i c fs d hv hv'
    split at ef
    · rename_i hc
      obtain ⟨rfl, h2⟩ := hc
      have r2 := view_one rel ry hv'
      obtain ⟨C1, a1, dx, fv, cn1, rfl, hH, rf⟩ := view_one rel rx hv
      obtain rfl := cn1.inj cn
      refine ⟨a1, dx, fv, rfl, hH, anyD_of cn h2 r2, ?_⟩
      split at ef
      · rename_i d e2 hk
        cases ef
        exact kcall_sp (as := [x, y]) (vs := [V.ref a1, vy]) rel ⟨.ref a1, [vy], rfl, rx, vy, [], rfl, ry, rfl⟩ rfl hk fun S' H' st' v rv => q S' H' st' v rv
      · rename_i x' e2 hk
        cases ef
        exact kcall_sp (as := [x, y]) (vs := [V.ref a1, vy]) rel ⟨.ref a1, [vy], rfl, rx, vy, [], rfl, ry, rfl⟩ rfl hk fun S' H' st' => q S' H' st'
      · cases ef
    · cases ef
  · cases ef
theorem e_cmpX {op : CmpOp} (ho : ∀ u v, compareOp op u v = richCompare op u v) (tk : TkC X W) (cn : ClsN X.K C Ca) (D : Dun X.K Ca f (cmpInfo op).2.1) (F : FnOk X.prog X.w X.K X.mg X.base (L2.CX X.prog X.w) k f fd ps (spM X.K 2 mf)) (hd : Binds X.K fd ps []) (hr : Room j X.A) (hj : k ≤ j) (ha : DV X W a fa) (hb : DV X W b fb) (hm : behindInMarks op b = false := by rfl) :
    DE X W (.Compare a [op] [b] pos) (e2 fa fb (kCmpX C mf)) := e_cmpW (op_cmpX ho tk D F hd hr hj) ha hb (fun _ _ _ _ _ _ _ _ _ rx ry z => cmpX_at cn rx ry z) hm
theorem t_cmpX {op : CmpOp} (ho : ∀ u v, compareOp op u v = richCompare op u v) (tk : TkC X W) (cn : ClsN X.K C Ca) (D : Dun X.K Ca f (cmpInfo op).2.1) (F : FnOk X.prog X.w X.K X.mg X.base (L2.CX X.prog X.w) k f fd ps (spM X.K 2 mf)) (hd : Binds X.K fd ps []) (hr : Room j X.A) (hj : k ≤ j) (ha : DV X W a fa) (hb : DV X W b fb) (hm : behindInMarks op b = false := by rfl) :
    DT X W (.Compare a [op] [b] pos) (eT (e2 fa fb (kCmpX C mf))) := t_cmpW (op_cmpX ho tk D F hd hr hj) ha hb (fun _ _ _ _ _ _ _ _ _ rx ry z => cmpX_at cn rx ry z) hm
end
end Mir

namespace Mir
open PySem PySem.Spec PyProof.Rows L2
section
variable {X : Cx} {W : WX} {p pos : Pos} {e : Expr} {es : List Expr} {fas : EF (List AV)}
/-! ## repr of data -/
def rRepr (K : PySem.W.Frag) : List V → Hp → VK → Prop := fun xs H Q => ∃ v d, xs = [v] ∧ Dp K H v d ∧ d.showable = true ∧ d.hasDict = false ∧ d.depth ≤ 100 ∧ d.shown.length ≤ sizeLine ∧ Q (.str d.shown) H
theorem call_reprD (hr : RoomL X.A) : CallR X (.builtin "repr") (rRepr X.K) := by
  intro pins s σ H xs us Q I r h
  obtain ⟨v, d, rfl, hd, hs, hn, hz, hl, q⟩ := h
  obtain ⟨u, rfl, t⟩ := vals1 r
  cases d with
  | none => cases hd; obtain rfl : u = Value.none := t; exact PySem.P.repr_of_none ⟨.str _, H, I.tok _, ⟨_, rfl⟩, q⟩
  | bool b => cases hd; obtain rfl : u = Value.bool b := t; exact PySem.P.repr_of_bool ⟨.str _, H, I.tok _, ⟨_, rfl⟩, q⟩
  | int i => cases hd; obtain ⟨tk, rfl⟩ := t; exact PySem.P.repr_of_int (of_decide_eq_true hs) ⟨.str _, H, I.tok _, ⟨_, rfl⟩, q⟩
  | str x => cases hd; obtain ⟨tk, rfl⟩ := t; exact PySem.P.repr_of_str (hsz := hl) ⟨.str _, H, I.tok _, ⟨_, rfl⟩, q⟩
  | dict kvs => cases hd
  | list xs =>
    obtain ⟨as, r1⟩ := Dp.reads I (.list xs) v u hd t
    cases hd
    obtain rfl : u = Value.ref _ := t
    exact repr_of_reads' r1 hs (fun z => by rw [hn] at z; cases z) hr.gd (by have := hr.un; omega) (fun b o z => z) (fun h' u' tk kk => ⟨.str _, H, I.kept (t' := tk) kk, ⟨_, rfl⟩, q⟩) hl
  | tuple xs =>
    obtain ⟨as, r1⟩ := Dp.reads I (.tuple xs) v u hd t
    cases hd
    obtain rfl : u = Value.ref _ := t
    exact repr_of_reads' r1 hs (fun z => by rw [hn] at z; cases z) hr.gd (by have := hr.un; omega) (fun b o z => z) (fun h' u' tk kk => ⟨.str _, H, I.kept (t' := tk) kk, ⟨_, rfl⟩, q⟩) hl
def oRepD (d : D) : Option D := match toPy d with
  | some p => if p.showable = true ∧ p.hasDict = false ∧ p.depth ≤ 100 ∧ p.shown.length ≤ sizeLine then some (.str p.shown) else none
  | none => none
theorem de_reprD (hr : RoomL X.A) (hm : X.mg "repr" = none) (ha : DA X W (e :: es) fas) (hg : Gl X "repr" := by rfl) (he : starEach (e :: es) X.env = (false, eval e X.env) :: starEach es X.env := by rfl) (hpl : (backTo pos (starEach es X.env)).any (·.1) = false := by rfl) :
    DE X W (.Call (.Name "repr" p) (e :: es) [] pos) (eBind fas (g1 fun a => eOn a oRepD)) := by
  refine de_callB (call_reprD hr) hm (by decide +kernel) ha ?_ hg (by decide) (by decide) he hpl
  intro S env σ H Q as vs ra z
  obtain ⟨a, v, rfl, r1, z⟩ := z.g1 ra
  obtain ⟨d, x, r1, hx, rel, q⟩ := z.on r1
  unfold oRepD at hx
  split at hx
  · rename_i py hpy
    split at hx
    · rename_i hc
      cases hx
      exact ⟨v, py, rfl, dp_one rel.sub r1 hpy, hc.1, hc.2.1, hc.2.2.1, hc.2.2.2, q S H rel.step _ ⟨rfl, hc.2.2.2⟩⟩
    · cases hx
  · cases hx
/-! ## bool(e) -/
def oBool : D → Option D
  | .bl b => some (.bl b)
  | .int i => some (.bl (i != 0))
  | _ => none
theorem de_bool1 (hm : X.mg "bool" = none) (ha : DA X W (e :: es) fas) (hg : Gl X "bool" := by rfl) (he : starEach (e :: es) X.env = (false, eval e X.env) :: starEach es X.env := by rfl) (hpl : (backTo pos (starEach es X.env)).any (·.1) = false := by rfl) :
    DE X W (.Call (.Name "bool" p) (e :: es) [] pos) (eBind fas (g1 fun a => eOn a oBool)) := by
  refine de_callTy call_bool1 hm (by decide +kernel) ha ?_ hg (by decide) (by decide) he hpl
  intro S env σ H Q as vs ra z
  obtain ⟨a, v, rfl, r1, z⟩ := z.g1 ra
  obtain ⟨d, x, r1, hx, rel, q⟩ := z.on r1
  cases d with
  | bl b => cases hx; exact .inr ⟨b, by rw [show v = V.bl b from r1], q S H rel.step _ rfl⟩
  | int i => cases hx; exact .inl ⟨i, by rw [show v = V.int i from r1], q S H rel.step _ rfl⟩
  | _ => cases hx
/-! ## f-strings -/
def oFmt : D → EF Str
  | .str y => if y.length ≤ sizeLine then eRet y else fun _ => none
  | .int i => if i.natAbs.log2 < 1920 then eRet (toString i) else fun _ => none
  | _ => fun _ => none
def RS : RR Str V := fun _ _ a b => b = .str a
/-- a part: its text -/
def DJ (X : Cx) (W : WX) (e : Expr) (f : EF Str) : Prop := PE X e (tr X.K W RS f)
theorem dj_txt {x : Str} {j : Nat} : DJ X W (.Constant (.str x) j pos) (eRet x) := by
  refine pe_imp pe_str ?_
  rintro σ H Q ⟨S, env, z⟩
  exact z.ret rfl
theorem dj_fmt {f : EF D} (h : DE X W e f) : DJ X W (.FormattedValue e (-1) none pos) (eBind f oFmt) := by
  refine pe_imp (pe_fmt h) ?_
  rintro σ H Q ⟨S, env, z⟩
  refine ⟨S, env, (At.bind (R := RD X.K) z).imp fun v H1 ⟨d, S1, e1, r, st, z1⟩ => ?_⟩
  cases d with
  | str y =>
    obtain ⟨rfl, hl⟩ := r
    unfold oFmt at z1
    dsimp only at z1
    rw [if_pos hl] at z1
    exact .inl ⟨y, rfl, hl, z1.ret rfl⟩
  | int i =>
    obtain rfl : v = .int i := r
    unfold oFmt at z1
    dsimp only at z1
    split at z1
    · rename_i hz
      exact .inr ⟨i, rfl, hz, z1.ret rfl⟩
    · exact (z1.none rfl).elim
  | _ => exact (z1.none rfl).elim
inductive DJs (X : Cx) (W : WX) : List Expr → List (EF Str) → Prop
  | nil : DJs X W [] []
  | cons {e : Expr} {es : List Expr} {f : EF Str} {fs : List (EF Str)} (h : DJ X W e f) (r : DJs X W es fs) : DJs X W (e :: es) (f :: fs)
def eJs : List (EF Str) → Str → EF D
  | [], acc => eRet (.str acc)
  | f :: fs, acc => eBind f fun y => if (acc ++ y).length ≤ sizeLine then eJs fs (acc ++ y) else fun _ => none
theorem DJs.pj : ∀ {es : List Expr} {fs : List (EF Str)}, DJs X W es fs → PJ X es (fs.map fun f => tr X.K W RS f)
  | _, _, .nil => .nil
  | _, _, .cons h r => .cons h r.pj
theorem js_at {σ : St} {Q : VK} : ∀ {fs : List (EF Str)} {acc : Str} {S : Hp} {env : ME} {H : Hp}, acc.length ≤ sizeLine → At X.K W (RD X.K) (eJs fs acc) S env σ H Q → tJs (fs.map fun f => tr X.K W RS f) acc σ H fun out H1 => Q (.str out) H1
  | [], acc, S, env, H, hl, z => z.ret (show Rep X.K S (.str acc) (.str acc) from ⟨rfl, hl⟩)
  | f :: fs, acc, S, env, H, hl, z => by
    refine ⟨S, env, (At.bind (R := RS) z).imp fun v H1 ⟨y, S1, e1, r, st, z1⟩ => ?_⟩
    split at z1
    · rename_i h
      exact ⟨y, r, h, js_at h z1⟩
    · exact (z1.none rfl).elim
theorem de_joined {v1 v2 : Expr} {rest : List Expr} {fs : List (EF Str)} (h : DJs X W (v1 :: v2 :: rest) fs) : DE X W (.JoinedStr (v1 :: v2 :: rest) pos) (eJs fs Str.empty) := by
  refine pe_imp (pe_joined h.pj) ?_
  rintro σ H Q ⟨S, env, z⟩
  exact js_at (Nat.zero_le _) z
/-- f'{e}' alone -/
def eStrOf (f : EF Str) : EF D := eBind f fun y => if y.length ≤ sizeLine then eRet (.str y) else fun _ => none
theorem de_joined1 {f : EF Str} (h : DJ X W e f) : DE X W (.JoinedStr [e] pos) (eStrOf f) := by
  refine pe_imp (pe_joined1 h) ?_
  rintro σ H Q ⟨S, env, z⟩
  refine ⟨S, env, (At.bind (R := RS) z).imp fun v H1 ⟨y, S1, e1, r, st, z1⟩ => ?_⟩
  split at z1
  · rename_i hl
    exact z1.ret (show Rep X.K S1 (.str y) v from ⟨r, hl⟩)
  · exact (z1.none rfl).elim
/-- {e:spec} of an int -/
structure NoDig (X : Cx) : Prop where
  nd : PySem.W.nsIn X.K PySem.cStatics "sys.int_max_str_digits" = some none
def oFmtI (sp : Str) : D → EF Str
  | .int i => if i.natAbs < 1000000000000000000 then eRet (intSpecTextOf sp i) else fun _ => none
  | _ => fun _ => none
theorem dj_fmtI {sp : Str} {f : EF D} {j : Nat} {p2 p3 : Pos} (N : NoDig X) (h : DE X W e f) (hok : intSpecOk sp = true := by decide +kernel) (hsz : sp.length ≤ sizeLine := by decide) : DJ X W (.FormattedValue e (-1) (some (.JoinedStr [.Constant (.str sp) j p2] p3)) pos) (eBind f (oFmtI sp)) := by
  refine ⟨fun pins s σ H Q I ⟨S, env, z⟩ => ?_⟩
  refine wpAny_FormattedValue_spec (thn (PE.run h pins s σ H _ I ⟨S, env, At.bind (R := RD X.K) z⟩) fun v s1 ⟨x, H1, I1, r1, d, S1, e1, rd, st, z1⟩ => ?_)
  refine thn ((pe_joined1 (pe_str (x := sp) (j := j) (pos := p2)) (pos := p3)).run pins s1 σ H1 (fun y H2 => y = .str sp ∧ H2 = H1) I1 ⟨rfl, rfl⟩) fun u s2 ⟨y, H2, I2, ry, ey, eh⟩ => ?_
  subst ey eh
  obtain ⟨tk, rfl⟩ := ry
  refine ⟨sp, tk, rfl, ?_⟩
  cases d with
  | int i =>
    obtain rfl : x = .int i := rd
    obtain ⟨t, rfl⟩ := r1
    unfold oFmtI at z1
    dsimp only at z1
    split at z1
    · rename_i hi
      obtain ⟨mc, hn, _⟩ := I2.nolimit
      refine formatField_int_specOf ⟨mc, hn, PySem.W.ns_none_of I2.kIn hn N.nd⟩ (lt_digitLimit_of_lt hi) hok (fun _ _ _ => ⟨.str _, H2, (I2.tok _).tok _, ⟨_, rfl⟩, z1.ret rfl⟩) hsz
    · exact (z1.none rfl).elim
  | _ => exact (z1.none rfl).elim
end
end Mir

namespace Mir
open PySem PySem.Spec PyProof.Rows L2
section
variable {X : Cx} {W : WX} {k j n : Nat} {f Ca : Addr} {fd : FuncData} {ps : List Str} {mf : MF} {C : Str} {p pos apos kpos : Pos} {e o : Expr} {es : List Expr} {fas : EF (List AV)}
/-! ## o(e, ..), o an instance with its own def for it -/
structure CallI (K : PySem.W.Frag) (Ca g : Addr) : Prop where
  at_ : PySem.W.findIn K (.ref Ca) "__call__" = some (some (.ref g))
  fn : PySem.W.isFn K (.ref g) = true
  fi : PySem.W.fnIn K g = true
def kCallI2 (C : Str) (n : Nat) (mf : MF) (a : AV) (as : List AV) : EF FR := fun env => match viewA a env with
  | some (.ins c _) => if c = C ∧ as.length + 1 = n then kCall mf (a :: as) env else none
  | _ => none
def kCallI (C : Str) (n : Nat) (mf : MF) (fas : EF (List AV)) (a : AV) : EF FR := fun env => match viewA a env with
  | some (.ins _ _) => eBind fas (kCallI2 C n mf a) env
  | _ => none
def eCallI (C : Str) (n : Nat) (mf : MF) (fo : EF AV) (fas : EF (List AV)) : EF FR := eBind fo (kCallI C n mf fas)
def tCallI (Ca : Addr) (sp : Sp) (E : L2.St → XK) (tf : TE) (t : TA) : TE := fun σ H Q => tf σ H fun y H1 => ∃ a, y = V.ref a ∧ t σ H1 fun vs H2 => (∃ dx fs, H2 a = some (.ins Ca dx fs)) ∧ sp (V.ref a :: vs) H2 Q (E σ)
theorem df_callI {fo : EF AV} (tk : TkC X W) (cn : ClsN X.K C Ca) (c : CallI X.K Ca f) (F : FnOk X.prog X.w X.K X.mg X.base (L2.CX X.prog X.w) k f fd ps (spM X.K n mf)) (hb : Binds X.K fd ps []) (hr : Room j X.A) (hj : k ≤ j) (ho : DV X W o fo) (ha : DA X W (e :: es) fas)
    (ht : eval (.Call o (e :: es) [] pos) X.env = (do callWith pos (← eval o X.env) [] (backTo pos (starEach (e :: es) X.env)) (backToKw pos (keywordEach [] X.env))) := by rfl)
    (he : starEach (e :: es) X.env = (false, eval e X.env) :: starEach es X.env := by rfl) (hpl : (backTo pos (starEach es X.env)).any (·.1) = false := by rfl) : DF X W (.Call o (e :: es) [] pos) (eCallI C n mf fo fas) := by
  have base : PE X (.Call o (e :: es) [] pos) (tCallI Ca (spM X.K n mf) (fun σ cls dd H => W cls dd σ H) (tr X.K W (RAv X.K) fo) (tr X.K W (RAl X.K) fas)) := by
    refine ⟨fun pins s σ H Q I h => Call_ (thn (PE.run ho pins s σ H _ I h) fun u s1 ⟨y, H1, I1, ry, a, ey, q⟩ => ?_) ht⟩
    subst ey
    obtain rfl : u = Value.ref a := ry
    refine StX.callO_with (thn (PA.run ha pos pins s1 σ H1 _ I1 q) fun us s2 ⟨vs, H2, I2, r, ⟨dx, fs, hi⟩, q2⟩ => ?_) he hpl
    obtain ⟨mA, O, _⟩ := ins_get I2.hok hi
    obtain ⟨od, J, _⟩ := O.look
    refine ⟨⟨Ca, _, _, J, rfl⟩, ?_⟩
    have all : Vals (V.ref a :: vs) (Value.ref a :: us) := .cons rfl r
    have many : (Value.ref a :: us).length = ps.length := all.length.symm.trans (F.len _ _ _ _ q2)
    have bd := hb s2 (Value.ref a :: us) I2.kIn (by simpa using many)
    refine wpAny_call (PySem.W.kco_code I2.kIn J rfl c.at_ c.fn c.fi (codeAny_mono (F.run X.A X.stack s2 H2 ⟨Value.ref a :: us, []⟩ (Value.ref a :: us) _ Q _ (hr.mono hj) I2.env0 (by simpa using bd) all q2) fun r s' hq => ?_))
    match r, hq with
    | .error e, hq => exact tk σ pins H2 s2 e s' I2 hq
    | .ok (.ret u), hq => exact I2.after hq
  refine pe_imp base ?_
  rintro σ H Q ⟨S, env, z⟩
  refine ⟨S, env, (AtF.bind (R := RAv X.K) z).imp fun y H1 ⟨a, S1, e1, ra, st, z1⟩ => ?_⟩
  obtain ⟨r, env', rel, ef, q⟩ := z1
  unfold kCallI at ef
  split at ef
  · rename_i c fs hv
    obtain ⟨Ca0, a0, dx0, fv0, cn0, rfl, hH0, rf0⟩ := view_one rel ra hv
    refine ⟨a0, rfl, S1, e1, ?_⟩
    have z2 : AtF X.K W (eBind fas (kCallI2 C n mf a)) S1 e1 σ H1 Q := ⟨r, env', rel, ef, q⟩
    refine (AtF.bind (R := RAl X.K) z2).imp fun vs H2 ⟨as, S2, e2, rv, st2, z3⟩ => ?_
    obtain ⟨r3, en3, rel3, ef3, q3⟩ := z3
    unfold kCallI2 at ef3
    split at ef3
    · rename_i c2 fs2 hv2
      split at ef3
      · rename_i hc
        obtain ⟨rfl, hln⟩ := hc
        have ra2 := ra.mono st2.le
        obtain ⟨Ca1, a1, dx1, fv1, cn1, e1', hH1, rf1⟩ := view_one rel3 ra2 hv2
        cases e1'
        obtain rfl := cn1.inj cn
        have z4 : AtF X.K W (kCall mf (a :: as)) S2 e2 σ H2 Q := ⟨r3, en3, rel3, ef3, q3⟩
        exact ⟨⟨_, _, hH1⟩, z4.kcall ⟨.ref a0, vs, rfl, ra2, rv⟩ (by simpa using hln)⟩
      · cases ef3
    · cases ef3
  · cases ef
/-! ## C(e, .., k = e, ..) -/
/-- behind the new object -/
def inG {α : Type} (g : List α → List α → List α) (vs ws : List α) : List α := match vs with
  | v :: r => v :: g r ws
  | [] => []
/-- the arguments in the def's order: g puts the written ones, the keywords' and the defaults there -/
def eArgs (g : List AV → List AV → List AV) (a b : Nat) (fas fks : EF (List AV)) : EF (List AV) := eBind fas fun as => eBind fks fun zs => if as.length = a ∧ zs.length = b then eRet (g as zs) else fun _ => none
def DK (X : Cx) (W : WX) (ks : List Keyword) (f : EF (List AV)) : Prop := PK X ks (tr X.K W (RAl X.K) f)
theorem pk_imp {ks : List Keyword} {t t' : TA} (h : PK X ks t) (w : ∀ σ H Q, t' σ H Q → t σ H Q) : PK X ks t' := ⟨fun pos pins s σ H Q I q => h.run pos pins s σ H Q I (w σ H Q q)⟩
theorem dk_nil : DK X W [] (eRet []) := by
  refine pk_imp pk_nil ?_
  rintro σ H Q ⟨S, env, z⟩
  exact z.ret (R := RAl X.K) rfl
theorem dk_cons {ks : List Keyword} {nm : Option Str} {f : EF AV} {g : EF (List AV)} (ha : DV X W e f) (hr : DK X W ks g) : DK X W (⟨nm, e, kpos⟩ :: ks) (eCons f g) := by
  refine pk_imp (pk_cons ha hr) ?_
  rintro σ H Q ⟨S, env, z⟩
  refine ⟨S, env, (At.bind (R := RAv X.K) z).imp fun v H1 ⟨a, S1, e1, ra, st, z1⟩ => ?_⟩
  refine ⟨S1, e1, (At.bind (R := RAl X.K) z1).imp fun vs H2 ⟨as, S2, e2, rs, st2, z2⟩ => ?_⟩
  exact z2.ret (R := RAl X.K) ⟨v, vs, rfl, ra.mono st2.le, rs⟩
/-- g on the mirror's side and on the values' -/
structure GOk (K : PySem.W.Frag) (g : List AV → List AV → List AV) (gV : List V → List V → List V) : Prop where
  ok : ∀ (σ : L2.St) (S : Hp) (as zs : List AV) (vs ws : List V), RAs K σ S as vs → RAs K σ S zs ws → RAs K σ S (g as zs) (gV vs ws)
theorem gok_app {K : PySem.W.Frag} : GOk K (fun as zs => as ++ zs) (fun vs ws => vs ++ ws) := ⟨fun _ _ _ _ _ _ h h' => ras_app h h'⟩
def tMakK (Ca : Addr) (sp : Sp) (gV : List V → List V → List V) (a b : Nat) (E : L2.St → XK) (t tk : TA) : TE := fun σ H Q => t σ H fun vs H1 => tk σ H1 fun ws H2 => vs.length = a ∧ ws.length = b ∧ ∀ x dx, H2 x = none → H2 dx = none → dx ≠ x →
  sp (.ref x :: gV vs ws) (upd (upd H2 dx (.own x)) x (.ins Ca dx [])) (fun v H3 => v = .non ∧ Q (.ref x) H3) (E σ)
theorem mk_runK {ks : List Str} {g : List Value → List Value → List Value} {gV : List V → List V → List V} {E : XK} {pn : List (Addr × Obj)} {σ : L2.St} {h0 : Hp} {s0 : Shared} {G : VK} {us us2 : List Value} {vs ws : List V} {sp : Sp}
    (M : Mk X.K Ca f) (F : FnOk X.prog X.w X.K X.mg X.base (L2.CX X.prog X.w) k f fd ps sp) (room : Room (k + 1) X.A) (kb : KBn X.K fd ps (n + 1) ks g (inG gV)) (hx : PassesAt (L2.CX X.prog X.w) X σ E) (inv : L2.Inv X pn σ h0 s0) (rv : Vals vs us) (rw' : Vals ws us2) (l1 : vs.length = n) (l2 : ws.length = ks.length)
    (hsp : ∀ x dx, h0 x = none → h0 dx = none → dx ≠ x → sp (.ref x :: gV vs ws) (upd (upd h0 dx (.own x)) x (.ins Ca dx [])) (fun v h2 => v = .non ∧ G (.ref x) h2) E) :
    wpAny (model X.prog X.w) X.A (call (.ref Ca) us (ks.zip us2)) (EP X pn σ G) X.xe s0 := by
  have made := Inv.made (C := Ca) inv
  have told := hsp (s0.heap.objs.size + 1) s0.heap.objs.size (inv.hok.fresh (by omega)) (inv.hok.fresh (by omega)) (Nat.ne_of_lt (Nat.lt_succ_self _))
  have r1 : Vals (V.ref (s0.heap.objs.size + 1) :: vs) (Value.ref (s0.heap.objs.size + 1) :: us) := .cons rfl rv
  have all := kb.rel r1 rw'
  have bd := kb.to { s0 with heap := (s0.heap.push { cls := .type "dict", data := .dict #[] }).push (PySem.W.instObj Ca s0.heap.objs.size) } (Value.ref (s0.heap.objs.size + 1) :: us) us2 made.kIn (r1.length.symm.trans (congrArg Nat.succ l1)) (rw'.length.symm.trans l2)
  have ran := F.run _ X.stack _ _ ⟨Value.ref (s0.heap.objs.size + 1) :: us, ks.zip us2⟩ _ _ _ E (room.make Ca us (ks.zip us2)) (made.env0.make Ca us (ks.zip us2)) bd all told
  refine wpAny_call (make_map (f := f) inv.kIn M.makes M.init (beq_iff_eq.mp M.fn) (codeAny_mono ran fun r s2 hr => ?_))
  match r, hr with
  | .error e, hr => exact hx pn _ _ e s2 made hr
  | .ok (.ret u), hr =>
    obtain ⟨v, h2, inv2, ru, ev, g⟩ := made.after hr
    subst ev
    exact ⟨ru, V.ref (s0.heap.objs.size + 1), h2, inv2, rfl, g⟩
theorem eArgs_len {g : List AV → List AV → List AV} {a b m : Nat} {fas fks : EF (List AV)} (hg : ∀ as zs, as.length = a → zs.length = b → (g as zs).length = m) {en en' : ME} {as : List AV} (h : eArgs g a b fas fks en = some (.ok as, en')) : as.length = m := by
  unfold eArgs eBind at h
  cases h1 : fas en with
  | none => rw [h1] at h; cases h
  | some p =>
    obtain ⟨r1, e1⟩ := p
    rw [h1] at h
    cases r1 with
    | ex x => cases h
    | ok as1 =>
      dsimp only at h
      cases h2 : fks e1 with
      | none => rw [h2] at h; cases h
      | some p2 =>
        obtain ⟨r2, e2⟩ := p2
        rw [h2] at h
        cases r2 with
        | ex x => cases h
        | ok zs =>
          dsimp only at h
          split at h
          · rename_i hc
            cases h
            exact hg _ _ hc.1 hc.2
          · cases h
theorem df_makeK {ks : List Str} {kws : List Keyword} {fks : EF (List AV)} {g : List Value → List Value → List Value} {gV : List V → List V → List V} {gM : List AV → List AV → List AV} {nn : Nat} (tk : TkC X W) (M : Made X.K X.mg C Ca f) (F : FnOk X.prog X.w X.K X.mg X.base (L2.CX X.prog X.w) k f fd ps (spM X.K nn mf))
    (kb : KBn X.K fd ps (n + 1) ks g (inG gV)) (G : GOk X.K gM gV) (hr : Room j X.A) (hj : k + 1 ≤ j) (ha : DA X W (e :: es) fas) (hk : DK X W kws fks) (hgl : ∀ as zs, as.length = n → zs.length = ks.length → (gM as zs).length + 1 = nn)
    (hg : Gl X C := by rfl) (hall : (backToKw pos (keywordEach kws X.env)).all (·.1.isSome) = true := by rfl) (hks : (backToKw pos (keywordEach kws X.env)).filterMap (·.1) = ks := by rfl)
    (hdb : (C == ("__debug__" : Str)) = false := by decide) (he : starEach (e :: es) X.env = (false, eval e X.env) :: starEach es X.env := by rfl)
    (hpl : ((backTo pos (starEach (e :: es) X.env)).any (·.1) || (backToKw pos (keywordEach kws X.env)).any (·.1.isNone)) = false := by rfl) :
    DF X W (.Call (.Name C p) (e :: es) kws pos) (eMake C mf [] (eArgs gM n ks.length fas fks)) := by
  have base : PE X (.Call (.Name C p) (e :: es) kws pos) (tMakK Ca (spM X.K nn mf) gV n ks.length (fun σ cls dd H => W cls dd σ H) (tr X.K W (RAl X.K) fas) (tr X.K W (RAl X.K) fks)) := by
    refine ⟨fun pn s σ H Q inv h => wpAny_Call_Name_kw (ld_glob inv hg M.at_ ?_ hdb)⟩
    refine PySem.W.callWith_KW (h₀ := X.base) inv.ok.mod.kin M.mak.kp hall (thn (PA.run ha pos pn s σ H _ inv h) fun us s1 ⟨vs, H1, inv1, rv, q⟩ => ?_) hpl he
    refine thn (PK.run hk pos pn s1 σ H1 _ inv1 q) fun ws s2 ⟨zs, H2, inv2, rz, l1, l2, q2⟩ => ⟨inv2.kIn, ?_⟩
    rw [hks]
    exact mk_runK M.mak F (hr.mono hj) kb (tk σ) inv2 rv rz l1 l2 q2
  refine pe_imp base ?_
  rintro σ H Q ⟨S, env, z⟩
  have z1 := z.make (n := nn) (ex := []) (dvs := []) (fun S => (rfl : Reps X.K S [] [])) M.cn (fun en as en' h => by
    have := eArgs_len (m := nn - 1) (fun as zs h1 h2 => by have := hgl as zs h1 h2; omega) h
    have h3 : 1 ≤ nn := by
      have := hgl (List.replicate n (.d .non)) (List.replicate ks.length (.d .non)) (by simp) (by simp)
      omega
    simp; omega)
  refine ⟨S, env, (At.bind (R := RAl X.K) z1).imp fun vs H1 ⟨as, S1, e1, ra, st, z2⟩ => ?_⟩
  refine ⟨S1, e1, (At.bind (R := RAl X.K) z2).imp fun ws H2 ⟨zs, S2, e2, rz, st2, z3⟩ => ?_⟩
  split at z3
  · rename_i hc
    have ra2 : RAs X.K σ S2 as vs := RAs.mono st2.le ra
    refine ⟨by rw [← RAs.len ra2]; exact hc.1, by rw [← RAs.len rz]; exact hc.2, ?_⟩
    have := z3.ret (G.ok _ _ _ _ _ _ ra2 rz)
    simpa using this
  · exact (z3.none rfl).elim
end
end Mir

namespace Mir
open PySem PySem.Spec PyProof.Rows L2
/-! ## a comprehension whose own name is a local of the def too: the local is set aside -/
section
variable {K : PySem.W.Frag} {W : WX} {S S' : Hp} {env env' : ME} {σ : St} {H H' : Hp} {v : Nat} {d : D}
theorem at_set_none {e : ME} {i : Nat} {s : Sl} (h : (e.set v none)[i]? = some (some s)) : i ≠ v ∧ e[i]? = some (some s) := by
  rw [List.getElem?_set] at h
  split at h
  · split at h <;> cases h
  · rename_i q
    exact ⟨fun e => q e.symm, h⟩
theorem Rel.hide (r : Rel K S env σ H) : Rel K S (env.set v none) σ H := by
  refine ⟨by rw [List.length_set]; exact r.len, r.sub, fun i x h => r.val i x (at_set_none h).2, fun i m ⟨s, h, e⟩ => r.obj i m ⟨s, (at_set_none h).2, e⟩, fun i j m m' a ⟨s, h, e⟩ ⟨s', h', e'⟩ q q' => r.dis i j m m' a ⟨s, (at_set_none h).2, e⟩ ⟨s', (at_set_none h').2, e'⟩ q q'⟩
theorem at_set_v {e : ME} {i : Nat} {s : Sl} (hs : s.mo ≠ none) (h : (e.set v (some (.v d)))[i]? = some (some s)) : i ≠ v ∧ e[i]? = some (some s) := by
  rw [List.getElem?_set] at h
  split at h
  · split at h
    · cases h
      exact absurd rfl hs
    · cases h
  · rename_i q
    exact ⟨fun e => q e.symm, h⟩
theorem Step.unhide (r : Rel K S env σ H) (hv : env[v]? = some (some (.v d))) (st : Step K S (env.set v none) σ H S' env' σ H') : Step K S env σ H S' (env'.set v (some (.v d))) σ H' := by
  obtain ⟨x, hx, rx⟩ := r.val v d hv
  have oo : ∀ b, OwnO (env.set v none) σ b → OwnO env σ b := fun b ⟨i, m, h, q⟩ => ⟨i, m, (at_set_none h).2, q⟩
  have ow : ∀ b, Own (env.set v none) σ b → Own env σ b := fun b ⟨i, m, ⟨s, h, e⟩, q⟩ => ⟨i, m, ⟨s, (at_set_none h).2, e⟩, q⟩
  refine ⟨⟨by rw [List.length_set]; exact st.rel.len, st.rel.sub, fun i y h => ?_, fun i m ⟨s, h, e⟩ => ?_, fun i j m m' a ⟨s, h, e⟩ ⟨s', h', e'⟩ q q' => ?_⟩, st.le, fun b h => ?_, fun b o h hS n => ?_, fun i m h => ?_, fun i m h => ?_, fun a h => ?_, rfl, st.keep⟩
  · rw [List.getElem?_set] at h
    split at h
    · rename_i q
      subst q
      split at h
      · cases h
        exact ⟨x, hx, Rep.mono st.le _ _ rx⟩
      · cases h
    · exact st.rel.val i y h
  · exact st.rel.obj i m ⟨s, (at_set_v (by rw [e]; simp) h).2, e⟩
  · exact st.rel.dis i j m m' a ⟨s, (at_set_v (by rw [e]; simp) h).2, e⟩ ⟨s', (at_set_v (by rw [e']; simp) h').2, e'⟩ q q'
  · rcases st.fresh b h with h | h | h
    · exact .inl h
    · exact .inr (.inl h)
    · exact .inr (.inr (oo b h))
  · exact st.frame b o h hS fun q => n (ow b q)
  · have hi : i ≠ v := fun e => by
      rw [e, hv] at h
      cases h
    have h1 : (env.set v none)[i]? = some (some (Sl.b m)) := by
      rw [List.getElem?_set, if_neg (fun e => hi e.symm)]
      exact h
    obtain ⟨⟨m', q⟩, _⟩ := st.bor i m h1
    refine ⟨⟨m', ?_⟩, rfl⟩
    rw [List.getElem?_set, if_neg (fun e => hi e.symm)]
    exact q
  · obtain ⟨m', q⟩ := st.borr i m (at_set_v (by simp [Sl.mo]) h).2
    exact ⟨m', (at_set_none q).2⟩
  · obtain ⟨i, m, h, q⟩ := h
    rcases st.own a ⟨i, m, (at_set_v (by simp [Sl.mo]) h).2, q⟩ with w | w
    · exact .inl (oo a w)
    · exact .inr w
end
/-- slot v set aside while f runs -/
def eHide {α : Type} (v : Nat) (f : EF α) : EF α := fun e => match e[v]? with
  | some (some (.v d)) => match f (e.set v none) with
    | some (r, e') => some (r, e'.set v (some (.v d)))
    | none => none
  | some none => f e
  | _ => none
section
variable {X : Cx} {W : WX}
theorem At.hide {α β : Type} {K : PySem.W.Frag} {R : RR α β} {v : Nat} {f : EF α} {S : Hp} {env : ME} {σ : St} {H : Hp} {Q : β → Hp → Prop} (z : At K W R (eHide v f) S env σ H Q) : ∃ env', At K W R f S env' σ H Q := by
  obtain ⟨r, e', rel, e, q⟩ := z
  unfold eHide at e
  split at e
  · rename_i d hv
    split at e
    · rename_i r' e1 h1
      cases e
      exact ⟨_, r, e1, rel.hide, h1, fun S' H' st => q S' H' (Step.unhide rel hv st)⟩
    · cases e
  · exact ⟨env, r, e', rel, e, q⟩
  · cases e
theorem AtF.hide {K : PySem.W.Frag} {v : Nat} {f : EF FR} {S : Hp} {env : ME} {σ : St} {H : Hp} {Q : VK} (z : AtF K W (eHide v f) S env σ H Q) : ∃ env', AtF K W f S env' σ H Q := by
  obtain ⟨r, e', rel, e, q⟩ := z
  unfold eHide at e
  split at e
  · rename_i d hv
    split at e
    · rename_i r' e1 h1
      cases e
      exact ⟨_, r, e1, rel.hide, h1, fun S' H' st => q S' H' (Step.unhide rel hv st)⟩
    · cases e
  · exact ⟨env, r, e', rel, e, q⟩
  · cases e
theorem de_hide (v : Nat) {e : Expr} {f : EF D} (h : DE X W e f) : DE X W e (eHide v f) := pe_imp h fun σ H Q ⟨S, env, z⟩ => let ⟨env', z'⟩ := z.hide; ⟨S, env', z'⟩
theorem df_hide (v : Nat) {e : Expr} {f : EF FR} (h : DF X W e f) : DF X W e (eHide v f) := pe_imp h fun σ H Q ⟨S, env, z⟩ => let ⟨env', z'⟩ := z.hide; ⟨S, env', z'⟩
end
end Mir

namespace Mir
open PySem PySem.Spec PyProof.Rows L2
section
variable {X : Cx} {W : WX}
theorem trF.hide {K : PySem.W.Frag} {v : Nat} {f : EF FR} {σ : St} {H : Hp} {Q : VK} : trF K W (eHide v f) σ H Q → trF K W f σ H Q := fun ⟨S, env, z⟩ => let ⟨env', z'⟩ := z.hide; ⟨S, env', z'⟩
/-- name = [..], on the name's line, a local set aside -/
theorem ds_setLcH (v i : Nat) {y : Str} {py spos : Pos} {elt tg iter : Expr} {ifs : List Expr} {scope : Scope} {pos : Pos} {own : List (Str × Nat)} {fi : EF (List D)} {tgt : TF} {tst : EF Bool} {el : EF D} (hc : X.calm = true) (hN : X.N.Nodup) (hi : DI X W tg iter fi) (ok : BlkOk X.N X.env.scope scope own)
    (hg : ∀ (s : Shared) (H : Hp) (C : Addr) (cl : List (Str × Addr)) (fp : List Addr), DGv (X.blk s H scope (compEnvC scope cl C X.env) fp) (own.map (·.2)) tg tgt)
    (ht : ∀ (s : Shared) (H : Hp) (C : Addr) (cl : List (Str × Addr)) (fp : List Addr), DTs (X.blk s H scope (compEnvC scope cl C X.env) fp) W0 ifs tst)
    (he : ∀ (s : Shared) (H : Hp) (C : Addr) (cl : List (Str × Addr)) (fp : List Addr), DE (X.blk s H scope (compEnvC scope cl C X.env) fp) W0 elt el)
    (hsw : swapsWith (.ListComp elt [⟨tg, iter, ifs, 0⟩] scope pos) (some (.Name y py)) spos.line X.env = pure true) (hy : X.N[i]? = some y := by rfl) (hyl : X.env.scope.names.lookup y = some .local := by rfl) (hs : ∀ x, foldedSetIterable iter X.env x = pure x := by intro _; rfl) :
    DS X W (.Assign [.Name y py] (.ListComp elt [⟨tg, iter, ifs, 0⟩] scope pos) spos) (sSetF i (eHide v (eLc (own.map (·.2)) fi tgt tst el))) := by
  refine ps_imp (ps_setLc (g := trGv (List.map (fun p : Str × Nat => p.2) own) X.K tgt) (tt := tr X.K W0 RB tst) (te := tr X.K W0 (RD X.K) el) hc hN hy hyl hsw hi ok hg ht he hs) ?_
  rintro Dn σ H ⟨S, env, z⟩
  exact lc_tr (trF_bind z fun r S1 e1 H1 z1 => putF_end z1).hide
theorem ds_setLcH2 (u v i : Nat) {y : Str} {py spos : Pos} {elt tg iter : Expr} {ifs : List Expr} {scope : Scope} {pos : Pos} {own : List (Str × Nat)} {fi : EF (List D)} {tgt : TF} {tst : EF Bool} {el : EF D} (hc : X.calm = true) (hN : X.N.Nodup) (hi : DI X W tg iter fi) (ok : BlkOk X.N X.env.scope scope own)
    (hg : ∀ (s : Shared) (H : Hp) (C : Addr) (cl : List (Str × Addr)) (fp : List Addr), DGv (X.blk s H scope (compEnvC scope cl C X.env) fp) (own.map (·.2)) tg tgt)
    (ht : ∀ (s : Shared) (H : Hp) (C : Addr) (cl : List (Str × Addr)) (fp : List Addr), DTs (X.blk s H scope (compEnvC scope cl C X.env) fp) W0 ifs tst)
    (he : ∀ (s : Shared) (H : Hp) (C : Addr) (cl : List (Str × Addr)) (fp : List Addr), DE (X.blk s H scope (compEnvC scope cl C X.env) fp) W0 elt el)
    (hsw : swapsWith (.ListComp elt [⟨tg, iter, ifs, 0⟩] scope pos) (some (.Name y py)) spos.line X.env = pure true) (hy : X.N[i]? = some y := by rfl) (hyl : X.env.scope.names.lookup y = some .local := by rfl) (hs : ∀ x, foldedSetIterable iter X.env x = pure x := by intro _; rfl) :
    DS X W (.Assign [.Name y py] (.ListComp elt [⟨tg, iter, ifs, 0⟩] scope pos) spos) (sSetF i (eHide u (eHide v (eLc (own.map (·.2)) fi tgt tst el)))) := by
  refine ps_imp (ps_setLc (g := trGv (List.map (fun p : Str × Nat => p.2) own) X.K tgt) (tt := tr X.K W0 RB tst) (te := tr X.K W0 (RD X.K) el) hc hN hy hyl hsw hi ok hg ht he hs) ?_
  rintro Dn σ H ⟨S, env, z⟩
  exact lc_tr (trF_bind z fun r S1 e1 H1 z1 => putF_end z1).hide.hide
/-- while, at most N passes told -/
theorem ds_whileF (N : Nat) {c : Expr} {body : List Stmt} {fc : EF Bool} {fb : SF} {pos : Pos} (hp : PassesOwn (model X.prog X.w) X.A X.env X.xe) (hc : DT X W c fc) (hb : DB X W body fb) : DS X W (.While c body [] pos) (sWhile fc fb N) := by
  refine ps_imp (ds_while hp hc hb) ?_
  rintro Dn σ H ⟨S, env, o, e', rel, e, q⟩
  exact ⟨S, env, o, e', rel, sWhl_of e, q⟩
end
/-! ## tables told row by row -/
theorem TabOk.nil {K : PySem.W.Frag} {c : Value} : TabOk K c [] := fun C b h => by cases h
theorem TabOk.cons {K : PySem.W.Frag} {c : Value} {x : Str} {a : Addr} {b : Bool} {l : List (Str × Bool)} (n : ClsN K x a) (h : PySem.W.exmOne K (.ref a) c = some b) (r : TabOk K c l) : TabOk K c ((x, b) :: l) := fun C b' e => by
  rw [List.lookup_cons] at e
  split at e
  · rename_i q
    cases e
    rw [beq_iff_eq.mp q]
    exact ⟨a, n, h⟩
  · exact r C b' e
theorem SubX.nil {K : PySem.W.Frag} {c : Value} : SubX K c [] := fun C b h => by cases h
theorem SubX.cons {K : PySem.W.Frag} {c : Value} {x : Str} {a : Addr} {b : Bool} {l : List (Str × Bool)} (n : ClsN K x a) (t : L2.ExcC K a) (h : PySem.W.kitOne K (.ref a) c = some b) (r : SubX K c l) : SubX K c ((x, b) :: l) := fun C b' e => by
  rw [List.lookup_cons] at e
  split at e
  · rename_i q
    cases e
    rw [beq_iff_eq.mp q]
    exact ⟨a, n, t, h⟩
  · exact r C b' e
theorem SubC.nil {K : PySem.W.Frag} {c : Addr} : SubC K c [] := fun C b h => by cases h
theorem SubC.cons {K : PySem.W.Frag} {c : Addr} {x : Str} {a : Addr} {b : Bool} {l : List (Str × Bool)} (n : ClsN K x a) (t : InsT K a) (h : PySem.W.kitOne K (.ref a) (.ref c) = some b) (r : SubC K c l) : SubC K c ((x, b) :: l) := fun C b' e => by
  rw [List.lookup_cons] at e
  split at e
  · rename_i q
    cases e
    rw [beq_iff_eq.mp q]
    exact ⟨a, n, t, h⟩
  · exact r C b' e
theorem IsC.of {K : PySem.W.Frag} {x : Str} {a : Addr} {cd : ClassData} (n : ClsN K x a) (h : PySem.W.clsIn K a = some cd) (t : PySem.W.typeIn K (.ref a) = some (.type "type")) : IsC K x a := ⟨n, by rw [h, t]; rfl⟩
/-- the keywords' values behind the written ones -/
def gApp {α : Type} (us _its _mv ws : List α) : List α := inG (fun a b => a ++ b) us ws
theorem gApp_rel {vs ds mz zs : List V} {us its mv ws : List Value} (h : Vals vs us) (_ : Vals ds its) (_ : Vals mz mv) (h' : Vals zs ws) : Vals (gApp vs ds mz zs) (gApp us its mv ws) := by
  cases h with
  | nil => exact .nil
  | cons r q => exact .cons r (Vals.append q h')
end Mir

namespace Mir
open PySem PySem.Spec PyProof.Rows L2
/-! ## enumerate(text) -/
def Ies (x : Str) : It := ⟨fun i _ => i < x.cps.size, fun i H v H' => ∃ T c, v = .ref T ∧ H T = none ∧ H' = upd H T (.tup [.int (i : Nat), .str ⟨#[c]⟩]) ∧ x.cps[i]? = some c, fun i _ => i = x.cps.size⟩
theorem turn_enumS {P : Program} {w : World} {K : PySem.W.Frag} {elts : List Expr} {kk : Nat} {tpos : Pos} (e it : Addr) (x : Str) (t : Tok) :
    Turn P w K (.Tuple elts kk tpos) (Ies x) [e, it] e (fun i h => (∃ old, IsEnum h e it ((i : Nat) : Int) old) ∧ h.IsStrIter it (strIterType x) x t i ∧ e ≠ it) where
  mem := by simp
  obj := fun i h st b hb => by
    obtain ⟨⟨old, he⟩, ⟨o, ho, hc, hd⟩, _⟩ := st
    have e' : b = e ∨ b = it := by simpa using hb
    rcases e' with z | z
    · rw [z]; exact ⟨_, he, fun v q => nomatch q⟩
    · rw [z]; exact ⟨o, ho, fun v q => by rw [hd] at q; cases q⟩
  keep := fun i h h' st k => by
    obtain ⟨⟨old, he⟩, ⟨o, ho, r⟩, hne⟩ := st
    exact ⟨⟨old, k e (by simp) _ he⟩, ⟨o, k it (by simp) o ho, r⟩, hne⟩
  item := by
    intro X hP hw hK hc i pins s σ H E I hf st hg
    subst hP hw hK
    obtain ⟨⟨old, he⟩, hit, hne⟩ := st
    have hel : e < s.heap.objs.size := Heap.lt_size he
    have hil : it < s.heap.objs.size := by obtain ⟨_, q, _⟩ := hit; exact Heap.lt_size q
    have D : Draws X.prog X.w X.A.in1 it [it] x.cps.size (fun i v => ∃ c u, x.cps[i]? = some c ∧ v = .str ⟨#[c]⟩ u) (fun i h => h.IsStrIter it (strIterType x) x t i) := by
      unfold strIterType
      split
      · exact Draws.strAscii (A := X.A.in1) (show X.A.in1.handled = none from I.ok.hd hc) it x t
      · exact Draws.strWide (A := X.A.in1) (show X.A.in1.handled = none from I.ok.hd hc) it x t
    refine wpAny_pyNext_enum_itemD D he hit hg hne (by simpa using hne) fun u h' tk hu ho hit' hT hsz hk => ?_
    obtain ⟨c, tu, hcx, rfl⟩ := hu
    refine ⟨_, rfl, wpAny_letOwnedTupleGo_enum (s := { s with heap := h', toks := tk + 1 }) ho fun h'' he' sb => ?_⟩
    have hT2 : h''.get? s.heap.objs.size = some { cls := .type "tuple", data := .seq #[.int i tk, .str ⟨#[c]⟩ tu] } := (sb.2 _ (Nat.ne_of_gt hel)).trans hT
    have new : ObjOk X.prog X.w (upd H s.heap.objs.size (.tup [.int (i : Nat), .str ⟨#[c]⟩])) h'' s.heap.objs.size (.tup [.int (i : Nat), .str ⟨#[c]⟩]) :=
      ⟨by show 2 ≤ sizeLine; decide, [.int i tk, .str ⟨#[c]⟩ tu], .cons ⟨_, rfl⟩ (.cons ⟨_, rfl⟩ .nil), ⟨_, hT2, rfl, _, rfl⟩⟩
    have I1 : L2.Inv X pins σ (upd H s.heap.objs.size (.tup [.int (i : Nat), .str ⟨#[c]⟩])) { s with heap := h'', toks := tk + 1 } :=
      I.turnedNew (ch := [e, it]) (fun b ob hb q => (sb.2 b (fun z => hb (by simp [z]))).trans (hk b ob (fun z => hb (by simp [z])) (fun z => hb (by simp [z])) q)) hf (Nat.le_refl _) new
    refine ⟨.ref s.heap.objs.size, _, I1, rfl, ⟨_, c, rfl, I.hok.fresh (Nat.le_refl _), rfl, hcx⟩, ⟨⟨.str ⟨#[c]⟩ tu, ?_⟩, ?_, hne⟩, fun b hb => ?_⟩
    · have e1 : ((i + 1 : Nat) : Int) = (i : Int) + 1 := by omega
      rw [e1]; exact he'
    · obtain ⟨o, q, r⟩ := hit'
      exact ⟨o, (sb.2 it (Ne.symm hne)).trans q, r⟩
    · have hb' : b < s.heap.objs.size := by
        have e' : b = e ∨ b = it := by simpa using hb
        rcases e' with z | z
        · rw [z]; exact hel
        · rw [z]; exact hil
      rw [upd_ne (Nat.ne_of_lt hb')]
      exact (hf b hb).1
  done := by
    intro X hP hw hK hc i pins s σ H E I hf st hg
    subst hP hw hK
    obtain ⟨⟨old, he⟩, hit, hne⟩ := st
    obtain ⟨f0, f1, f2, f3, f4, f5⟩ := hf it (by simp)
    have hi : i = x.cps.size := hg
    subst hi
    have D : Draws X.prog X.w X.A.in1 it [it] x.cps.size (fun i v => ∃ c u, x.cps[i]? = some c ∧ v = .str ⟨#[c]⟩ u) (fun i h => h.IsStrIter it (strIterType x) x t i) := by
      unfold strIterType
      split
      · exact Draws.strAscii (A := X.A.in1) (show X.A.in1.handled = none from I.ok.hd hc) it x t
      · exact Draws.strWide (A := X.A.in1) (show X.A.in1.handled = none from I.ok.hd hc) it x t
    exact wpAny_pyNext_enum_endD D he hit fun h' eb => ⟨rfl, I.turned (t' := s.toks) (fun b o hb q => eb b o hb q) f0 f1 f3 f4 f5⟩
  self := fun A i s Q E st h => let ⟨⟨_, he⟩, _⟩ := st; wpAny_pyIter_enum he h
def iEnum4 (K : PySem.W.Frag) (ta : TA) : TI := fun σ H R => ta σ H fun vs H1 => (∃ a xs, vs = [.ref a] ∧ SqL K H1 a xs ∧ R (Ite K a) H1) ∨ ∃ x, vs = [.str x] ∧ R (Ies x) H1
theorem pi_enum4 {X : Cx} {e : Expr} {ta : TA} {p pos tpos : Pos} {elts : List Expr} {kk : Nat} (hg : Gl X "enumerate") (hm : X.mg "enumerate" = none) (ha : PA X [e] ta) (hs : starEach [e] X.env = [(false, eval e X.env)] := by rfl) :
    PI X (.Tuple elts kk tpos) (.Call (.Name "enumerate" p) [e] [] pos) (iEnum4 X.K ta) := by
  refine ⟨fun pins s σ H R I h => ?_⟩
  refine Call_ (ld_blt I hg hm boot_enumerate (PyProof.Rows.callWith_type1 (thn (ha.run pos pins s σ H _ I h) fun us s1 ⟨vs, H1, I1, r1, q1⟩ => ?_) hs rfl))
  rcases q1 with ⟨a, xs, ex, hq, q⟩ | ⟨x, ex, q⟩
  · subst ex
    cases r1 with
    | cons r rr =>
      cases rr
      cases r
      obtain ⟨its, rv, p', hz⟩ := I1.list hq
      refine call_enumerate_list p'.isList fun h' he hit hsz hk => wpAny_pyIter_enum he ?_
      have I2 : L2.Inv X pins σ H1 { s1 with heap := h' } := I1.kept (t' := s1.toks) hk
      refine ⟨s1.heap.objs.size + 1, [s1.heap.objs.size + 1, s1.heap.objs.size], _, _, H1, rfl, I2, turn_enum a (s1.heap.objs.size + 1) s1.heap.objs.size, ⟨⟨.none, he⟩, hit, Nat.succ_ne_self _⟩, fun b hb => ?_, q⟩
      have e' : b = s1.heap.objs.size + 1 ∨ b = s1.heap.objs.size := by simpa using hb
      have hle : s1.heap.objs.size ≤ b := by
        rcases e' with z | z
        · rw [z]; exact Nat.le_add_right _ _
        · rw [z]; exact Nat.le_refl _
      exact I1.fpOk hle (I1.hok.fresh hle)
  · subst ex
    cases r1 with
    | cons r rr =>
      cases rr
      obtain ⟨t, rfl⟩ := r
      refine call_enumerate_str fun h' he hit hsz hk => wpAny_pyIter_enum he ?_
      have I2 : L2.Inv X pins σ H1 { s1 with heap := h' } := I1.kept (t' := s1.toks) hk
      refine ⟨s1.heap.objs.size + 1, [s1.heap.objs.size + 1, s1.heap.objs.size], _, _, H1, rfl, I2, turn_enumS (s1.heap.objs.size + 1) s1.heap.objs.size x t, ⟨⟨.none, he⟩, hit, Nat.succ_ne_self _⟩, fun b hb => ?_, q⟩
      have e' : b = s1.heap.objs.size + 1 ∨ b = s1.heap.objs.size := by simpa using hb
      have hle : s1.heap.objs.size ≤ b := by
        rcases e' with z | z
        · rw [z]; exact Nat.le_add_right _ _
        · rw [z]; exact Nat.le_refl _
      exact I1.fpOk hle (I1.hok.fresh hle)
theorem walk_enumS {x : Str} : Walk (Ies x) x.cps.size (fun _ => True) (YPair (fun i => some (.int (i : Nat))) (fun i => (x.cps[i]?).map fun c => V.str ⟨#[c]⟩)) := by
  refine ⟨fun i _ hi _ => hi, fun _ _ => rfl, fun i H v H' _ _ y => ?_⟩
  obtain ⟨T, c, h1, h2, h3, h4⟩ := y
  exact ⟨T, .int (i : Nat), .str ⟨#[c]⟩, h1, h2, h3, rfl, by show Option.map _ (x.cps[i]?) = _; rw [h4]; rfl⟩
theorem itOk_enumS {K : PySem.W.Frag} {S : Hp} {x : Str} : ItOk K S (Ies x) (enm 0 (signs x)) := by
  have hl : (signs x).length = x.cps.size := by unfold signs; simp
  refine ItOk.pairs (G := fun _ => True) (by rw [enm_len, hl]; exact walk_enumS) (fun S' H le sm => trivial) ?_
  intro i S' a b le hx hy
  cases hx
  cases hc : x.cps[i]? with
  | none => rw [hc] at hy; cases hy
  | some c =>
    rw [hc] at hy
    cases hy
    refine ⟨.int (i : Nat), .str ⟨#[c]⟩, ?_, rfl, rfl, by show 1 ≤ sizeLine; decide⟩
    have e1 : (signs x)[i]? = some (.str ⟨#[c]⟩) := by
      unfold signs
      rw [List.getElem?_map]
      simp [hc]
    have := enm_at 0 i (signs x) _ e1
    simpa using this
/-- enumerate of a list or a text -/
def gEnm4 : List AV → EF (List D)
  | [.d d] => match lsOf d with
    | some ds => eRet (enm 0 ds)
    | none => match d with
      | .str x => eRet (enm 0 (signs x))
      | _ => fun _ => none
  | _ => fun _ => none
theorem di_enum4 {X : Cx} {W : WX} {a : Expr} {f : EF (List AV)} {p pos tpos : Pos} {elts : List Expr} {kk : Nat} (hm : X.mg "enumerate" = none) (ha : DA X W [a] f) (hs : starEach [a] X.env = [(false, eval a X.env)] := by rfl) (hg : Gl X "enumerate" := by rfl) :
    DI X W (.Tuple elts kk tpos) (.Call (.Name "enumerate" p) [a] [] pos) (eBind f gEnm4) := by
  refine pi_imp (pi_enum4 hg hm ha hs) ?_
  rintro σ H R ⟨S, env, z⟩
  refine ⟨S, env, (At.bind (R := RAl X.K) z).imp fun vs H1 ⟨as, S1, e1, r, st, z1⟩ => ?_⟩
  unfold gEnm4 at z1
  split at z1
  · rename_i d
    obtain ⟨v, r0, rfl, rv, e0⟩ := r
    have e0' : r0 = [] := e0
    subst e0'
    split at z1
    · rename_i ds hd
      obtain ⟨a, xs, rfl, hq, rr⟩ := lsOf_rep hd rv
      exact .inl ⟨a, xs, rfl, (Le.of z1.rel.sub).sqL hq, z1.ret (itOk_enum hq rr)⟩
    · split at z1
      · rename_i x hx
        obtain ⟨rfl, hl⟩ := rv
        exact .inr ⟨x, rfl, z1.ret itOk_enumS⟩
      · exact (z1.none rfl).elim
  · exact (z1.none rfl).elim
end Mir

namespace Mir
open PySem PySem.Spec PyProof.Rows L2
/-! ## the mirrors, one step at a time -/
/-- a slot that holds a value or nothing -/
def Vs (x : Option Sl) : Prop := x = none ∨ ∃ d, x = some (.v d)
theorem eBind_of {α β : Type} {f : EF α} {g : α → EF β} {e e1 : ME} {a : α} {r : Option (Res β × ME)} (h : f e = some (.ok a, e1)) (h2 : g a e1 = r) : eBind f g e = r := by
  unfold eBind
  rw [h]
  exact h2
theorem sBind_of {α : Type} {f : EF α} {g : α → SF} {e e1 : ME} {a : α} {r : Option (Out × ME)} (h : f e = some (.ok a, e1)) (h2 : g a e1 = r) : sBind f g e = r := by
  unfold sBind
  rw [h]
  exact h2
theorem eCall_of {mf : MF} {fas : EF (List AV)} {e e1 : ME} {as : List AV} {sl sl' : List Sl} {r : FR} (h1 : fas e = some (.ok as, e1)) (hn : (ixs as).Nodup) (h2 : lend e1 as = some sl) (h3 : mf sl = some (.ok r, sl')) : eCall mf fas e = some (.ok r, putB e1 as sl') := by
  unfold eCall eBind
  rw [h1]
  dsimp only
  rw [if_pos hn, h2]
  dsimp only
  rw [h3]
theorem sFor_of {fi : EF (List D)} {g : TF} {b : SF} {e e1 : ME} {ds : List D} (h : fi e = some (.ok ds, e1)) : sFor fi g b e = sLoop g b ds e1 := sBind_of h rfl
theorem seqN {f g : SF} {e e1 : ME} (h : f e = some (.nx, e1)) : sSeq f g e = g e1 := by
  unfold sSeq
  rw [h]
theorem seqA (f g h : SF) : sSeq (sSeq f g) h = sSeq f (sSeq g h) := funext fun e => by
  unfold sSeq
  cases f e with
  | none => rfl
  | some x =>
    obtain ⟨o, e1⟩ := x
    cases o <;> rfl
end Mir

/-! ## the built-in base KeyError: its __new__ is LookupError's -/
namespace PySem.F
theorem mir_storeKey : StoreFacts "KeyError" [.type "KeyError", .type "LookupError", .type "Exception", .type "BaseException", .type "object"] "object.__setattr__" "object" := { mro := by kernel_rfl, slot := .of (owner := "object") (n := "__setattr__") (by rw [typeLookup_type, builtinLookup_eq_fast]; kernel_rfl) (by decide +kernel) (by decide +kernel) (by decide +kernel) (by first | exact .inl (by decide +kernel) | exact .inr (by decide +kernel)) (by rw [isSubtype_type]; kernel_rfl), entry := entry_object_sa, kind := by decide +kernel, split := by decide +kernel, hasOwner := by decide +kernel, args := fun a b c => by unfold argsOk; kernel_rfl, passes := fun self => by kernel_rfl }
theorem mir_entryKey : entryFor table "KeyError.__init__" = some Builtin.«BaseException.__init__» := entryFor_alias (id' := "BaseException.__init__") (by rw [fastTable_eq_tree]; kernel_rfl) (by first | rfl | decide +kernel) (by decide +kernel) (by rw [fastTable_eq_tree]; kernel_rfl)
end PySem.F
namespace Mir
open PySem PySem.Spec PyProof.Rows L2
theorem kxs_key : PySem.W.KxsFacts "KeyError" "KeyError.__init__" := { typ := by show builtinType _ = _; rw [builtinType_eq_fast]; kernel_rfl, nac := by first | kernel_rfl | rfl }
theorem b_key : ExcB0 "KeyError" "KeyError.__init__" "LookupError.__new__" [.type "KeyError", .type "LookupError", .type "Exception", .type "BaseException", .type "object"] :=
  ⟨kxs_key, ⟨by kernel_rfl, by kernel_rfl, by decide +kernel, PySem.F.mir_entryKey, by decide +kernel⟩, ⟨"LookupError", "LookupError.__init__", _, PySem.F.excBase_LookupError, by decide +kernel⟩, by decide +kernel, by decide +kernel, PySem.F.mir_storeKey⟩
end Mir

namespace Mir
open PySem PySem.Spec PyProof.Rows L2
/-! ## an own exception as a value: C(e), C(p = e) -/
def tXv (C : Addr) (fld : Str) (te : TE) : TE := fun σ H Q => te σ H fun x H1 => ∀ a dx, H1 a = none → H1 dx = none → a ≠ dx → Q (.ref a) (upd (upd H1 dx (.xd [(fld, x)])) a (ExH (.ref C) (some dx) a))
theorem x_laid {X : Cx} {pins : List (Addr × Obj)} {σ : L2.St} {H : Hp} {Q : VK} {hp h2 : Heap} {g : Array GenState} {d : Drawn} {tk tk' k : Nat} {os : OsState} {C t2 dx : Addr} {fld : Str} {x : V} {v : Value} (I : L2.Inv X pins σ H ⟨hp, g, d, tk, os⟩) (rx : RelV x v)
    (kk : ∀ b o, hp.get? b = some o → h2.get? b = some o) (he : h2.get? (hp.objs.size + 1) = some (PySem.W.excObj C t2 (some dx) .none)) (hd : h2.get? dx = some (PySem.W.dictOf (xEs X.w fld k v) 1)) (lt : hp.objs.size + 1 < dx)
    (q : ∀ a dx, H a = none → H dx = none → a ≠ dx → Q (.ref a) (upd (upd H dx (.xd [(fld, x)])) a (ExH (.ref C) (some dx) a))) : EP X pins σ Q (.ref (hp.objs.size + 1)) ⟨h2, g, d, tk', os⟩ := by
  have nE : H (hp.objs.size + 1) = none := I.hok.fresh (Nat.le_succ _)
  have nD : H dx = none := I.hok.fresh (Nat.le_of_lt (Nat.lt_of_succ_lt lt))
  have ne : hp.objs.size + 1 ≠ dx := Nat.ne_of_lt lt
  have ns := ns_one (h := h2) hd
  have J : L2.Inv X pins σ (upd H dx (.xd [(fld, x)])) ⟨h2, g, d, tk', os⟩ := I.laid (t' := tk') (a := dx) (o := .xd [(fld, x)]) (h' := h2) kk (Nat.le_of_lt (Nat.lt_of_succ_lt lt)) ⟨_, ns, fun f => by
    by_cases hf : f = fld
    · subst hf
      have z : RelO (some x) (some v) := rx
      simpa using z
    · have : (f == fld) = false := by
        rw [beq_eq_false_iff_ne]
        exact hf
      have z : List.lookup f [(fld, x)] = none := by simp [List.lookup, this]
      rw [z]
      simp only [if_neg hf]
      exact trivial⟩
  have fp := I.fpOk (b := hp.objs.size + 1) (H' := H) (Nat.le_succ _) nE
  have T : L2.Inv X pins σ (upd (upd H dx (.xd [(fld, x)])) (hp.objs.size + 1) (ExH (.ref C) (some dx) (hp.objs.size + 1))) ⟨h2, g, d, tk', os⟩ := by
    refine inv_track J (by rw [upd_ne ne]; exact nE) (fun u e _ => ?_) fp.2.1 fp.2.2.2.2.1 fp.2.2.2.2.2 ⟨⟨_, _, he, ⟨rfl, rfl⟩, rfl⟩, ⟨_, he⟩, fun g1 g2 ⟨u, us, q1, q2, q3⟩ k => ⟨u, us, k u q1, q2, q3⟩⟩
    exact absurd (Nat.lt_of_lt_of_le (Heap.lt_size e) I.sz) (Nat.not_lt.mpr (Nat.le_succ _))
  exact ⟨.ref (hp.objs.size + 1), _, T, rfl, q _ dx nE nD ne⟩
section
variable {X : Cx} {W : WX} {B i newId : String} {bmB : List Value} {Ca : Addr} {par fld C : Str} {e : Expr} {te : TE} {p pos kpos : Pos} {k : Nat}
theorem pe_xv (T : ExcB0 B i newId bmB) (D : ExcK X.prog X.K Ca par fld B i newId bmB) (N : ExcN X C Ca) (hr : Room (k + 1) X.A) (gs : X.mg "super" = none) (he : PE X e te) (hg : Gl X C := by rfl) (hdb : (C == ("__debug__" : Str)) = false := by decide)
    (hst : starEach [e] X.env = (false, eval e X.env) :: starEach [] X.env := by rfl) : PE X (.Call (.Name C p) [e] [] pos) (tXv Ca fld te) := by
  refine ⟨fun pins s σ H Q I h => ?_⟩
  refine wpAny_Call_Name_kw (ld_glob I hg N.at_ ?_ hdb)
  refine PySem.W.callWith_K (h₀ := X.base) I.ok.mod.kin N.kp (thn ((pa_cons he pa_nil hst).run pos pins s σ H (fun vs H1 => match vs with
      | [x] => ∀ a dx, H1 a = none → H1 dx = none → a ≠ dx → Q (.ref a) (upd (upd H1 dx (.xd [(fld, x)])) a (ExH (.ref Ca) (some dx) a))
      | _ => False) I h) fun us s1 ⟨vs, H1, I1, r, q⟩ => ⟨I1.kIn, ?_⟩) hst rfl
  match vs, q with
  | [x], q =>
      obtain ⟨v, rfl, rx⟩ := vals1 r
      obtain ⟨hp, g, d, tk, os⟩ := s1
      obtain ⟨mb, hb1, hb2⟩ := I1.ok.mod.blt
      have hroom : (X.A.under (.builtin "type.__call__" ⟨[.ref Ca, v], []⟩)).depth < recursionLimit := by
        have := hr.dp
        rw [make_depth]
        omega
      refine x_call T D (.inl ⟨rfl, rfl⟩) I1.kIn I1.nolimit (I1.ok.mod.glob.keeps I1.bk) gs (hb1.keeps I1.bk) ((hb2 _ (by decide)).trans rfl) hroom fun t2 dx kz tk' h' k1 k2 k3 k4 => ?_
      exact x_laid I1 rx k1 k2 k3 k4 q
theorem pe_xvK (T : ExcB0 B i newId bmB) (D : ExcK X.prog X.K Ca par fld B i newId bmB) (N : ExcN X C Ca) (hr : Room (k + 1) X.A) (gs : X.mg "super" = none) (he : PE X e te) (hg : Gl X C := by rfl) (hdb : (C == ("__debug__" : Str)) = false := by decide)
    (hks : (backToKw pos (keywordEach [⟨some par, e, kpos⟩] X.env)).filterMap (·.1) = [par] := by rfl) (hall : (backToKw pos (keywordEach [⟨some par, e, kpos⟩] X.env)).all (·.1.isSome) = true := by rfl)
    (hpl : ((backTo pos (starEach [] X.env)).any (·.1) || (backToKw pos (keywordEach [⟨some par, e, kpos⟩] X.env)).any (·.1.isNone)) = false := by rfl) : PE X (.Call (.Name C p) [] [⟨some par, e, kpos⟩] pos) (tXv Ca fld te) := by
  refine ⟨fun pins s σ H Q I h => ?_⟩
  refine wpAny_Call_Name_kw (ld_glob I hg N.at_ ?_ hdb)
  refine PySem.W.callWith_KW0 (h₀ := X.base) I.ok.mod.kin N.kp hall (thn ((pk_cons (nm := some par) (kpos := kpos) he pk_nil).run pos pins s σ H (fun vs H1 => match vs with
      | [x] => ∀ a dx, H1 a = none → H1 dx = none → a ≠ dx → Q (.ref a) (upd (upd H1 dx (.xd [(fld, x)])) a (ExH (.ref Ca) (some dx) a))
      | _ => False) I h) fun us s1 ⟨vs, H1, I1, r, q⟩ => ⟨I1.kIn, ?_⟩) hpl
  rw [hks]
  match vs, q with
  | [x], q =>
      obtain ⟨v, rfl, rx⟩ := vals1 r
      obtain ⟨hp, g, d, tk, os⟩ := s1
      obtain ⟨mb, hb1, hb2⟩ := I1.ok.mod.blt
      have hroom : (X.A.under (.builtin "type.__call__" ⟨[.ref Ca], [(par, v)]⟩)).depth < recursionLimit := by
        have := hr.dp
        rw [make_depth]
        omega
      refine x_call (us := []) (kw := [(par, v)]) T D (.inr ⟨rfl, rfl⟩) I1.kIn I1.nolimit (I1.ok.mod.glob.keeps I1.bk) gs (hb1.keeps I1.bk) ((hb2 _ (by decide)).trans rfl) hroom fun t2 dx kz tk' h' k1 k2 k3 k4 => ?_
      exact x_laid I1 rx k1 k2 k3 k4 q
def eXmk (C fld : Str) (f : EF D) : EF D := eBind f fun d => eRet (.exc C [(fld, d)])
theorem xmk_at {K : PySem.W.Frag} {f : EF D} {σ : L2.St} {H : Hp} {Q : VK} (cn : ClsN K C Ca) (h : tr K W (RD K) (eXmk C fld f) σ H Q) : tXv Ca fld (tr K W (RD K) f) σ H Q := by
  obtain ⟨S, env, z⟩ := h
  refine ⟨S, env, (At.bind (R := RD K) z).imp fun x H1 ⟨d, S1, e1, r, st, z1⟩ a dx na nd hne => ?_⟩
  have a1 := z1.rel.alloc (o := HO.xd [(fld, x)]) nd
  have a2 := a1.rel.alloc (p := a) (o := ExH (.ref Ca) (some dx) a) (by rw [upd_ne hne]; exact na)
  refine z1.ret' (a1.trans a2) ⟨Ca, a, dx, [(fld, x)], cn, rfl, upd_same, ?_, x, [], rfl, Rep.mono (a1.trans a2).le _ _ r, rfl⟩
  rw [upd_ne (Ne.symm hne)]
  exact upd_same
theorem de_xmk {f : EF D} (T : ExcB0 B i newId bmB) (D : ExcK X.prog X.K Ca par fld B i newId bmB) (N : ExcN X C Ca) (hr : Room (k + 1) X.A) (gs : X.mg "super" = none) (he : DE X W e f) (hg : Gl X C := by rfl) (hdb : (C == ("__debug__" : Str)) = false := by decide)
    (hst : starEach [e] X.env = (false, eval e X.env) :: starEach [] X.env := by rfl) : DE X W (.Call (.Name C p) [e] [] pos) (eXmk C fld f) := pe_imp (pe_xv T D N hr gs he hg hdb hst) fun σ H Q h => xmk_at N.cn h
theorem de_xmkK {f : EF D} (T : ExcB0 B i newId bmB) (D : ExcK X.prog X.K Ca par fld B i newId bmB) (N : ExcN X C Ca) (hr : Room (k + 1) X.A) (gs : X.mg "super" = none) (he : DE X W e f) (hg : Gl X C := by rfl) (hdb : (C == ("__debug__" : Str)) = false := by decide)
    (hks : (backToKw pos (keywordEach [⟨some par, e, kpos⟩] X.env)).filterMap (·.1) = [par] := by rfl) (hall : (backToKw pos (keywordEach [⟨some par, e, kpos⟩] X.env)).all (·.1.isSome) = true := by rfl)
    (hpl : ((backTo pos (starEach [] X.env)).any (·.1) || (backToKw pos (keywordEach [⟨some par, e, kpos⟩] X.env)).any (·.1.isNone)) = false := by rfl) : DE X W (.Call (.Name C p) [] [⟨some par, e, kpos⟩] pos) (eXmk C fld f) := pe_imp (pe_xvK T D N hr gs he hg hdb hks hall hpl) fun σ H Q h => xmk_at N.cn h
end
end Mir

namespace Mir
open PySem PySem.Spec PyProof.Rows L2
/-! ## an exception that leaves a comprehension -/
/-- a callee's exception, in flight over the frames of X -/
def Air (X : Cx) (Wb : Value → Option Addr → Hp → Prop) (u : Value) (s' : Shared) : Prop :=
  ∃ (a : Addr) (B : Heap) (sI : Shared) (pins : List (Addr × Obj)) (τ : L2.St) (G : Hp) (cls : Value) (d : Option Addr), u = .ref a ∧ L2.Inv X pins τ G sI ∧ (∀ b o, sI.heap.get? b = some o → b ∉ frs X.stack → B.get? b = some o) ∧ sI.heap.UpToSlots s'.heap ∧
    HandSPX.FlyingZ B X.stack a (Zc cls d) s'.heap ∧ G a = none ∧ s'.os = sI.os ∧ AllBare s'.gens ∧ Wb cls d G
section
variable {X : Cx} {pins : List (Addr × Obj)} {σ : L2.St} {H : Hp} {s s' : Shared} {Wb : Value → Option Addr → Hp → Prop}
theorem air_of_call (I : L2.Inv X pins σ H s) {E : XK} (hW : ∀ cls d H', E cls d H' → Wb cls d H') {u : Value} (c : L2.CX X.prog X.w X.stack H s E u s') : Air X Wb u s' := by
  obtain ⟨a, B, G, cls, d, rfl, fl, hok, ub, na, os, ag, hE⟩ := c
  obtain ⟨Z, z1, z2⟩ := restrict s'.heap fun b => (B.get? b).isSome || decide (b ∈ frs X.stack)
  have inB : ∀ b o, B.get? b = some o → Z.get? b = some o := fun b o e => (z1 b (by simp [e])).trans (fl.1 b o e)
  have inF : ∀ b, b ∈ frs X.stack → Z.get? b = s'.heap.get? b := fun b hb => z1 b (by simp [hb])
  have old : ∀ b o, Z.get? b = some o → s'.heap.get? b = some o ∧ ((B.get? b).isSome = true ∨ b ∈ frs X.stack) := by
    intro b o e
    cases q : ((B.get? b).isSome || decide (b ∈ frs X.stack)) with
    | false =>
      rw [z2 b q] at e
      cases e
    | true =>
      rw [z1 b q] at e
      exact ⟨e, by simpa [Bool.or_eq_true] using q⟩
  refine ⟨a, B, { s with heap := Z, gens := s'.gens, drawn := s'.drawn, toks := s'.toks }, pins, σ, G, cls, d, rfl, ?_, fun b o e hb => ?_, Heap.UpToSlots.of_keeps fun b o e => (old b o e).1, fl, na, os, ag, hW _ _ _ hE⟩
  · refine I.call (ch := []) ⟨fun b o e n hb _ => inB b o (ub.keep b o e n hb), fun b o e n hb _ => ?_, fun b o e n _ => ub.free b o e n, fun b o e _ => ?_, ub.tups, ub.frzs, ub.tbls⟩ (hok.kept inB) ag (fun _ z => nomatch z)
    · obtain ⟨sl, q⟩ := ub.slot b o e hb
      exact ⟨sl, (inF b hb).trans q⟩
    · by_cases hb : b ∈ frs X.stack
      · obtain ⟨sl, q⟩ := ub.slot b o e hb
        exact ⟨_, (inF b hb).trans q⟩
      · obtain ⟨o', q⟩ := ub.there b o e hb
        exact ⟨o', inB b o' q⟩
  · obtain ⟨e', h⟩ := old b o e
    rcases h with h | h
    · obtain ⟨o', q⟩ := Option.isSome_iff_exists.mp h
      rw [fl.1 b o' q] at e'
      cases e'
      exact q
    · exact absurd h hb
theorem inv_xe (I : L2.Inv X pins σ H s) (xe : Value → Shared → Prop) : L2.Inv (X.tr X.pn xe) pins σ H s := ⟨I.ok.toTry _ _, I.os, I.bare, I.base, I.loc, I.cell, I.free, I.freeC, I.pin, I.hok, I.len⟩
theorem inv_ofxe {xe : Value → Shared → Prop} (ok : X.Ok) (I : L2.Inv (X.tr X.pn xe) pins σ H s) : L2.Inv X pins σ H s := ⟨ok, I.os, I.bare, I.base, I.loc, I.cell, I.free, I.freeC, I.pin, I.hok, I.len⟩
/-- the block's context, its elements' exceptions in the air -/
abbrev airX (X : Cx) (Wb : Value → Option Addr → Hp → Prop) : Cx := X.tr X.pn (Air X Wb)
theorem tkc_air (ok : X.Ok) : TkC (airX X Wb) (fun cls d _ G => Wb cls d G) := fun σ pins H s e s' I c => air_of_call (inv_ofxe ok I) (fun _ _ _ h => h) c
/-- held over the frames, the ground and the heap without C -/
theorem held_drop {B h h' : Heap} {l : List PySem.Env} {a C L : Addr} {Z : Obj → Prop} {m : Str → Option Value} (hh : HandSPX.HeldZ B l a Z L h) (hn : h.Ns C m) (sb : Heap.SameBut C h h') {m' : Str → Option Value} (hn' : h'.Ns C m') {B' : Heap} (b1 : ∀ b, b ≠ C → B'.get? b = B.get? b) (b2 : B'.get? C = none) : HandSPX.HeldZ B' l a Z L h' := by
  obtain ⟨st, na, ff, oe, vs, T, oT, ts, he, hz, hd, h1, hnT, hTe, hT, hdT, h3⟩ := hh
  obtain ⟨oC, es, ep, hoC, hdC, _⟩ := hn
  have nf : ∀ (b : Addr) (o : Obj) (vs : Array Value), h.get? b = some o → o.data = .fields vs → b ≠ C := by
    intro b o vs e d z
    rw [z, hoC] at e
    cases e
    rw [hdC] at d
    cases d
  have le : ∀ b, B'.get? b = none ∨ B'.get? b = B.get? b := fun b => by
    by_cases z : b = C
    · rw [z]; exact .inl b2
    · exact .inr (b1 b z)
  have noB : ∀ b, B.get? b = none → B'.get? b = none := fun b e => (le b).elim id fun q => q.trans e
  refine ⟨fun b o e => ?_, noB a na, ?_, oe, vs, T, oT, ts, (sb.2 a (nf a oe vs he hd)).trans he, hz, hd, h1, noB T hnT, hTe, (sb.2 T (nf T oT ts hT hdT)).trans hT, hdT, h3⟩
  · have hb : b ≠ C := fun z => by rw [z, b2] at e; cases e
    rw [b1 b hb] at e
    exact (sb.2 b hb).trans (st b o e)
  · have key : ∀ l : List PySem.Env, h.FunFrames B l → h.FunFrames B' l := by
      intro l
      induction l with
      | nil => exact fun _ => trivial
      | cons e r ih =>
        rintro ⟨k, ⟨L', o, hf, hb, ho, hnd⟩, hr⟩
        exact ⟨k, ⟨L', o, hf, noB L' hb, ho, hnd⟩, ih hr⟩
    exact (key l ff).sameBut sb hn'
end
section
variable {X Y : Cx} {W : WX} {σ : L2.St}
/-- out of the block Y of X -/
theorem air_out {u : Value} {s1 : Shared} {ce : PySem.Env} {pn : List (Addr × Obj)} {use : Option (Value → Sem Unit)} {Qf : Value → Shared → Prop} {acc : Value} (tk : L2.Takes X W) (hst : X.stack = X.env :: X.outer) (hf : X.env.frame = some X.env.locals) (hfr : X.A.frames = some X.stack)
    (hcf : ce.frame = X.env.frame) (yS : Y.stack = X.stack) (yE : Y.env = ce) (back : ∀ {pins : List (Addr × Obj)} {τ : L2.St} {G : Hp} {sI : Shared}, L2.Inv Y pins τ G sI → L2.Inv X pn σ G sI) (fpC : ∀ G : Hp, G ce.locals = none → FpOk X pn G ce.locals)
    (x : Air Y (fun cls d G => W cls d σ G) u s1) : notedBy (model X.prog X.w) X.A ce (fun e s' => compEnds (model X.prog X.w) X.A X.xe use Qf acc ce (.error e) s') u s1 := by
  obtain ⟨a, B, sI, pins, τ, G, cls, d, rfl, I, nb, up, fl, na, os, ag, w⟩ := x
  rw [yS] at nb fl
  have hnf : noteFrame (.ref a) ce = noteFrame (.ref a) X.env := by
    unfold noteFrame PySem.frameOf
    rw [hcf]
  show wpAny (model X.prog X.w) X.A (noteFrame (.ref a) ce) _ _ s1
  rw [hnf]
  rw [hst] at fl
  refine HandSPX.looks_onZ Zc.steady (by rw [hfr, hst]) hf fl fun h1 hh up1 => ?_
  have upA := up.trans up1
  obtain ⟨m, ⟨o, es, ep, ho, hd, r⟩, _⟩ := I.loc
  rw [yE] at ho
  obtain ⟨sl, q1⟩ := upA _ _ ho (fun vs z => by rw [hd] at z; cases z)
  have hn1 : h1.Ns ce.locals m := ⟨_, es, ep, q1, hd, r⟩
  refine (show CompFails _ _ _ _ _ _ from ⟨m, hn1, fun h2 m2 hn2 sb => ?_⟩)
  obtain ⟨B2, g1, g2⟩ := restrict B fun b => decide (b ≠ ce.locals)
  obtain ⟨G2, k1, k2⟩ := restrict sI.heap fun b => decide (b ≠ ce.locals)
  have hB : ∀ b, b ≠ ce.locals → B2.get? b = B.get? b := fun b hb => g1 b (decide_eq_true hb)
  have hBC : B2.get? ce.locals = none := g2 _ (by simp)
  have hG : ∀ b, b ≠ ce.locals → G2.get? b = sI.heap.get? b := fun b hb => k1 b (decide_eq_true hb)
  have hGC : G2.get? ce.locals = none := k2 _ (by simp)
  have hh2 := held_drop hh hn1 sb hn2 hB hBC
  have nC : G ce.locals = none := by
    have z := I.free
    rwa [yE] at z
  obtain ⟨f0, f1, f2, f3, f4, f5⟩ := fpC G nC
  have J : L2.Inv X pn σ G { sI with heap := G2 } := (back I).turned (t' := sI.toks) (h' := G2) (fun b o hb e => (hG b hb).trans e) f0 f1 f3 f4 f5
  obtain ⟨_, _, _, oe, vs, T, oT, ts, he, hz, hdd, hv1, hnT, hTe, hT, hdT, h3⟩ := id hh2
  unfold PySem.passOn
  refine wpAny_bind (wpAny_field he hdd hv1 ?_)
  rw [if_neg (show ¬ ((Value.ref T == Value.none) = true) from by simp)]
  have fin : wpAny (model X.prog X.w) X.A (setFlight (.ref a) ce.frame) (fun _ s4 => wpAny (model X.prog X.w) X.A (throw (.ref a) : Sem Value) (fun _ _ => False) X.xe s4) X.xe { s1 with heap := h2 } := by
    rw [hcf, hf]
    refine HandSPX.setFlight_onZ hh2 fun h4 hh4 up4 => wpAny_throw (tk _ _ ?_)
    refine ⟨a, B2, { sI with heap := G2 }, pn, σ, G, cls, d, rfl, J, fun b o e hb => ?_, fun b o e hnd => ?_, .inr (.inr (by rw [hst]; exact hh4)), na, os, ag, w⟩
    · have ne : b ≠ ce.locals := fun z => by rw [z] at e; rw [show G2.get? ce.locals = none from hGC] at e; cases e
      rw [hB b ne]
      exact nb b o ((hG b ne).symm.trans e) hb
    · have ne : b ≠ ce.locals := fun z => by rw [z] at e; rw [show G2.get? ce.locals = none from hGC] at e; cases e
      obtain ⟨sl1, e1⟩ := upA b o ((hG b ne).symm.trans e) hnd
      obtain ⟨sl2, e2⟩ := up4 b _ ((sb.2 b ne).trans e1) hnd
      exact ⟨sl2, e2⟩
  first
    | exact wpAny_bind (wpAny_pure (wpAny_bind fin))
    | exact wpAny_bind fin
end
end Mir

namespace Mir
open PySem PySem.Spec PyProof.Rows L2
/-! ## [el for tg in iter if ..], el may raise -/
section
variable {X : Cx} {W : WX}
theorem lcx_core {pn : List (Addr × Obj)} {s : Shared} {σ : L2.St} {H : Hp} {Q : VK} {el tg it : Expr} {ifs : List Expr} {sc : Scope} {own : List (Str × Nat)} {pos p2 : Pos} {wi : TI} {g : TG} {tt : TT} {te : TE} {use : Option (Value → Sem Unit)} {Qf : Value → Shared → Prop}
    (calm : X.calm = true) (tk : L2.Takes X W) (hst : X.stack = X.env :: X.outer) (hf : X.env.frame = some X.env.locals) (hN : X.N.Nodup) (I : L2.Inv X pn σ H s) (hi : PI X tg it wi) (ok : BlkOk X.N X.env.scope sc own)
    (pgs : ∀ s H C cl fp, PG (X.blk s H sc (compEnvC sc cl C X.env) fp) tg g) (pts : ∀ s H C cl fp, PTs (X.blk s H sc (compEnvC sc cl C X.env) fp) ifs tt) (pes : ∀ s H C cl fp, (X.blk s H sc (compEnvC sc cl C X.env) fp).Ok → PE (airX (X.blk s H sc (compEnvC sc cl C X.env) fp) (fun cls d G => W cls d σ G)) el te)
    (hs : ∀ x, foldedSetIterable it X.env x = pure x) (h : tLc wi g tt te (own.map (·.2)) σ H Q)
    (out : ∀ (L : Addr) (ce : PySem.Env) (s2 : Shared) (m : Str → Option Value) (G : Hp), L2.Inv X pn σ G s2 → Q (.ref L) G → s2.heap.Ns ce.locals m → FpOk X pn G ce.locals → compEnds (model X.prog X.w) X.A X.xe use Qf (.ref L) ce (.ok .next) s2) :
    wpAny (model X.prog X.w) X.A (comprehension (.ListComp el [⟨tg, it, ifs, 0⟩] sc pos) sc X.env p2 (newList []) false (eval it X.env) use) Qf X.xe s := by
  have fr : ∀ y ∈ sc.names, y.2 = .free → ∃ c, X.env.cells.lookup y.1 = some c := by
    intro y hy e
    rcases ok.free y hy e with q | q
    · exact I.ok.has _ (.inl q)
    · exact I.ok.has _ (.inr q)
  refine comprehension_at (use := use) rfl hs (closure_ok fr) ok.kind (fun y hy e => by rw [ok.uniq y hy, e]) (thn (hi.run pn s σ H _ I h) fun xv s1 hx => thn hx fun itv s2 h2 => ?_)
  obtain ⟨itr, fp, tn, J, G, e, I2, T, st2, f2, q⟩ := h2
  subst e
  refine wpAny_newObj_type (newEnv_comp ?_) (by show 0 ≤ sizeLine; decide)
  have hLn : G s2.heap.objs.size = none := I2.hok.fresh (Nat.le_refl _)
  obtain ⟨V, ⟨m0, v0⟩, turn⟩ := q _ hLn
  have kp3 : ∀ b o, s2.heap.get? b = some o → (s2.heap.push { cls := .type "list", data := .seq ([] : List Value).toArray }).get? b = some o := fun b o e => Heap.get?_push_of_some _ e
  have I3 := I2.laid (t' := s2.toks) (o := .lst []) kp3 (Nat.le_refl _) ⟨Nat.zero_le _, [], 0, .nil, Heap.get?_push_size _ rfl⟩
  have sz : ∀ b ∈ fp, b < s2.heap.objs.size := by
    intro b hb
    obtain ⟨o, e, _⟩ := T.obj _ _ st2 b hb
    exact Heap.lt_size e
  have st3 := T.keep _ _ _ st2 fun b _ o e => kp3 b o e
  have hz : s2.heap.objs.size < (s2.heap.push { cls := .type "list", data := .seq ([] : List Value).toArray }).objs.size := by rw [Heap.size_push]; exact Nat.lt_succ_self _
  generalize hh3 : s2.heap.push { cls := .type "list", data := .seq ([] : List Value).toArray } = h3 at *
  generalize s2.heap.objs.size = L at *
  generalize hs3 : ({ s2 with heap := h3, toks := s2.toks } : Shared) = s3 at *
  have eh : s3.heap = h3 := by rw [← hs3]
  have f3 : ∀ b ∈ fp, FpOk X pn (upd G L (.lst [])) b ∧ b < s3.heap.objs.size := by
    intro b hb
    have lt := sz b hb
    refine ⟨⟨?_, (f2 b hb).2⟩, ?_⟩
    · rw [upd_ne (Nat.ne_of_lt lt)]
      exact (f2 b hb).1
    · rw [eh]
      exact Nat.lt_trans lt hz
  have I4 := block_start I3 ok hN f3
  have pg := pgs s3 (upd G L (.lst [])) s3.heap.objs.size (cellsFrom (s3.heap.objs.size + 1) sc.names (cloFrom X.env.cells sc.names [])) fp
  have pt := pts s3 (upd G L (.lst [])) s3.heap.objs.size (cellsFrom (s3.heap.objs.size + 1) sc.names (cloFrom X.env.cells sc.names [])) fp
  have pe := pes s3 (upd G L (.lst [])) s3.heap.objs.size (cellsFrom (s3.heap.objs.size + 1) sc.names (cloFrom X.env.cells sc.names [])) fp I4.ok
  have goal : codeAny (model X.prog X.w) X.A (.compStart (.ListComp el [⟨tg, it, ifs, 0⟩] sc pos) 0 (.ref itr) (.ref L) (compEnvC sc (cellsFrom (s3.heap.objs.size + 1) sc.names (cloFrom X.env.cells sc.names [])) s3.heap.objs.size X.env)) (compEnds (model X.prog X.w) X.A X.xe use Qf (.ref L) (compEnvC sc (cellsFrom (s3.heap.objs.size + 1) sc.names (cloFrom X.env.cells sc.names [])) s3.heap.objs.size X.env)) { s3 with heap := pushCells (s3.heap.push { cls := .type "dict", data := .dict #[] }) sc.names } := by
    have cF : (compEnvC sc (cellsFrom (s3.heap.objs.size + 1) sc.names (cloFrom X.env.cells sc.names [])) s3.heap.objs.size X.env).frame = X.env.frame := rfl
    generalize hce : compEnvC sc (cellsFrom (s3.heap.objs.size + 1) sc.names (cloFrom X.env.cells sc.names [])) s3.heap.objs.size X.env = ce at I4 pg pt pe cF ⊢
    have cL : ce.locals = s3.heap.objs.size := by rw [← hce]; rfl
    have nfp : ∀ b ∈ fp, (upd G L (.lst [])) b = none := fun b hb => (f3 b hb).1.1
    generalize upd G L (.lst []) = G3 at *
    generalize hs4 : ({ s3 with heap := pushCells (s3.heap.push { cls := .type "dict", data := .dict #[] }) sc.names } : Shared) = s4 at I4 ⊢
    have st4 : tn 0 s4.heap := T.keep _ _ _ st3 fun b _ o e => by
      rw [← hs4]
      exact pushCells_keeps _ _ _ _ (Heap.get?_push_of_some _ (by rw [eh]; exact e))
    have stat : ∀ {τ : L2.St} {G2 : Hp} {s2 : Shared}, L2.Inv (X.blk s3 G3 sc ce fp) [] τ G2 s2 → (∀ b ∈ fp, G2 b = none) → ∀ b ∈ fp, FpOk (X.blk s3 G3 sc ce fp) [] G2 b := by
      intro τ G2 s2 I' hn b hb
      exact ⟨hn b hb, (I'.ok.exf b hb).1, I'.ok.exfs b hb, .inl hb, fun x c e => (I'.ok.exf b hb).2 x c e, fun p hp => absurd (show p ∈ ([] : List (Addr × Obj)) ++ [] from hp) (by simp)⟩
    have back : ∀ {ps : List (Addr × Obj)} {τ : L2.St} {G2 : Hp} {s2 : Shared}, L2.Inv (X.blk s3 G3 sc ce fp) ps τ G2 s2 → L2.Inv X pn σ G2 s2 := fun I' => I3.call' (ch := fp) I'.os I'.base I'.hok I'.bare fun b hb => ⟨(f3 b hb).1.2.2.2.1, (f3 b hb).1.2.1, (f3 b hb).1.2.2.2.2.1, (f3 b hb).1.2.2.2.2.2⟩
    have fpC : ∀ G2 : Hp, G2 ce.locals = none → FpOk X pn G2 ce.locals := fun G2 z => by
      rw [cL] at z ⊢
      exact I3.fpOk (Nat.le_refl _) z
    have lp : codeAny (model X.prog X.w) X.A (.compLoop (.ListComp el [⟨tg, it, ifs, 0⟩] sc pos) 0 (.ref itr) (.ref L) ce) (compEnds (model X.prog X.w) X.A X.xe use Qf (.ref L) ce) s4 := by
      refine compLoop_any (fun n s2 => ∃ i G2, L2.Inv (X.blk s3 G3 sc ce fp) [] (wipe σ (own.map (·.2))) G2 s2 ∧ tn i s2.heap ∧ (∀ b ∈ fp, G2 b = none) ∧ V i n G2) ?_ m0 ⟨0, G3, I4, st4, nfp, v0⟩
      rintro n s5 ⟨i, G5, I5, st5, n5, w5⟩
      rcases turn i n G5 w5 with ⟨stop, qq⟩ | ⟨go, Nx, hNx, step⟩
      · have td := T.done (X.blk s3 G3 sc ce fp) rfl rfl rfl calm i [] s5 _ G5 (fun _ _ => False) I5 (stat I5 n5) st5 stop
        refine thnF td fun r s6 ⟨hr, I6⟩ => ?_
        subst hr
        have nC : G5 ce.locals = none := I6.free
        obtain ⟨m, hn, _⟩ := I6.loc
        exact out L ce s6 m G5 (back I6) qq hn (fpC G5 nC)
      · have ti := T.item (X.blk s3 G3 sc ce fp) rfl rfl rfl calm i [] s5 _ G5 (fun _ _ => False) I5 (stat I5 n5) st5 go
        refine thnF ti fun r s6 ⟨u, hr, h6⟩ => ?_
        subst hr
        refine thnF h6 fun _ s7 ⟨x, G7, I7, r7, y7, st7, n7⟩ => ?_
        have I7' := I7.pinned (stat I7 n7) (T.obj _ _ st7)
        refine thnF (pg.run _ s7 _ G7 x u _ I7' r7 (step x G7 y7)) fun _ s8 ⟨τ, G8, I8, hw8, q8⟩ => ?_
        refine thnF (pt.run _ s8 τ G8 _ I8 q8) fun b s9 ⟨G9, I9, q9⟩ => ?_
        have fin : ∀ {s2 : Shared} {G2 : Hp}, L2.Inv (X.blk s3 G3 sc ce fp) ([] ++ pinsAt fp s7.heap) τ G2 s2 → Nx G2 → ∃ m, m < n ∧ ∃ i G2, L2.Inv (X.blk s3 G3 sc ce fp) [] (wipe σ (own.map (·.2))) G2 s2 ∧ tn i s2.heap ∧ (∀ b ∈ fp, G2 b = none) ∧ V i m G2 := by
          intro s2 G2 I' nx
          obtain ⟨k, hk, w'⟩ := hNx G2 nx
          have pin' : ∀ b ∈ fp, ∀ o, s7.heap.get? b = some o → s2.heap.get? b = some o ∧ G2 b = none := fun b hb o e => by
            have z := I'.pin (b, o) (List.mem_append_right _ (List.mem_append_right _ (mem_pinsAt hb e)))
            exact ⟨z.1, z.2.1⟩
          have hl : (wipe σ (own.map (·.2))).length = τ.length := by rw [← hw8, wipe_length]
          refine ⟨k, hk, i + 1, G2, (I'.unpinned (pins := [])).weak hl (fun j v e => ?_), T.keep _ _ _ st7 fun b hb o e => (pin' b hb o e).1, fun b hb => ?_, w'⟩
          · rw [← hw8] at e
            exact (wipe_some e).1
          · obtain ⟨o, e, _⟩ := T.obj _ _ st7 b hb
            exact (pin' b hb o e).2
        cases b with
        | false =>
          simp only [Bool.false_eq_true, if_false] at q9 ⊢
          exact fin I9 q9
        | true =>
          simp only [if_true] at q9 ⊢
          refine wpAny_mono (pe.run _ s9 τ G9 _ (inv_xe I9 _) q9) (fun z s10 ⟨yv, G10, I10, r10, acc, hL10, hz10, nx⟩ => ?_) (fun u s10 ax => ?_)
          · exact app_ok (X := X.blk s3 G3 sc ce fp) (inv_ofxe I9.ok I10) hL10 hz10 r10 fun s11 I11 => fin I11 nx
          · exact air_out (Y := X.blk s3 G3 sc ce fp) tk hst hf I.ok.frames cF rfl rfl back fpC ax
    exact codeAny_compStart_list lp (T.self X.A 0 _ _ _ st4 lp)
  subst hs3
  exact goal
theorem pe_lcX {el tg it : Expr} {ifs : List Expr} {sc : Scope} {own : List (Str × Nat)} {pos : Pos} {wi : TI} {g : TG} {tt : TT} {te : L2.St → TE} (calm : X.calm = true) (tk : L2.Takes X W) (hN : X.N.Nodup) (hi : PI X tg it wi) (ok : BlkOk X.N X.env.scope sc own)
    (pgs : ∀ s H C cl fp, PG (X.blk s H sc (compEnvC sc cl C X.env) fp) tg g) (pts : ∀ s H C cl fp, PTs (X.blk s H sc (compEnvC sc cl C X.env) fp) ifs tt) (pes : ∀ σ s H C cl fp, (X.blk s H sc (compEnvC sc cl C X.env) fp).Ok → PE (airX (X.blk s H sc (compEnvC sc cl C X.env) fp) (fun cls d G => W cls d σ G)) el (te σ))
    (hs : ∀ x, foldedSetIterable it X.env x = pure x := by intro _; rfl) (hst : X.stack = X.env :: X.outer := by rfl) (hf : X.env.frame = some X.env.locals := by rfl) :
    PE X (.ListComp el [⟨tg, it, ifs, 0⟩] sc pos) (fun σ H Q => tLc wi g tt (te σ) (own.map (·.2)) σ H Q) := by
  refine ⟨fun pins s σ H Q I h => ?_⟩
  rw [eval_ListComp]
  refine lcx_core calm tk hst hf hN I hi ok pgs pts (pes σ) hs h fun L ce s2 m G I' q hn f => ⟨m, hn, fun h2 sb => ?_⟩
  obtain ⟨f0, f1, f2, f3, f4, f5⟩ := f
  exact ⟨.ref L, G, I'.turned (t' := s2.toks) (fun b o hb e => (sb.2 b hb).trans e) f0 f1 f3 f4 f5, rfl, q⟩
end
end Mir

namespace Mir
open PySem PySem.Spec PyProof.Rows L2
section
variable {X : Cx} {W : WX}
/-! ## [el for tg in iter if tst], el may raise: mirrored -/
def cLoopX (vs : List Nat) (tgt : TF) (tst : EF Bool) (el : EF D) : List D → List D → ME → Option (Res (List D) × ME)
  | [], acc, e => some (.ok acc, e)
  | d :: ds, acc, e => match tgt d e with
    | some e1 => match tst e1 with
      | some (.ok true, e2) => match el e2 with
        | some (.ok x, e3) => cLoopX vs tgt tst el ds (acc ++ [x]) (wipeE e3 vs)
        | some (.ex x, e3) => some (.ex x, wipeE e3 vs)
        | none => none
      | some (.ok false, e2) => cLoopX vs tgt tst el ds acc (wipeE e2 vs)
      | _ => none
    | none => none
def kRes : Res (List D) → Res FR
  | .ok acc => .ok (.o (.lst acc))
  | .ex x => .ex x
def eLcX (vs : List Nat) (fi : EF (List D)) (tgt : TF) (tst : EF Bool) (el : EF D) : EF FR := eBind fi fun ds e => if offAt vs e = true ∧ ds.length ≤ sizeLine then match cLoopX vs tgt tst el ds [] e with
    | some (o, e') => some (kRes o, e')
    | none => none
  else none
theorem lcX_tr {K : PySem.W.Frag} {fi : EF (List D)} {tgt : TF} {tst : EF Bool} {el : EF D} {σ : St} {H : Hp} {Q : VK} (h : trF K W (eLcX vs fi tgt tst el) σ H Q) :
    tLc (tr K W (RI K) fi) (trGv vs K tgt) (tr K W0 RB tst) (tr K (fun cls d _ G => W cls d σ G) (RD K) el) vs σ H Q := by
  obtain ⟨S, env, r, env', rel, ef, q⟩ := h
  unfold eLcX eBind at ef
  refine ⟨S, env, ?_⟩
  cases ea : fi env with
  | none => rw [ea] at ef; cases ef
  | some p =>
    obtain ⟨r1, e1⟩ := p
    rw [ea] at ef
    cases r1 with
    | ex x =>
      have ef' : some (Res.ex x, e1) = some (r, env') := ef
      cases ef'
      exact ⟨.ex x, _, rel, ea, q⟩
    | ok ds =>
      refine ⟨.ok ds, e1, rel, ea, fun S1 H1 st J io L hL => ?_⟩
      dsimp only at ef
      split at ef
      · rename_i hc
        obtain ⟨hoff, hlen⟩ := hc
        have key : ∃ out, cLoopX vs tgt tst el ds [] e1 = some (out, env') ∧ kRes out = r := by
          cases hcl : cLoopX vs tgt tst el ds [] e1 with
          | none => rw [hcl] at ef; cases ef
          | some p =>
            obtain ⟨o, e'⟩ := p
            rw [hcl] at ef
            cases o <;> (cases ef; exact ⟨_, rfl, rfl⟩)
        obtain ⟨out, hcl, hr⟩ := key
        · skip
          have hoff := offAt_of hoff
          have l0 : (wipe σ vs).length = σ.length := wipe_length _ _
          have st0 : Step K S1 e1 (wipe σ vs) H1 S1 e1 (wipe σ vs) H1 := st.rel.step.off (fun i s h => wipe_out (hoff i s h)) (fun i s h => wipe_out (hoff i s h)) l0 l0
          refine ⟨fun i m H => m = ds.length - i ∧ i ≤ ds.length ∧ ∃ S2 e2 acc vacc, Step K S1 e1 (wipe σ vs) H1 S2 e2 (wipe σ vs) (less H L) ∧ H L = some (.lst vacc) ∧ Reps K S2 acc vacc ∧ acc.length ≤ i ∧ (∀ i s, e2[i]? = some (some s) → i ∉ vs) ∧ cLoopX vs tgt tst el (ds.drop i) acc e2 = some (out, env'),
            ⟨ds.length, rfl, Nat.zero_le _, S1, e1, [], [], by rw [less_upd, less_id hL]; exact st0, upd_same, rfl, Nat.zero_le _, hoff, hcl⟩, ?_⟩
          rintro i m H2 ⟨rfl, hi, S2, en2, acc, vacc, st2, hH, rr, hal, hoff2, hcl2⟩
          have bst : Step K S2 en2 (wipe σ vs) (less H2 L) S2 en2 (wipe σ vs) H2 := by
            have := st2.rel.beside (p := L) (o := .lst vacc) less_same
            rwa [upd_less hH] at this
          have nS : S2 L = none := by
            cases e : S2 L with
            | none => rfl
            | some u =>
              have := st2.rel.sub _ _ e
              rw [less_same] at this
              cases this
          have nO : ¬ Own en2 (wipe σ vs) L := by
            rintro ⟨j, m, h1, h2⟩
            obtain ⟨a, o, q1, q2, _, _⟩ := st2.rel.obj j m h1
            rw [h2] at q1
            cases q1
            rw [less_same] at q2
            cases q2
          by_cases hlt : i < ds.length
          · rw [List.drop_eq_getElem_cons hlt] at hcl2
            unfold cLoopX at hcl2
            refine .inr ⟨io.goes i S2 en2 _ H2 hlt st2.le bst.rel, fun H3 => i + 1 ≤ ds.length ∧ ∃ S2 en2 acc vacc, Step K S1 e1 (wipe σ vs) H1 S2 en2 (wipe σ vs) (less H3 L) ∧ H3 L = some (.lst vacc) ∧ Reps K S2 acc vacc ∧ acc.length ≤ i + 1 ∧ (∀ i s, en2[i]? = some (some s) → i ∉ vs) ∧ cLoopX vs tgt tst el (ds.drop (i + 1)) acc en2 = some (out, env'),
              fun H3 h3 => ⟨ds.length - (i + 1), by omega, rfl, h3⟩, fun x H3 hy => ?_⟩
            obtain ⟨S3, d, st3, hd, rd, _⟩ := io.yields i S2 en2 _ H2 x H3 hlt st2.le bst.rel hy
            rw [List.getElem?_eq_getElem hlt] at hd
            cases hd
            split at hcl2
            · rename_i e3 hg3
              refine ⟨S3, en2, _, e3, st3.rel, rd, hg3, fun S4 σ4 H4 st4 es eh ew => ?_⟩
              have ew' : wipe σ4 vs = wipe σ vs := ew.trans wipe_idem
              have st24 := st3.trans st4
              have fin : ∀ (S5 : Hp) (e5 : ME) (H5 : Hp), Step K S2 en2 (wipe σ vs) H2 S5 e5 σ4 H5 → Step K S1 e1 (wipe σ vs) H1 S5 (wipeE e5 vs) (wipe σ vs) (less H5 L) ∧ H5 L = some (.lst vacc) := fun S5 e5 H5 st5 => by
                refine ⟨?_, st5.frame L _ hH nS nO⟩
                have a := st2.trans (st5.lessen hH nS nO)
                have b := a.rel.wipe (vs := vs) fun j hj m hm => by
                  obtain ⟨m', hm'⟩ := a.borr j m hm
                  exact hoff j _ hm' hj
                rw [ew'] at b
                exact a.trans b
              refine ⟨ew', ?_⟩
              split at hcl2
              · rename_i e4 ht4
                refine ⟨S4, e3, .ok true, e4, st4.rel, ht4, fun S5 H5 st5 b hb => ?_⟩
                have hb' : true = b := hb
                subst hb'
                split at hcl2
                · rename_i y e5 hel
                  refine iteT ⟨S5, e4, .ok y, e5, st5.rel, hel, fun S6 H6 st6 w rw6 => ?_⟩
                  obtain ⟨f1, f2⟩ := fin S6 e5 H6 ((st24.trans st5).trans st6)
                  refine ⟨vacc, f2, by rw [← Reps.len rr]; omega, hlt, S6, wipeE e5 vs, acc ++ [y], vacc ++ [w], by rw [less_upd]; exact f1, upd_same, reps_snoc (Reps.mono ((st24.trans st5).trans st6).le _ _ rr) rw6, by simp; exact hal, fun j s h => (wipeE_some h).2, hcl2⟩
                · rename_i x e5 hel
                  cases hcl2
                  have hr' : Res.ex x = r := hr
                  subst hr'
                  refine iteT ⟨S5, e4, .ex x, e5, st5.rel, hel, fun S6 H6 st6 => ?_⟩
                  obtain ⟨f1, f2⟩ := fin S6 e5 H6 ((st24.trans st5).trans st6)
                  have bs : Step K S6 (wipeE e5 vs) (wipe σ vs) (less H6 L) S6 (wipeE e5 vs) (wipe σ vs) H6 := by
                    have := f1.rel.beside (p := L) (o := .lst vacc) less_same
                    rwa [upd_less f2] at this
                  have full := st.trans ((f1.trans bs).off (fun i s h => (wipe_out (hoff i s h)).symm) (fun i s h => (wipe_out (wipeE_some h).2).symm) l0.symm l0.symm)
                  exact q S6 H6 full
                · cases hcl2
              · rename_i e4 ht4
                refine ⟨S4, e3, .ok false, e4, st4.rel, ht4, fun S5 H5 st5 b hb => ?_⟩
                have hb' : false = b := hb
                subst hb'
                obtain ⟨f1, f2⟩ := fin S5 e4 H5 (st24.trans st5)
                exact iteF ⟨hlt, S5, wipeE e4 vs, acc, vacc, f1, f2, Reps.mono (st24.trans st5).le _ _ rr, Nat.le_succ_of_le hal, fun j s h => (wipeE_some h).2, hcl2⟩
              · cases hcl2
            · cases hcl2
          · have e : i = ds.length := by omega
            subst e
            rw [List.drop_length] at hcl2
            have hcl3 : some (Res.ok acc, en2) = some (out, env') := hcl2
            cases hcl3
            have hr' : Res.ok (FR.o (.lst acc)) = r := hr
            subst hr'
            refine .inl ⟨io.stops S2 _ _ H2 st2.le bst.rel, ?_⟩
            have full := st.trans (st2.off (fun i s h => (wipe_out (hoff i s h)).symm) (fun i s h => (wipe_out (hoff2 i s h)).symm) l0.symm l0.symm)
            have z := q S2 (less H2 L) full L (.lst vacc) less_same ⟨vacc, rfl, by omega, rr⟩
            rwa [upd_less hH] at z
      · cases ef
theorem df_lcX {elt tg iter : Expr} {ifs : List Expr} {scope : Scope} {pos : Pos} {own : List (Str × Nat)} {fi : EF (List D)} {tgt : TF} {tst : EF Bool} {el : EF D} (tk : L2.Takes X W) (hc : X.calm = true) (hN : X.N.Nodup) (hi : DI X W tg iter fi) (ok : BlkOk X.N X.env.scope scope own)
    (hg : ∀ (s : Shared) (H : Hp) (C : Addr) (cl : List (Str × Addr)) (fp : List Addr), DGv (X.blk s H scope (compEnvC scope cl C X.env) fp) (own.map (·.2)) tg tgt)
    (ht : ∀ (s : Shared) (H : Hp) (C : Addr) (cl : List (Str × Addr)) (fp : List Addr), DTs (X.blk s H scope (compEnvC scope cl C X.env) fp) W0 ifs tst)
    (he : ∀ (Wb : WX) (xe : Value → Shared → Prop) (s : Shared) (H : Hp) (C : Addr) (cl : List (Str × Addr)) (fp : List Addr), TkC ((X.blk s H scope (compEnvC scope cl C X.env) fp).tr [] xe) Wb → DE ((X.blk s H scope (compEnvC scope cl C X.env) fp).tr [] xe) Wb elt el) (hs : ∀ x, foldedSetIterable iter X.env x = pure x := by intro _; rfl)
    (hst : X.stack = X.env :: X.outer := by rfl) (hf : X.env.frame = some X.env.locals := by rfl) :
    DF X W (.ListComp elt [⟨tg, iter, ifs, 0⟩] scope pos) (eLcX (own.map (·.2)) fi tgt tst el) :=
  pe_imp (pe_lcX (g := trGv (List.map (fun p : Str × Nat => p.2) own) X.K tgt) (tt := tr X.K W0 RB tst) (te := fun σ => tr X.K (fun cls d _ G => W cls d σ G) (RD X.K) el) hc tk hN hi ok hg ht (fun σ s H C cl fp o => he _ _ s H C cl fp (tkc_air o)) hs hst hf) fun σ H Q h => lcX_tr h
end
end Mir

/-! ## x * e, e an instance with its own def for it, x none, a bool, an int or a text -/
namespace PySem
open AutoSeq1 (wpAny_loadPart')
theorem mir_mul_declines (v : Value) (hv : (∃ a t, v = .int a t) ∨ ∃ b, v = .bool b) (l C dx : Addr) : Meets (Builtin.«int.__mul__» ⟨[v, .ref l], []⟩) (fun _ R s => s.heap.get? l = some (W.instObj C dx) ∧ R (.ok (.ret Value.notImplemented)) s) :=
  .of_wp fun prog w A R s h => by
    obtain ⟨hp, g, d, tk, os⟩ := s
    obtain ⟨hl, h⟩ := h
    rcases hv with ⟨a, t, rfl⟩ | ⟨b, rfl⟩
    · wp_walk using wpAny_loadPart' hl
      exact ⟨_, rfl, h⟩
    · wp_walk using wpAny_loadPart' hl
      exact ⟨_, rfl, h⟩
end PySem
namespace Mir
open PySem PySem.Spec PyProof.Rows L2
section
open PySem.W PySem.Calls
variable {prog : Program} {w : World} {A : Around} {E : Value → Shared → Prop} {s : Shared} {K : Frag} {x C f g dx : Addr} {ox : Obj} {od : Option Obj} {v : Value} {T : String} {Q : Value → Shared → Prop}
theorem rmul_T (X : K.In s.heap) (I : InstAt s.heap x ox C od) (hx : s.heap.get? x = some (instObj C dx)) (hb : Looks (model prog w) s.heap (typeOf v) (.type T)) (hc : selfFirst K C = true) (hs : findIn K (.ref C) (PySem.dunder "mul") = some (some (.ref f))) (h2 : findIn K (.ref C) (dunderR "mul") = some (some (.ref g))) (hg : isFn K (.ref g) = true)
    (hT : (fillT T "mul" = some false) ∨ (fillT T "mul" = some true ∧ s.TypeIs v T ∧ Slot T (PySem.dunder "mul") "int.__mul__" ∧ subIn K (.ref C) (.type T) = some false ∧ ((∃ a t, v = .int a t) ∨ ∃ b, v = .bool b)))
    (h : wpAny (model prog w) A (call (.ref g) [.ref x, v]) (PySem.W.CmpBack Q) E s) : wpAny (model prog w) A (binaryOp .Mult v (.ref x)) Q E s := by
  obtain ⟨cd, hcd, hm⟩ := any_some hc
  obtain ⟨rest, hm⟩ : ∃ rest, cd.mro = .ref C :: rest := by
    cases q : cd.mro with
    | nil => rw [q] at hm; cases hm
    | cons a r => rw [q] at hm; exact ⟨r, by rw [List.head?_cons] at hm; cases (beq_iff_eq.mp hm); rfl⟩
  have last : wpAny (model prog w) A (tryMethod (.ref x) (dunderR "mul") v) (fun o s' => ∃ z, o = some z ∧ Q z s') E s := by
    unfold tryMethod
    refine wpAny_bind (special_fn X I h2 (beq_iff_eq.mp hg) (wpAny_mono h (fun z s' hz => ?_) fun _ _ e => e))
    cases z <;> first | exact hz.elim | exact wpAny_pure ⟨_, rfl, hz⟩
  unfold binaryOp
  refine wpAny_holding (wpAny_bind (m := binaryOp1 "mul" v (.ref x)) ?_)
  unfold binaryOp1
  refine wpAny_bind (hb.here (wpAny_bind (I.type.here (wpAny_bind ?_))))
  rcases hT with hT | ⟨hT, ht, sl, hsub, hv⟩
  · refine (looks_fillT X hT).here ?_
    rw [show (Value.type T == Value.ref C) = false from rfl]
    simp only [Bool.false_eq_true, if_false]
    refine wpAny_bind ((fills_K X hcd hm hs).here ?_)
    simp only [Bool.false_and, Bool.false_eq_true, if_false]
    refine wpAny_bind (wpAny_pure ?_)
    simp only [Bool.false_eq_true, if_false, Bool.not_false, Bool.and_true, if_true]
    refine wpAny_bind (m := tryMethod (.ref x) (dunderR "mul") v) (wpAny_mono last (fun o s' ho => ?_) fun _ _ e => e)
    obtain ⟨z, rfl, q⟩ := ho
    exact wpAny_bind (wpAny_rule (wpAny_pure (wpAny_pure q)))
  · refine (looks_fillT X hT).here ?_
    rw [show (Value.type T == Value.ref C) = false from rfl]
    simp only [Bool.false_eq_true, if_false]
    refine wpAny_bind ((fills_K X hcd hm hs).here ?_)
    simp only [Bool.and_true, Bool.true_and, if_true]
    refine wpAny_bind ((looks_subIn X hsub).here ?_)
    simp only [Bool.false_eq_true, if_false, Bool.not_false, if_true]
    refine wpAny_bind (m := numberSlotInPython (.type T) "mul") (wpAny_pure ?_)
    simp only [Bool.false_eq_true, if_false]
    have dec : wpAny (model prog w) A (tryMethod v (PySem.dunder "mul") (.ref x)) (fun o s' => o = none ∧ s' = s) E s := by
      unfold tryMethod
      refine wpAny_bind (wpAny_callSpecial?_slot (name := PySem.dunder "mul") ht sl (call_meets sl ht F.entry_int_mul (F.args_int_mul_2 _ _) (mir_mul_declines v hv x C dx) ⟨hx, ?_⟩))
      exact wpAny_pure ⟨rfl, rfl⟩
    refine wpAny_bind (wpAny_mono dec (fun o s' ho => ?_) fun _ _ e => e)
    obtain ⟨rfl, rfl⟩ := ho
    refine wpAny_bind (m := tryMethod (.ref x) (dunderR "mul") v) (wpAny_mono last (fun o s2 ho => ?_) fun _ _ e => e)
    obtain ⟨z, rfl, q⟩ := ho
    exact wpAny_bind (wpAny_rule (wpAny_pure (wpAny_pure q)))
end
section
variable {X : Cx} {W : WX} {k j n : Nat} {f g Ca : Addr} {fd : FuncData} {ps : List Str} {mf : MF} {C : Str} {a b : Expr} {fa fb : EF AV} {pos : Pos}
/-- what is asked of the class -/
structure RMul (K : PySem.W.Frag) (Ca f g : Addr) : Prop where
  mul : PySem.W.findIn K (.ref Ca) (PySem.dunder "mul") = some (some (.ref f))
  rmul : PySem.W.findIn K (.ref Ca) (dunderR "mul") = some (some (.ref g))
  fn : PySem.W.isFn K (.ref g) = true
  sf : PySem.W.selfFirst K Ca = true
  si : PySem.W.subIn K (.ref Ca) (.type "int") = some false
  sb : PySem.W.subIn K (.ref Ca) (.type "bool") = some false
def rRmul (Ca : Addr) (sp : Sp) (E : L2.St → XK) : RW2 := fun σ x y H Q => ∃ a dx fs, y = .ref a ∧ H a = some (.ins Ca dx fs) ∧ flatV x = true ∧ sp [y, x] H Q (E σ)
theorem op_rmul (tk : TkC X W) (R : RMul X.K Ca f g) (F : FnOk X.prog X.w X.K X.mg X.base (L2.CX X.prog X.w) k g fd ps (spM X.K 2 mf)) (hb : Binds X.K fd ps []) (hr : Room j X.A) (hj : k ≤ j) : OpW X (binaryOp .Mult) (rRmul Ca (spM X.K 2 mf) (fun σ cls dd H => W cls dd σ H)) := by
  intro pn s σ H x y v u Q I rx ry h
  obtain ⟨a, dx, fs, rfl, ha, hx, hsp⟩ := h
  obtain rfl : u = Value.ref a := ry
  obtain ⟨mA, J, _⟩ := ins_get I.hok ha
  obtain ⟨od, J, _⟩ := J.look
  have hob : s.heap.get? a = some (PySem.W.instObj Ca dx) := (I.hok a _ ha).2.2.2.1
  have run : wpAny (model X.prog X.w) X.A (call (.ref g) [.ref a, v]) (PySem.W.CmpBack (EP X pn σ Q)) X.xe s := by
    exact wpAny_mono (run_at F (hr.mono hj) rfl hb (tk σ) I (vs := [V.ref a, x]) (.cons rfl (.cons rx .nil)) hsp) (fun r s2 z => by
      obtain ⟨w, H2, I2, rv, q2⟩ := z
      exact cmpBack_of rv ⟨w, H2, I2, rv, q2⟩) fun _ _ z => z
  cases x with
  | non =>
    obtain rfl : v = Value.none := rx
    exact rmul_T (T := "NoneType") I.kIn J hob (fun A Q E s k q => wpAny_of_eq rfl q) R.sf R.mul R.rmul R.fn (.inl (by decide +kernel)) run
  | bl b =>
    obtain rfl : v = Value.bool b := rx
    exact rmul_T (T := "bool") I.kIn J hob (fun A Q E s k q => wpAny_of_eq rfl q) R.sf R.mul R.rmul R.fn (.inr ⟨by decide +kernel, rfl, PySem.F.slot_bool_mul, R.sb, .inr ⟨_, rfl⟩⟩) run
  | int i =>
    obtain ⟨t, rfl⟩ := rx
    exact rmul_T (T := "int") I.kIn J hob (fun A Q E s k q => wpAny_of_eq rfl q) R.sf R.mul R.rmul R.fn (.inr ⟨by decide +kernel, rfl, PySem.F.slot_int_mul, R.si, .inl ⟨_, _, rfl⟩⟩) run
  | str z =>
    obtain ⟨t, rfl⟩ := rx
    exact rmul_T (T := "str") I.kIn J hob (fun A Q E s k q => wpAny_of_eq rfl q) R.sf R.mul R.rmul R.fn (.inl (by decide +kernel)) run
  | _ => cases hx
/-- x * e -/
def kRmul (C : Str) (mf : MF) (x y : AV) : EF FR := fun env => match viewA x env, viewA y env with
  | some d, some (.ins c _) => if c = C ∧ (flD d).isSome = true then kCall mf [y, x] env else none
  | _, _ => none
theorem df_rmul (tk : TkC X W) (cn : ClsN X.K C Ca) (R : RMul X.K Ca f g) (F : FnOk X.prog X.w X.K X.mg X.base (L2.CX X.prog X.w) k g fd ps (spM X.K 2 mf)) (hd : Binds X.K fd ps []) (hr : Room j X.A) (hj : k ≤ j) (ha : DV X W a fa) (hb : DV X W b fb) :
    DF X W (.BinOp a .Mult b pos) (e2F fa fb (kRmul C mf)) := by
  refine pe_imp (pe_opW (op_rmul tk R F hd hr hj) ha hb) ?_
  rintro σ H Q ⟨S, env, z⟩
  refine ⟨S, env, (AtF.bind (R := RAv X.K) z).imp fun vx H1 ⟨x, S1, e1, rx, st, z1⟩ => ?_⟩
  refine ⟨S1, e1, (AtF.bind (R := RAv X.K) z1).imp fun vy H2 ⟨y, S2, e2, ry, st2, z2⟩ => ?_⟩
  obtain ⟨r, env', rel, ef, q⟩ := z2
  unfold kRmul at ef
  split at ef
  · rename_i d c fs hv hv'
    split at ef
    · rename_i hc
      obtain ⟨rfl, h2⟩ := hc
      have rx' := rx.mono st2.le
      obtain ⟨fv, h2⟩ := Option.isSome_iff_exists.mp h2
      obtain ⟨rfl, fl⟩ := flD_1 h2 (view_one rel rx' hv)
      obtain ⟨C1, a1, dx, fs2, cn1, rfl, hH, rf⟩ := view_one rel ry hv'
      obtain rfl := cn1.inj cn
      exact ⟨a1, dx, fs2, rfl, hH, fl, kcall_sp (as := [y, x]) (vs := [V.ref a1, vx]) rel ⟨.ref a1, [vx], rfl, ry, vx, [], rfl, rx', rfl⟩ rfl ef q⟩
    · cases ef
  · cases ef
end
end Mir

namespace Mir.Lk06
open PySem PySem.Spec PyProof.Rows L2 Mir
/-! ### the text -/
def top (i : Nat) : Stmt := PySem.Challenge.pw_standinparts_k06_lists_refused.main.body.getD i (.Pass ⟨0, 0, 0, 0⟩)
abbrev s_is_integer : Stmt := top 11
abbrev s_is_word : Stmt := top 10
abbrev s_is_place : Stmt := top 15
abbrev s_PartsList___init__ : Stmt := inClass (top 17) 0
abbrev s_times : Stmt := top 18
abbrev s_PartsList___mul__ : Stmt := inClass (top 17) 9
abbrev s_PartsList___rmul__ : Stmt := inClass (top 17) 10
abbrev s_check_list : Stmt := top 16
abbrev s_PartsList___add__ : Stmt := inClass (top 17) 8
abbrev s__law_refused : Stmt := top 23
abbrev s__law_draw : Stmt := top 21
abbrev s__law_pool : Stmt := top 20
abbrev s_law : Stmt := top 24
abbrev sx_TooMany : Stmt := inClass (top 6) 0
abbrev sx_BadPlace : Stmt := inClass (top 3) 0
abbrev sx_BadList : Stmt := inClass (top 4) 0
def ps_TooMany (i : Nat) : Pos := match defBody sx_TooMany with
  | [.Expr (.Call (.Attribute (.Call (.Name _ p0) _ _ p1) _ p2) [.Constant _ _ p3] _ p4) p5, .Assign [.Attribute (.Name _ p6) _ p7] (.Name _ p8) p9] => match i with
    | 0 => p0 | 1 => p1 | 2 => p2 | 3 => p3 | 4 => p4 | 5 => p5 | 6 => p6 | 7 => p7 | 8 => p8 | _ => p9
  | _ => ⟨0, 0, 0, 0⟩
def ps_BadPlace (i : Nat) : Pos := match defBody sx_BadPlace with
  | [.Expr (.Call (.Attribute (.Call (.Name _ p0) _ _ p1) _ p2) [.Constant _ _ p3] _ p4) p5, .Assign [.Attribute (.Name _ p6) _ p7] (.Name _ p8) p9] => match i with
    | 0 => p0 | 1 => p1 | 2 => p2 | 3 => p3 | 4 => p4 | 5 => p5 | 6 => p6 | 7 => p7 | 8 => p8 | _ => p9
  | _ => ⟨0, 0, 0, 0⟩
def ps_BadList (i : Nat) : Pos := match defBody sx_BadList with
  | [.Expr (.Call (.Attribute (.Call (.Name _ p0) _ _ p1) _ p2) [.Constant _ _ p3] _ p4) p5, .Assign [.Attribute (.Name _ p6) _ p7] (.Name _ p8) p9] => match i with
    | 0 => p0 | 1 => p1 | 2 => p2 | 3 => p3 | 4 => p4 | 5 => p5 | 6 => p6 | 7 => p7 | 8 => p8 | _ => p9
  | _ => ⟨0, 0, 0, 0⟩
abbrev n_is_integer : List Str := ["value", "lowest", "highest"]
theorem sc_is_integer : FnScope n_is_integer ["value", "lowest", "highest"] (defScope s_is_integer) := ⟨rfl, rfl, rfl, by decide +kernel, rfl, by decide +kernel, by decide +kernel⟩
abbrev n_is_word : List Str := ["value", "sign"]
theorem sc_is_word : FnScope n_is_word ["value"] (defScope s_is_word) := ⟨rfl, rfl, rfl, by decide +kernel, rfl, by decide +kernel, by decide +kernel⟩
abbrev n_is_place : List Str := ["value"]
theorem sc_is_place : FnScope n_is_place ["value"] (defScope s_is_place) := ⟨rfl, rfl, rfl, by decide +kernel, rfl, by decide +kernel, by decide +kernel⟩
abbrev n_PartsList___init__ : List Str := ["self", "places", "index", "place", "earlier"]
theorem sc_PartsList___init__ : FnScope n_PartsList___init__ ["self", "places"] (defScope s_PartsList___init__) := ⟨rfl, rfl, rfl, by decide +kernel, rfl, by decide +kernel, by decide +kernel⟩
abbrev n_times : List Str := ["place", "number", "word", "plain", "many", "share"]
theorem sc_times : FnScope n_times ["place", "number"] (defScope s_times) := ⟨rfl, rfl, rfl, by decide +kernel, rfl, by decide +kernel, by decide +kernel⟩
abbrev n_PartsList___mul__ : List Str := ["self", "number", "place"]
theorem sc_PartsList___mul__ : FnScope n_PartsList___mul__ ["self", "number"] (defScope s_PartsList___mul__) := ⟨rfl, rfl, rfl, by decide +kernel, rfl, by decide +kernel, by decide +kernel⟩
abbrev n_PartsList___rmul__ : List Str := ["self", "number"]
theorem sc_PartsList___rmul__ : FnScope n_PartsList___rmul__ ["self", "number"] (defScope s_PartsList___rmul__) := ⟨rfl, rfl, rfl, by decide +kernel, rfl, by decide +kernel, by decide +kernel⟩
abbrev n_check_list : List Str := ["value"]
theorem sc_check_list : FnScope n_check_list ["value"] (defScope s_check_list) := ⟨rfl, rfl, rfl, by decide +kernel, rfl, by decide +kernel, by decide +kernel⟩
abbrev n_PartsList___add__ : List Str := ["self", "other"]
theorem sc_PartsList___add__ : FnScope n_PartsList___add__ ["self", "other"] (defScope s_PartsList___add__) := ⟨rfl, rfl, rfl, by decide +kernel, rfl, by decide +kernel, by decide +kernel⟩
abbrev n__law_refused : List Str := ["_law_door", "_law_one", "_law_value", "e"]
theorem sc__law_refused : FnScope n__law_refused ["_law_door", "_law_one", "_law_value"] (defScope s__law_refused) := ⟨rfl, rfl, rfl, by decide +kernel, rfl, by decide +kernel, by decide +kernel⟩
abbrev n__law_draw : List Str := ["_law_pool_here", "_law_many", "_law_found"]
theorem sc__law_draw : FnScope n__law_draw ["_law_pool_here", "_law_many"] (defScope s__law_draw) := ⟨rfl, rfl, rfl, by decide +kernel, rfl, by decide +kernel, by decide +kernel⟩
abbrev n__law_pool : List Str := ["_law_script", "_law_k", "_law_cell", "_law_size", "_law_mixed"]
theorem sc__law_pool : FnScope n__law_pool ["_law_script", "_law_k"] (defScope s__law_pool) := ⟨rfl, rfl, rfl, by decide +kernel, rfl, by decide +kernel, by decide +kernel⟩
abbrev n_law : List Str := ["_law_script", "_law_good", "_law_bad", "_law_k", "_law_pool_here", "_law_one", "_law_odd", "_law_at", "_law_sign"]
theorem sc_law : FnScope n_law ["_law_script"] (defScope s_law) := ⟨rfl, rfl, rfl, by decide +kernel, rfl, by decide +kernel, by decide +kernel⟩
/-! ### what each def computes -/
def tab_BadPlace : List (Str × Bool) := [("TooMany", false), ("BadPlace", true), ("BadList", false)]
def tab_BadList : List (Str × Bool) := [("TooMany", false), ("BadPlace", false), ("BadList", true)]
def tab_TooMany : List (Str × Bool) := [("TooMany", true), ("BadPlace", false), ("BadList", false)]
-- is_integer: 0=value 1=lowest 2=highest
def g_is_integer : SF :=
  sRet (eDF (eAndV (eBind (eCons (eD (eFrz 0)) (eCons (eD (eRet (.ty "int"))) (eRet []))) (g2 fun a b => eOn2 a b oIsi)) (eAndV (eNotV (eBind (eCons (eD (eFrz 0)) (eCons (eD (eRet (.ty "bool"))) (eRet []))) (g2 fun a b => eOn2 a b oIsi))) (eChain (eD (eFrz 1)) (eD (eFrz 0)) (eD (eFrz 2)) oLe oLe))))
def m_is_integer : MF := mDef 3 0 g_is_integer
-- is_word: 0=value 1=sign
def g_is_word : SF :=
  sSeq (sIf (eOr (eNot (eT (eBind (eCons (eD (eFrz 0)) (eCons (eD (eRet (.ty "str"))) (eRet []))) (g2 fun a b => eOn2 a b oIsi)))) (eNot (eT (eChain (eD (eRet (.int 1))) (eD (eBind (eCons (eD (eFrz 0)) (eRet [])) (g1 fun a => eOn a oLen))) (eD (eRet (.int 8))) oLe oLe)))) (sRet (eDF (eRet (.bl false)))) (sNx))
  (sRet (eDF (eBind (eCons (eD (eFz (eLc [1] (eOf4 (eFrz 0)) (gSl 1) (eRet true) (e2 (eD (eFrz 1)) (eD (eRet (.str "abcdefghijklmnopqrstuvwxyz"))) fun x y => eOn2 x y oIn4)))) (eRet [])) (g1 fun a => eOn a oAll))))
def m_is_word : MF := mDef 1 1 g_is_word
-- is_place: 0=value
def g_is_place : SF :=
  sSeq (sIf (eOr (eNot (eT (eBind (eCons (eD (eFrz 0)) (eCons (eD (eRet (.ty "tuple"))) (eRet []))) (g2 fun a b => eOn2 a b oIsi)))) (eOr (eT (e2 (eD (eBind (eCons (eD (eFrz 0)) (eRet [])) (g1 fun a => eOn a oLen))) (eD (eRet (.int 4))) fun x y => eOn2 x y oNe)) (eOr (eNot (eT (eFz (eCall m_is_word (eCons (eD (e2 (eD (eFrz 0)) (eD (eRet (.int 0))) fun x y => eOn2 x y oIx4)) (eRet [])))))) (eNot (eT (eFz (eCall m_is_word (eCons (eD (e2 (eD (eFrz 0)) (eD (eRet (.int 1))) fun x y => eOn2 x y oIx4)) (eRet []))))))))) (sRet (eDF (eRet (.bl false)))) (sNx))
  (sSeq (sIf (eNot (eT (eFz (eCall m_is_integer (eCons (eD (e2 (eD (eFrz 0)) (eD (eRet (.int 2))) fun x y => eOn2 x y oIx4)) (eCons (eD (eRet (.int 1))) (eCons (eD (eRet (.int 999))) (eRet [])))))))) (sRet (eDF (eRet (.bl false)))) (sNx))
  (sRet (eDF (eOrV (e2 (eD (e2 (eD (eFrz 0)) (eD (eRet (.int 3))) fun x y => eOn2 x y oIx4)) (eD (eRet .non)) fun x y => eOn2 x y oIs) (eFz (eCall m_is_integer (eCons (eD (e2 (eD (eFrz 0)) (eD (eRet (.int 3))) fun x y => eOn2 x y oIx4)) (eCons (eD (eRet (.int 0))) (eCons (eD (e2 (eD (eFrz 0)) (eD (eRet (.int 2))) fun x y => eOn2 x y oIx4)) (eRet []))))))))))
def m_is_place : MF := mDef 1 0 g_is_place
-- PartsList___init__: 0=self 1=places 2=index 3=place 4=earlier
def l_PartsList___init___0 : SF :=
  sIf (eOr (eNot (eT (eFz (eCall m_is_place (eCons (eD (eFrz 3)) (eRet [])))))) (eT (e2 (eD (e2 (eD (eFrz 3)) (eD (eRet (.int 0))) fun x y => eOn2 x y oIx4)) (eD (eFz (eLc [4] (eOf4 (eSl (eD (eFrz 1)) (ePart none) (ePart (some (eFrz 2))))) (gSl 4) (eRet true) (e2 (eD (eFrz 4)) (eD (eRet (.int 0))) fun x y => eOn2 x y oIx4)))) fun x y => eOn2 x y oIn4))) (sRaise "BadPlace" "index" (eFrz 2)) (sNx)
def g_PartsList___init__ : SF :=
  sSeq (sIf (eOr (eNot (eT (eBind (eCons (eD (eFrz 1)) (eCons (eD (eTup (eCons (eD (eRet (.ty "list"))) (eCons (eD (eRet (.ty "tuple"))) (eRet []))))) (eRet []))) (g2 fun a b => eOn2 a b oIsi)))) (eT (e2 (eD (eBind (eCons (eD (eFrz 1)) (eRet [])) (g1 fun a => eOn a oLen))) (eD (eRet (.int 0))) fun x y => eOn2 x y oEq))) (sRaise "BadPlace" "index" (eRet .non)) (sNx))
  (sSeq (sFor (eBind (eCons (eD (eFrz 1)) (eRet [])) gEnm4) (gTupM [gSl 2, gSl 3]) (l_PartsList___init___0))
  (sSeq (sIf (eT (e2 (eD (eBind (eCons (eD (eFrz 1)) (eRet [])) (g1 fun a => eOn a oLen))) (eD (eRet (.int 12))) fun x y => eOn2 x y oGt)) (sRaise "TooMany" "limit" (eRet (.int 12))) (sNx))
  (sPutF 0 "PartsList" "own_places" (eBind (eCons (eD (eFrz 1)) (eRet [])) (g1 fun a => eOn a oTupOf)))))
def m_PartsList___init__ : MF := mDef 2 3 g_PartsList___init__
-- times: 0=place 1=number 2=word 3=plain 4=many 5=share
def g_times : SF :=
  sSeq (sIf (eNot (eT (eFz (eCall m_is_integer (eCons (eD (eFrz 1)) (eCons (eD (eRet (.int 1))) (eCons (eD (eRet (.int 999))) (eRet [])))))))) (sRaise "BadPlace" "index" (eRet .non)) (sNx))
  (sSeq (sTo (eFrz 0) (gTupM [gSl 2, gSl 3, gSl 4, gSl 5]))
  (sRet (eDF (eTup (eCons (eD (eFrz 2)) (eCons (eD (eFrz 3)) (eCons (eD (e2 (eD (eFrz 4)) (eD (eFrz 1)) fun x y => eOn2 x y oMul)) (eCons (eD (eIf (eT (e2 (eD (eFrz 5)) (eD (eRet .non)) fun x y => eOn2 x y oIs)) (eRet .non) (e2 (eD (eFrz 5)) (eD (eFrz 1)) fun x y => eOn2 x y oMul))) (eRet [])))))))))
def m_times : MF := mDef 2 4 g_times
-- PartsList___mul__: 0=self 1=number 2=place
def g_PartsList___mul__ : SF :=
  sRet (eMake "PartsList" m_PartsList___init__ [] (eCons (eD (eFz (eLcX [2] (eOf4 (eBind (eD (eFrz 0)) fun a => eOn a (oFld "PartsList" "own_places"))) (gSl 2) (eRet true) (eFz (eCall m_times (eCons (eD (eFrz 2)) (eCons (eD (eFrz 1)) (eRet [])))))))) (eRet [])))
def m_PartsList___mul__ : MF := mDef 2 1 g_PartsList___mul__
-- PartsList___rmul__: 0=self 1=number
def g_PartsList___rmul__ : SF :=
  sRet (e2F (eD (eFrz 0)) (eD (eFrz 1)) (kBinX "PartsList" m_PartsList___mul__))
def m_PartsList___rmul__ : MF := mDef 2 0 g_PartsList___rmul__
-- check_list: 0=value
def g_check_list : SF :=
  sIf (eNot (eT (eBind (eD (eFrz 0)) fun a => eOn a (oIsC [("PartsList", true)])))) (sRaise "BadList" "value" (eFrz 0)) (sNx)
def m_check_list : MF := mDef 1 0 g_check_list
-- PartsList___add__: 0=self 1=other
def g_PartsList___add__ : SF :=
  sSeq (sDo (eFz (eCall m_check_list (eCons (eD (eFrz 1)) (eRet [])))))
  (sRet (eMake "PartsList" m_PartsList___init__ [] (eCons (eD (eFz (eLst (eStar (eD (eBind (eD (eFrz 0)) fun a => eOn a (oFld "PartsList" "own_places"))) (eStar (eD (eBind (eD (eFrz 1)) fun a => eOn a (oFld "PartsList" "own_places"))) (eRet [])))))) (eRet []))))
def m_PartsList___add__ : MF := mDef 2 0 g_PartsList___add__
-- _law_refused: 0=_law_door 1=_law_one 2=_law_value 3=e
def g__law_refused : SF :=
  sSeq (sTry (sIf (eT (e2 (eD (eFrz 0)) (eD (eRet (.int 0))) fun x y => eOn2 x y oEq)) (sDo (eFz (eMake "PartsList" m_PartsList___init__ [] (eCons (eD (eFrz 2)) (eRet []))))) (sIf (eT (e2 (eD (eFrz 0)) (eD (eRet (.int 1))) fun x y => eOn2 x y oEq)) (sDo (eFz (e2F (eD (eFrz 1)) (eD (eFrz 2)) (kBinX "PartsList" m_PartsList___mul__)))) (sIf (eT (e2 (eD (eFrz 0)) (eD (eRet (.int 2))) fun x y => eOn2 x y oEq)) (sDo (eFz (e2F (eD (eFrz 2)) (eD (eFrz 1)) (kRmul "PartsList" m_PartsList___rmul__)))) (sDo (eFz (e2F (eD (eFrz 1)) (eD (eFrz 2)) (kBinX "PartsList" m_PartsList___add__))))))) [⟨tab_BadPlace, 3, sRet (eLst (eCons (eD (eRet (.str "place"))) (eCons (eD (eBind (eD (eFrz 3)) fun a => eOn a (oXf "BadPlace" "index"))) (eCons (eD (eBind (eD (eFrz 3)) fun a => eOn a (oIsX [("BadPlace", true)]))) (eRet [])))))⟩, ⟨tab_BadList, 3, sRet (eLst (eCons (eD (eRet (.str "list"))) (eCons (eD (eBind (eCons (eD (eBind (eD (eFrz 3)) fun a => eOn a (oXf "BadList" "value"))) (eRet [])) (g1 fun a => eOn a oRepD))) (eCons (eD (eBind (eD (eFrz 3)) fun a => eOn a (oIsX [("BadList", true)]))) (eRet [])))))⟩, ⟨tab_TooMany, 3, sRet (eLst (eCons (eD (eRet (.str "many"))) (eCons (eD (eBind (eD (eFrz 3)) fun a => eOn a (oXf "TooMany" "limit"))) (eCons (eD (eBind (eD (eFrz 3)) fun a => eOn a (oIsX [("TooMany", true)]))) (eRet [])))))⟩])
  (sRet (eDF (eRet .non)))
def m__law_refused : MF := mDef 3 1 g__law_refused
-- _law_draw: 0=_law_pool_here 1=_law_many 2=_law_found
def g__law_draw : SF :=
  sSeq (sIf (eT (e2 (eD (e2 (eName 0) (eD (eRet (.int 0))) fun x y => eOn2 x y oIx4)) (eD (eRet (.int 0))) fun x y => eOn2 x y oGt)) (sSeq (sSet 2 (e2 (eD (eBind (eCons (eD (e2 (eName 0) (eD (eRet (.int 0))) fun x y => eOn2 x y oIx4)) (eRet [])) (g1 fun a => eOn a oInt))) (eD (eFrz 1)) fun x y => eOn2 x y oMod))
  (sSeq (sPutA 0 (e2 (eD (e2 (eName 0) (eD (eRet (.int 0))) fun x y => eOn2 x y oIx4)) (eD (eFrz 1)) fun x y => eOn2 x y oFdiv) (eRet (.int 0)))
  (sRet (eOut 2)))) (sNx))
  (sSeq (sPutA 0 (e2 (eD (eBind (eCons (eD (e2 (eD (e2 (eD (e2 (eName 0) (eD (eRet (.int 1))) fun x y => eOn2 x y oIx4)) (eD (eRet (.int 48271))) fun x y => eOn2 x y oMul)) (eD (eRet (.int 11))) fun x y => eOn2 x y oAdd)) (eRet [])) (g1 fun a => eOn a oInt))) (eD (eRet (.int 2147483647))) fun x y => eOn2 x y oMod) (eRet (.int 1)))
  (sRet (eDF (e2 (eD (eBind (eCons (eD (e2 (eD (e2 (eD (eBind (eCons (eD (e2 (eD (e2 (eName 0) (eD (eRet (.int 1))) fun x y => eOn2 x y oIx4)) (eD (e2 (eName 0) (eD (eRet (.int 1))) fun x y => eOn2 x y oIx4)) fun x y => eOn2 x y oMul)) (eRet [])) (g1 fun a => eOn a oInt))) (eD (eRet (.int 2147483629))) fun x y => eOn2 x y oMod)) (eD (eRet (.int 16))) fun x y => eOn2 x y oFdiv)) (eRet [])) (g1 fun a => eOn a oInt))) (eD (eFrz 1)) fun x y => eOn2 x y oMod))))
def m__law_draw : MF := mDef 2 1 g__law_draw
-- _law_pool: 0=_law_script 1=_law_k 2=_law_cell 3=_law_size 4=_law_mixed
def g__law_pool : SF :=
  sSeq (sSet 2 (eIf (eT (e2 (eD (eFrz 1)) (eD (eBind (eCons (eD (eFrz 0)) (eRet [])) (g1 fun a => eOn a oLen))) fun x y => eOn2 x y oLt)) (e2 (eD (eFrz 0)) (eD (eFrz 1)) fun x y => eOn2 x y oIx4) (e2 (eD (e2 (eD (eRet (.int 7))) (eD (eBind (eCons (eD (eSl (eD (eFrz 0)) (ePart none) (ePart (some (eRet (.int 63)))))) (eRet [])) (g1 fun a => eOn a oSum))) fun x y => eOn2 x y oMul)) (eD (eFrz 1)) fun x y => eOn2 x y oAdd)))
  (sSeq (sSet 3 (eBind (eCons (eD (eFrz 2)) (eRet [])) (g1 fun a => eOn a oAbs)))
  (sSeq (sSet 4 (e2 (eD (e2 (eD (e2 (eD (e2 (eD (eBind (eCons (eD (eFrz 3)) (eRet [])) (g1 fun a => eOn a oInt))) (eD (eRet (.int 2147483629))) fun x y => eOn2 x y oMod)) (eD (e2 (eD (e2 (eD (eRet (.int 7919))) (eD (eFrz 1)) fun x y => eOn2 x y oMul)) (eD (eFrz 1)) fun x y => eOn2 x y oMul)) fun x y => eOn2 x y oAdd)) (eD (e2 (eD (eRet (.int 31))) (eD (eFrz 1)) fun x y => eOn2 x y oMul)) fun x y => eOn2 x y oAdd)) (eD (eRet (.int 17))) fun x y => eOn2 x y oAdd))
  (sSeq (sSet 4 (e2 (eD (eBind (eCons (eD (e2 (eD (eFrz 4)) (eD (eRet (.int 48271))) fun x y => eOn2 x y oMul)) (eRet [])) (g1 fun a => eOn a oInt))) (eD (eRet (.int 2147483647))) fun x y => eOn2 x y oMod))
  (sRet (eLst (eCons (eD (e2 (eD (eFrz 3)) (eD (eBind (eCons (eD (e2 (eD (eFrz 3)) (eD (e2 (eD (eRet (.int 10))) (eD (eRet (.int 18))) fun x y => eOn2 x y oPow)) fun x y => eOn2 x y oGe)) (eRet [])) (g1 fun a => eOn a oInt))) fun x y => eOn2 x y oMul)) (eCons (eD (e2 (eD (eBind (eCons (eD (e2 (eD (eFrz 4)) (eD (eFrz 4)) fun x y => eOn2 x y oMul)) (eRet [])) (g1 fun a => eOn a oInt))) (eD (eRet (.int 2147483629))) fun x y => eOn2 x y oMod)) (eRet []))))))))
def m__law_pool : MF := mDef 2 3 g__law_pool
-- law: 0=_law_script 1=_law_good 2=_law_bad 3=_law_k 4=_law_pool_here 5=_law_one 6=_law_odd 7=_law_at 8=_law_sign
def l_law_0 : SF :=
  sIf (eT (e2 (eD (eFz (eCall m__law_refused (eCons (eD (eRet (.int 3))) (eCons (eD (eFrz 5)) (eCons (eD (eFz (eMake "PartsList" m_PartsList___init__ [] (eCons (eD (eSl (eD (eFrz 1)) (ePart none) (ePart (some (eRet (.int 11)))))) (eRet []))))) (eRet []))))))) (eD (eRet .non)) fun x y => eOn2 x y oIsNot)) (sRet (eDF (eRet (.bl false)))) (sNx)
def l_law_1 : SF :=
  sIf (eT (e2 (eD (eFz (eCall m__law_refused (eCons (eD (eRet (.int 3))) (eCons (eD (eFrz 5)) (eCons (eD (eFz (eMake "PartsList" m_PartsList___init__ [] (eCons (eD (eFrz 1)) (eRet []))))) (eRet []))))))) (eD (eFz (eLst (eCons (eD (eRet (.str "many"))) (eCons (eD (eRet (.int 12))) (eCons (eD (eRet (.bl true))) (eRet []))))))) fun x y => eOn2 x y oNe)) (sRet (eDF (eRet (.bl false)))) (sNx)
def l_law_2 : SF :=
  sIf (eT (e2 (eD (eFz (eCall m__law_refused (eCons (eD (eRet (.int 3))) (eCons (eD (eFrz 5)) (eCons (eD (eFrz 5)) (eRet []))))))) (eD (eFz (eLst (eCons (eD (eRet (.str "place"))) (eCons (eD (eRet (.int 1))) (eCons (eD (eRet (.bl true))) (eRet []))))))) fun x y => eOn2 x y oNe)) (sRet (eDF (eRet (.bl false)))) (sNx)
def l_law_3 : SF :=
  sIf (eT (e2 (eD (eFz (eCall m__law_refused (eCons (eD (eRet (.int 3))) (eCons (eD (eFrz 5)) (eCons (eD (eFrz 6)) (eRet []))))))) (eD (eFz (eLst (eCons (eD (eRet (.str "list"))) (eCons (eD (eBind (eCons (eD (eFrz 6)) (eRet [])) (g1 fun a => eOn a oRepD))) (eCons (eD (eRet (.bl true))) (eRet []))))))) fun x y => eOn2 x y oNe)) (sRet (eDF (eRet (.bl false)))) (sNx)
def l_law_4 : SF :=
  l_law_3
def l_law_5 : SF :=
  sFor (eOf4 (eFz (eLst (eCons (eD (eRet .non)) (eCons (eD (eRet (.int 5))) (eCons (eD (eFz (eLst (eCons (eD (eTup (eCons (eD (eRet (.str "y"))) (eCons (eD (eRet (.str "b"))) (eCons (eD (eRet (.int 1))) (eCons (eD (eRet .non)) (eRet []))))))) (eRet []))))) (eCons (eD (eRet (.str "x"))) (eRet [])))))))) (gSl 6) (l_law_4)
def l_law_6 : SF :=
  sIf (eT (e2 (eD (eFz (eCall m__law_refused (eCons (eD (eRet (.int 1))) (eCons (eD (eFz (eMake "PartsList" m_PartsList___init__ [] (eCons (eD (eFz (eLst (eCons (eD (eTup (eCons (eD (eRet (.str "y"))) (eCons (eD (eRet (.str "b"))) (eCons (eD (eRet (.int 1))) (eCons (eD (eRet (.int 0))) (eRet []))))))) (eCons (eD (eTup (eCons (eD (eRet (.str "x"))) (eCons (eD (eRet (.str "b"))) (eCons (eD (eRet (.int 2))) (eCons (eD (eRet (.int 1))) (eRet []))))))) (eRet [])))))) (eRet []))))) (eCons (eD (eRet (.int 999))) (eRet []))))))) (eD (eFz (eLst (eCons (eD (eRet (.str "place"))) (eCons (eD (eRet (.int 1))) (eCons (eD (eRet (.bl true))) (eRet []))))))) fun x y => eOn2 x y oNe)) (sRet (eDF (eRet (.bl false)))) (sNx)
def l_law_7 : SF :=
  sIf (eT (e2 (eD (eFz (eCall m__law_refused (eCons (eD (eRet (.int 1))) (eCons (eD (eFz (eMake "PartsList" m_PartsList___init__ [] (eCons (eD (eFz (eLst (eCons (eD (eTup (eCons (eD (eRet (.str "x"))) (eCons (eD (eRet (.str "b"))) (eCons (eD (eRet (.int 999))) (eCons (eD (eRet (.int 999))) (eRet []))))))) (eRet []))))) (eRet []))))) (eCons (eD (eRet (.int 1))) (eRet []))))))) (eD (eRet .non)) fun x y => eOn2 x y oIsNot)) (sRet (eDF (eRet (.bl false)))) (sNx)
def l_law_8 : SF :=
  sIf (eT (e2 (eD (eFz (eCall m__law_refused (eCons (eD (eRet (.int 2))) (eCons (eD (eFrz 5)) (eCons (eD (eFrz 6)) (eRet []))))))) (eD (eFz (eLst (eCons (eD (eRet (.str "place"))) (eCons (eD (eRet .non)) (eCons (eD (eRet (.bl true))) (eRet []))))))) fun x y => eOn2 x y oNe)) (sRet (eDF (eRet (.bl false)))) (sNx)
def l_law_9 : SF :=
  sIf (eT (e2 (eD (eFz (eCall m__law_refused (eCons (eD (eRet (.int 1))) (eCons (eD (eFrz 5)) (eCons (eD (eFrz 6)) (eRet []))))))) (eD (eFz (eLst (eCons (eD (eRet (.str "place"))) (eCons (eD (eRet .non)) (eCons (eD (eRet (.bl true))) (eRet []))))))) fun x y => eOn2 x y oNe)) (sRet (eDF (eRet (.bl false)))) (sNx)
def l_law_10 : SF :=
  sSeq (l_law_9)
  (l_law_8)
def l_law_11 : SF :=
  sFor (eOf4 (eFz (eLst (eCons (eD (eRet (.int 0))) (eCons (eD (eBind (eRet (.int 1)) oNeg)) (eCons (eD (eRet (.int 1000))) (eCons (eD (eRet (.bl true))) (eCons (eD (eRet .non)) (eCons (eD (eRet (.str "2"))) (eRet [])))))))))) (gSl 6) (l_law_10)
def l_law_12 : SF :=
  sIf (eT (e2 (eD (eFz (eCall m__law_refused (eCons (eD (eRet (.int 0))) (eCons (eD (eFrz 5)) (eCons (eD (e2 (eD (eFrz 1)) (eD (eFz (eLst (eCons (eD (eTup (eCons (eD (eRet (.str "z"))) (eCons (eD (eRet (.str "b"))) (eCons (eD (eRet (.int 1))) (eCons (eD (eRet (.int 1))) (eRet []))))))) (eRet []))))) fun x y => eOn2 x y oAdd)) (eRet []))))))) (eD (eFz (eLst (eCons (eD (eRet (.str "many"))) (eCons (eD (eRet (.int 12))) (eCons (eD (eRet (.bl true))) (eRet []))))))) fun x y => eOn2 x y oNe)) (sRet (eDF (eRet (.bl false)))) (sNx)
def l_law_13 : SF :=
  sIf (eT (e2 (eD (eFz (eCall m__law_refused (eCons (eD (eRet (.int 0))) (eCons (eD (eFrz 5)) (eCons (eD (eFrz 1)) (eRet []))))))) (eD (eRet .non)) fun x y => eOn2 x y oIsNot)) (sRet (eDF (eRet (.bl false)))) (sNx)
def l_law_14 : SF :=
  sIf (eT (e2 (eD (eFz (eCall m__law_refused (eCons (eD (eRet (.int 0))) (eCons (eD (eFrz 5)) (eCons (eD (eFrz 6)) (eRet []))))))) (eD (eFz (eLst (eCons (eD (eRet (.str "place"))) (eCons (eD (eRet .non)) (eCons (eD (eRet (.bl true))) (eRet []))))))) fun x y => eOn2 x y oNe)) (sRet (eDF (eRet (.bl false)))) (sNx)
def l_law_15 : SF :=
  l_law_14
def l_law_16 : SF :=
  sFor (eOf4 (eFz (eLst (eCons (eD (eRet .non)) (eCons (eD (eRet (.int 5))) (eCons (eD (eRet (.str "ab"))) (eCons (eD (eFz (eRet (.o (.dK []))))) (eCons (eD (eFz (eLst (eRet [])))) (eCons (eD (eTup (eRet []))) (eRet [])))))))))) (gSl 6) (l_law_15)
def l_law_17 : SF :=
  sIf (eT (e2 (eD (eFz (eCall m__law_refused (eCons (eD (eRet (.int 0))) (eCons (eD (eFrz 5)) (eCons (eD (e2 (eD (eSl (eD (eFrz 1)) (ePart none) (ePart (some (eFrz 7))))) (eD (eFz (eLst (eCons (eD (eFrz 6)) (eCons (eD (eRet .non)) (eRet [])))))) fun x y => eOn2 x y oAdd)) (eRet []))))))) (eD (eFz (eLst (eCons (eD (eRet (.str "place"))) (eCons (eD (eFrz 7)) (eCons (eD (eRet (.bl true))) (eRet []))))))) fun x y => eOn2 x y oNe)) (sRet (eDF (eRet (.bl false)))) (sNx)
def l_law_18 : SF :=
  sSet 7 (e2 (eD (eRet (.int 1))) (eD (eFz (eCall m__law_draw (eCons (eName 4) (eCons (eD (eRet (.int 11))) (eRet [])))))) fun x y => eOn2 x y oAdd)
def l_law_19 : SF :=
  sSeq (l_law_18)
  (l_law_17)
def l_law_20 : SF :=
  sFor (eOf4 (e2 (eD (eFrz 2)) (eD (eFz (eLst (eCons (eD (e2 (eD (eFrz 1)) (eD (eRet (.int 0))) fun x y => eOn2 x y oIx4)) (eRet []))))) fun x y => eOn2 x y oAdd)) (gSl 6) (l_law_19)
def l_law_21 : SF :=
  sSetF 5 (eMake "PartsList" m_PartsList___init__ [] (eCons (eD (eFz (eLst (eCons (eD (eTup (eCons (eD (eRet (.str "x"))) (eCons (eD (eRet (.str "b"))) (eCons (eD (e2 (eD (eRet (.int 1))) (eD (eFz (eCall m__law_draw (eCons (eName 4) (eCons (eD (eRet (.int 3))) (eRet [])))))) fun x y => eOn2 x y oAdd)) (eCons (eD (eRet .non)) (eRet []))))))) (eRet []))))) (eRet [])))
def l_law_22 : SF :=
  sSetF 4 (eCall m__law_pool (eCons (eD (eFrz 0)) (eCons (eD (eFrz 3)) (eRet []))))
def l_law_23 : SF :=
  sSeq (l_law_22)
  (sSeq (l_law_21)
  (sSeq (l_law_20)
  (sSeq (l_law_16)
  (sSeq (l_law_13)
  (sSeq (l_law_12)
  (sSeq (l_law_11)
  (sSeq (l_law_7)
  (sSeq (l_law_6)
  (sSeq (l_law_5)
  (sSeq (l_law_2)
  (sSeq (l_law_1)
  (l_law_0))))))))))))
def l_law_24 : SF :=
  sFor (eBind (eCons (eD (eBind (eCons (eD (eRet (.int 1))) (eCons (eD (eBind (eCons (eD (eBind (eCons (eD (eFrz 0)) (eRet [])) (g1 fun a => eOn a oLen))) (eCons (eD (eRet (.int 3))) (eRet []))) (g2 fun a b => eOn2 a b oMin))) (eRet []))) (g2 fun a b => eOn2 a b oMax))) (eRet [])) gRng1) (gSl 3) (l_law_23)
def l_law_25 : SF :=
  sSet 2 (e2 (eD (eFrz 2)) (eD (eFz (eLst (eCons (eD (eTup (eCons (eD (eRet (.str "q"))) (eCons (eD (eRet (.str "b"))) (eCons (eD (eRet (.bl true))) (eCons (eD (eRet .non)) (eRet []))))))) (eCons (eD (eTup (eCons (eD (eRet (.str "q"))) (eCons (eD (eRet (.str "b"))) (eCons (eD (eRet (.int 2))) (eCons (eD (eRet (.bl true))) (eRet []))))))) (eRet [])))))) fun x y => eOn2 x y oAdd)
def l_law_26 : SF :=
  sSet 2 (e2 (eD (eFrz 2)) (eD (eFz (eLst (eCons (eD (eTup (eCons (eD (eRet (.str "q"))) (eCons (eD (eRet (.str "b"))) (eCons (eD (eRet (.int 0))) (eCons (eD (eRet .non)) (eRet []))))))) (eCons (eD (eTup (eCons (eD (eRet (.str "q"))) (eCons (eD (eRet (.str "b"))) (eCons (eD (eRet (.int 1000))) (eCons (eD (eRet .non)) (eRet []))))))) (eCons (eD (eTup (eCons (eD (eRet (.str "q"))) (eCons (eD (eRet (.str "b"))) (eCons (eD (eRet (.int 2))) (eCons (eD (eRet (.int 3))) (eRet []))))))) (eCons (eD (eTup (eCons (eD (eRet (.str "q"))) (eCons (eD (eRet (.str "b"))) (eCons (eD (eRet (.int 2))) (eCons (eD (eBind (eRet (.int 1)) oNeg)) (eRet []))))))) (eRet [])))))))) fun x y => eOn2 x y oAdd)
def l_law_27 : SF :=
  sSetF 2 (eLst (eCons (eD (eRet .non)) (eCons (eD (eRet (.int 5))) (eCons (eD (eTup (eCons (eD (eRet (.str "q"))) (eCons (eD (eRet (.str "b"))) (eCons (eD (eRet (.int 1))) (eRet [])))))) (eCons (eD (eFz (eLst (eCons (eD (eRet (.str "q"))) (eCons (eD (eRet (.str "b"))) (eCons (eD (eRet (.int 1))) (eCons (eD (eRet .non)) (eRet [])))))))) (eCons (eD (eTup (eCons (eD (eRet (.str "Q"))) (eCons (eD (eRet (.str "b"))) (eCons (eD (eRet (.int 1))) (eCons (eD (eRet .non)) (eRet []))))))) (eCons (eD (eTup (eCons (eD (eRet (.str "q"))) (eCons (eD (eRet (.str ""))) (eCons (eD (eRet (.int 1))) (eCons (eD (eRet .non)) (eRet []))))))) (eRet []))))))))
def l_law_28 : SF :=
  sSetF 1 (eHide 7 (eLc [7, 8] (eBind (eCons (eD (eRet (.str "cdefghijklmn"))) (eRet [])) gEnm4) (gTupM [gSl 7, gSl 8]) (eRet true) (eTup (eCons (eD (e2 (eD (eRet (.str "a"))) (eD (eFrz 8)) fun x y => eOn2 x y oAdd)) (eCons (eD (eRet (.str "b"))) (eCons (eD (e2 (eD (eRet (.int 1))) (eD (eFrz 7)) fun x y => eOn2 x y oAdd)) (eCons (eD (eFrz 7)) (eRet []))))))))
def g_law : SF :=
  sSeq (l_law_28)
  (sSeq (l_law_27)
  (sSeq (l_law_26)
  (sSeq (l_law_25)
  (sSeq (l_law_24)
  (sRet (eDF (eRet (.bl true))))))))
def m_law : MF := mDef 1 8 g_law
/-! ### facts of the top -/
structure Tx (P : Program) (K : PySem.W.Frag) (mg : Str → Option Value) where
  f_law : Addr
  fd_law : FuncData
  F_law : Fun K "law" "law" s_law f_law fd_law
  g_law : mg "law" = some (.ref f_law)
  b_law : Binds K fd_law ["_law_script"] []
  z_max : mg "max" = none
  z_min : mg "min" = none
  z_len : mg "len" = none
  z_range : mg "range" = none
  f__law_refused : Addr
  fd__law_refused : FuncData
  F__law_refused : Fun K "_law_refused" "_law_refused" s__law_refused f__law_refused fd__law_refused
  g__law_refused : mg "_law_refused" = some (.ref f__law_refused)
  b__law_refused : Binds K fd__law_refused ["_law_door", "_law_one", "_law_value"] []
  c_PartsList : Addr
  n_PartsList : ClsN K "PartsList" c_PartsList
  m_PartsList : mg "PartsList" = some (.ref c_PartsList)
  f_PartsList___init__ : Addr
  fd_PartsList___init__ : FuncData
  F_PartsList___init__ : Fun K "__init__" "PartsList.__init__" s_PartsList___init__ f_PartsList___init__ fd_PartsList___init__
  me_PartsList___init__ : Meth K c_PartsList "__init__" f_PartsList___init__
  b_PartsList___init__ : Binds K fd_PartsList___init__ ["self", "places"] []
  z_tuple : mg "tuple" = none
  p_PartsList : Plain K "PartsList" c_PartsList
  na_PartsList_own_places : NoAttr K c_PartsList "own_places"
  k_MOST_PLACES : ∃ t, mg "MOST_PLACES" = some (.int 12 t)
  c_TooMany : Addr
  n_TooMany : ClsN K "TooMany" c_TooMany
  m_TooMany : mg "TooMany" = some (.ref c_TooMany)
  z_super : mg "super" = none
  x_TooMany : ExcK P K c_TooMany "limit" "limit" "OverflowError" "OverflowError.__init__" "OverflowError.__new__" [.type "OverflowError", .type "ArithmeticError", .type "Exception", .type "BaseException", .type "object"]
  xk_TooMany : PySem.W.keepIn K (.ref c_TooMany) = true
  xb_TooMany : PySem.W.subIn K (.ref c_TooMany) (.type "BaseException") = some true
  xt_TooMany : PySem.W.typeIn K (.ref c_TooMany) = some (.type "type")
  z_enumerate : mg "enumerate" = none
  f_is_place : Addr
  fd_is_place : FuncData
  F_is_place : Fun K "is_place" "is_place" s_is_place f_is_place fd_is_place
  g_is_place : mg "is_place" = some (.ref f_is_place)
  b_is_place : Binds K fd_is_place ["value"] []
  f_is_integer : Addr
  fd_is_integer : FuncData
  F_is_integer : Fun K "is_integer" "is_integer" s_is_integer f_is_integer fd_is_integer
  g_is_integer : mg "is_integer" = some (.ref f_is_integer)
  b_is_integer : Binds K fd_is_integer ["value", "lowest", "highest"] []
  z_isinstance : mg "isinstance" = none
  z_bool : mg "bool" = none
  z_int : mg "int" = none
  k_MOST_NUMBER : ∃ t, mg "MOST_NUMBER" = some (.int 999 t)
  f_is_word : Addr
  fd_is_word : FuncData
  F_is_word : Fun K "is_word" "is_word" s_is_word f_is_word fd_is_word
  g_is_word : mg "is_word" = some (.ref f_is_word)
  b_is_word : Binds K fd_is_word ["value"] []
  z_all : mg "all" = none
  k_LETTERS : ∃ t, mg "LETTERS" = some (.str "abcdefghijklmnopqrstuvwxyz" t)
  k_MOST_LETTERS : ∃ t, mg "MOST_LETTERS" = some (.int 8 t)
  z_str : mg "str" = none
  c_BadPlace : Addr
  n_BadPlace : ClsN K "BadPlace" c_BadPlace
  m_BadPlace : mg "BadPlace" = some (.ref c_BadPlace)
  x_BadPlace : ExcK P K c_BadPlace "index" "index" "ValueError" "ValueError.__init__" "ValueError.__new__" [.type "ValueError", .type "Exception", .type "BaseException", .type "object"]
  xk_BadPlace : PySem.W.keepIn K (.ref c_BadPlace) = true
  xb_BadPlace : PySem.W.subIn K (.ref c_BadPlace) (.type "BaseException") = some true
  xt_BadPlace : PySem.W.typeIn K (.ref c_BadPlace) = some (.type "type")
  z_list : mg "list" = none
  mk_PartsList : Made K mg "PartsList" c_PartsList f_PartsList___init__
  f_PartsList___mul__ : Addr
  fd_PartsList___mul__ : FuncData
  F_PartsList___mul__ : Fun K "__mul__" "PartsList.__mul__" s_PartsList___mul__ f_PartsList___mul__ fd_PartsList___mul__
  me_PartsList___mul__ : Meth K c_PartsList "__mul__" f_PartsList___mul__
  b_PartsList___mul__ : Binds K fd_PartsList___mul__ ["self", "number"] []
  f_times : Addr
  fd_times : FuncData
  F_times : Fun K "times" "times" s_times f_times fd_times
  g_times : mg "times" = some (.ref f_times)
  b_times : Binds K fd_times ["place", "number"] []
  du_PartsList___mul___Mult : Dun K c_PartsList f_PartsList___mul__ (PySem.dunder Operator.Mult.info.2)
  dr_PartsList_Mult : DunR K c_PartsList (dunderR Operator.Mult.info.2)
  sf_PartsList_Mult : PySem.W.selfFirst K c_PartsList = true
  f_PartsList___rmul__ : Addr
  fd_PartsList___rmul__ : FuncData
  F_PartsList___rmul__ : Fun K "__rmul__" "PartsList.__rmul__" s_PartsList___rmul__ f_PartsList___rmul__ fd_PartsList___rmul__
  me_PartsList___rmul__ : Meth K c_PartsList "__rmul__" f_PartsList___rmul__
  b_PartsList___rmul__ : Binds K fd_PartsList___rmul__ ["self", "number"] []
  rm_PartsList : RMul K c_PartsList f_PartsList___mul__ f_PartsList___rmul__
  f_PartsList___add__ : Addr
  fd_PartsList___add__ : FuncData
  F_PartsList___add__ : Fun K "__add__" "PartsList.__add__" s_PartsList___add__ f_PartsList___add__ fd_PartsList___add__
  me_PartsList___add__ : Meth K c_PartsList "__add__" f_PartsList___add__
  b_PartsList___add__ : Binds K fd_PartsList___add__ ["self", "other"] []
  f_check_list : Addr
  fd_check_list : FuncData
  F_check_list : Fun K "check_list" "check_list" s_check_list f_check_list fd_check_list
  g_check_list : mg "check_list" = some (.ref f_check_list)
  b_check_list : Binds K fd_check_list ["value"] []
  it_PartsList : InsT K c_PartsList
  is_PartsList : IsC K "PartsList" c_PartsList
  sc_PartsList : SubC K c_PartsList [("PartsList", true)]
  c_BadList : Addr
  n_BadList : ClsN K "BadList" c_BadList
  m_BadList : mg "BadList" = some (.ref c_BadList)
  x_BadList : ExcK P K c_BadList "value" "value" "ValueError" "ValueError.__init__" "ValueError.__new__" [.type "ValueError", .type "Exception", .type "BaseException", .type "object"]
  xk_BadList : PySem.W.keepIn K (.ref c_BadList) = true
  xb_BadList : PySem.W.subIn K (.ref c_BadList) (.type "BaseException") = some true
  xt_BadList : PySem.W.typeIn K (.ref c_BadList) = some (.type "type")
  du_PartsList___add___Add : Dun K c_PartsList f_PartsList___add__ (PySem.dunder Operator.Add.info.2)
  dr_PartsList_Add : DunR K c_PartsList (dunderR Operator.Add.info.2)
  sf_PartsList_Add : PySem.W.selfFirst K c_PartsList = true
  c_PartsError : Addr
  n_PartsError : ClsN K "PartsError" c_PartsError
  m_PartsError : mg "PartsError" = some (.ref c_PartsError)
  ec_BadPlace : L2.ExcC K c_BadPlace
  sx_PartsError_BadPlace : SubX K (.ref c_PartsError) [("BadPlace", true)]
  xc_BadPlace : XfC K c_BadPlace
  xf_BadPlace_index : XFld K "BadPlace" c_BadPlace "index"
  tb_BadPlace : TabOk K (.ref c_BadPlace) tab_BadPlace
  ec_BadList : L2.ExcC K c_BadList
  sx_PartsError_BadList : SubX K (.ref c_PartsError) [("BadList", true)]
  z_repr : mg "repr" = none
  xc_BadList : XfC K c_BadList
  xf_BadList_value : XFld K "BadList" c_BadList "value"
  tb_BadList : TabOk K (.ref c_BadList) tab_BadList
  z_OverflowError : mg "OverflowError" = none
  ec_TooMany : L2.ExcC K c_TooMany
  sx_OverflowError_TooMany : SubX K (.type "OverflowError") [("TooMany", true)]
  xc_TooMany : XfC K c_TooMany
  xf_TooMany_limit : XFld K "TooMany" c_TooMany "limit"
  tb_TooMany : TabOk K (.ref c_TooMany) tab_TooMany
  f__law_draw : Addr
  fd__law_draw : FuncData
  F__law_draw : Fun K "_law_draw" "_law_draw" s__law_draw f__law_draw fd__law_draw
  g__law_draw : mg "_law_draw" = some (.ref f__law_draw)
  b__law_draw : Binds K fd__law_draw ["_law_pool_here", "_law_many"] []
  f__law_pool : Addr
  fd__law_pool : FuncData
  F__law_pool : Fun K "_law_pool" "_law_pool" s__law_pool f__law_pool fd__law_pool
  g__law_pool : mg "_law_pool" = some (.ref f__law_pool)
  b__law_pool : Binds K fd__law_pool ["_law_script", "_law_k"] []
  z_abs : mg "abs" = none
  z_sum : mg "sum" = none
section
variable {P : Program} {w : World} {K : PySem.W.Frag} {mg : Str → Option Value} {base : Heap}
theorem ok_is_integer (T : Tx P K mg) : FnOk P w K mg base (L2.CX P w) 1 T.f_is_integer T.fd_is_integer ["value", "lowest", "highest"] (spM K 3 m_is_integer) := by
  have Sc := sc_is_integer
  refine okM (j := 0) T.F_is_integer Sc rfl rfl fun cdv A outer s H E hR tk => ?_
  exact (db_one (ds_ret (df_of (de_and (de_isi T.z_isinstance (da_cons (dv_of (de_frz 0)) (da_cons (dv_of (de_ty T.z_int rfl)) da_nil))) (de_and (de_not (de_isi T.z_isinstance (da_cons (dv_of (de_frz 0)) (da_cons (dv_of (de_ty T.z_bool rfl)) da_nil)))) (de_one (e_chain c_le c_le (dv_of (de_frz 1)) (dv_of (de_frz 0)) (dv_of (de_frz 2)))))))))
theorem ok_is_word (T : Tx P K mg) : FnOk P w K mg base (L2.CX P w) 1 T.f_is_word T.fd_is_word ["value"] (spM K 1 m_is_word) := by
  have Sc := sc_is_word
  refine okM (j := 0) T.F_is_word Sc rfl rfl fun cdv A outer s H E hR tk => ?_
  exact (db_cons (ds_if (dt_w (dw_or (dt_not (dt_val (de_isi T.z_isinstance (da_cons (dv_of (de_frz 0)) (da_cons (dv_of (de_ty T.z_str rfl)) da_nil))))) (dw_or1 (dt_not (t_chain c_le c_le (dv_of de_int) (dv_of (de_len T.z_len (da_cons (dv_of (de_frz 0)) da_nil))) (dv_of (de_gint T.k_MOST_LETTERS))))))) (db_one (ds_ret (df_of de_bl))) db_nil)
  (db_one (ds_ret (df_of (de_all rfl T.z_all (da_cons (dv_of (de_fz (df_lc (own := [("sign", 1)]) rfl Sc.nd (di_val4 (de_frz 0)) (blkOk_by (by show blkC n_is_word (defScope s_is_word) _ _ = true; decide +kernel)) (fun _ _ _ _ _ => (dgv_name 1 Sc.nd)) (fun _ _ _ _ _ => dts_nil) (fun _ _ _ _ _ => (e_cmp (c_in4 hR.low) (dv_of (de_frz 1)) (dv_of (de_gstr T.k_LETTERS))))))) da_nil))))))
theorem ok_is_place (T : Tx P K mg) : FnOk P w K mg base (L2.CX P w) 2 T.f_is_place T.fd_is_place ["value"] (spM K 1 m_is_place) := by
  have Sc := sc_is_place
  refine okM (j := 1) T.F_is_place Sc rfl rfl fun cdv A outer s H E hR tk => ?_
  exact (db_cons (ds_if (dt_w (dw_or (dt_not (dt_val (de_isi T.z_isinstance (da_cons (dv_of (de_frz 0)) (da_cons (dv_of (de_ty T.z_tuple rfl)) da_nil))))) (dw_or (t_cmp (c_ne hR.low) (dv_of (de_len T.z_len (da_cons (dv_of (de_frz 0)) da_nil))) (dv_of de_int)) (dw_or (dt_not (dt_val (de_fz (df_call (tkc tk) (ok_is_word T) T.g_is_word T.F_is_word.kp T.b_is_word hR (by decide) (da_cons (dv_of (de_ix4 hR.low (dv_of (de_frz 0)) (dv_of de_int))) da_nil) (Len.cons Len.nil))))) (dw_or1 (dt_not (dt_val (de_fz (df_call (tkc tk) (ok_is_word T) T.g_is_word T.F_is_word.kp T.b_is_word hR (by decide) (da_cons (dv_of (de_ix4 hR.low (dv_of (de_frz 0)) (dv_of de_int))) da_nil) (Len.cons Len.nil)))))))))) (db_one (ds_ret (df_of de_bl))) db_nil)
  (db_cons (ds_if (dt_not (dt_val (de_fz (df_call (tkc tk) (ok_is_integer T) T.g_is_integer T.F_is_integer.kp T.b_is_integer hR (by decide) (da_cons (dv_of (de_ix4 hR.low (dv_of (de_frz 0)) (dv_of de_int))) (da_cons (dv_of de_int) (da_cons (dv_of (de_gint T.k_MOST_NUMBER)) da_nil))) (Len.cons (Len.cons (Len.cons Len.nil))))))) (db_one (ds_ret (df_of de_bl))) db_nil)
  (db_one (ds_ret (df_of (de_or (e_cmp c_is (dv_of (de_ix4 hR.low (dv_of (de_frz 0)) (dv_of de_int))) (dv_of de_non)) (de_one (de_fz (df_call (tkc tk) (ok_is_integer T) T.g_is_integer T.F_is_integer.kp T.b_is_integer hR (by decide) (da_cons (dv_of (de_ix4 hR.low (dv_of (de_frz 0)) (dv_of de_int))) (da_cons (dv_of de_int) (da_cons (dv_of (de_ix4 hR.low (dv_of (de_frz 0)) (dv_of de_int))) da_nil))) (Len.cons (Len.cons (Len.cons Len.nil))))))))))))
theorem ok_PartsList___init__ (T : Tx P K mg) : FnOk P w K mg base (L2.CX P w) 3 T.f_PartsList___init__ T.fd_PartsList___init__ ["self", "places"] (spM K 2 m_PartsList___init__) := by
  have Sc := sc_PartsList___init__
  refine okM (j := 2) T.F_PartsList___init__ Sc rfl rfl fun cdv A outer s H E hR tk => ?_
  exact (db_cons (ds_if (dt_w (dw_or (dt_not (dt_val (de_isi T.z_isinstance (da_cons (dv_of (de_frz 1)) (da_cons (dv_of (de_tup (da_cons (dv_of (de_ty T.z_list rfl)) (da_cons (dv_of (de_ty T.z_tuple rfl)) da_nil)))) da_nil))))) (dw_or1 (t_cmp (c_eq hR.low) (dv_of (de_len T.z_len (da_cons (dv_of (de_frz 1)) da_nil))) (dv_of de_int))))) (db_one (ds_raise rfl tk b_value T.x_BadPlace ⟨T.m_BadPlace, T.n_BadPlace, T.xk_BadPlace, T.xb_BadPlace, T.xt_BadPlace⟩ hR T.z_super de_non)) db_nil)
  (db_cons (ds_for (passes_of rfl) rfl (di_enum4 T.z_enumerate (da_cons (dv_of (de_frz 1)) da_nil)) (dg_tup rfl (dgs_cons (dg_name 2 Sc.nd) (dgs_cons (dg_name 3 Sc.nd) dgs_nil))) (db_one (ds_if (dt_w (dw_or (dt_not (dt_val (de_fz (df_call (tkc tk) (ok_is_place T) T.g_is_place T.F_is_place.kp T.b_is_place hR (by decide) (da_cons (dv_of (de_frz 3)) da_nil) (Len.cons Len.nil))))) (dw_or1 (t_cmp (c_in4 hR.low) (dv_of (de_ix4 hR.low (dv_of (de_frz 3)) (dv_of de_int))) (dv_of (de_fz (df_lc (own := [("earlier", 4)]) rfl Sc.nd (di_val4 (de_sl (dv_of (de_frz 1)) dp_none (dp_some (de_frz 2)))) (blkOk_by (by show blkC n_PartsList___init__ (defScope s_PartsList___init__) _ _ = true; decide +kernel)) (fun _ _ _ _ _ => (dgv_name 4 Sc.nd)) (fun _ _ _ _ _ => dts_nil) (fun _ _ _ _ _ => (de_ix4 hR.low (dv_of (de_frz 4)) (dv_of de_int)))))))))) (db_one (ds_raise rfl tk b_value T.x_BadPlace ⟨T.m_BadPlace, T.n_BadPlace, T.xk_BadPlace, T.xb_BadPlace, T.xt_BadPlace⟩ hR T.z_super (de_frz 2))) db_nil)))
  (db_cons (ds_if (t_cmp c_gt (dv_of (de_len T.z_len (da_cons (dv_of (de_frz 1)) da_nil))) (dv_of (de_gint T.k_MOST_PLACES))) (db_one (ds_raise rfl tk b_overflow T.x_TooMany ⟨T.m_TooMany, T.n_TooMany, T.xk_TooMany, T.xb_TooMany, T.xt_TooMany⟩ hR T.z_super (de_gint T.k_MOST_PLACES))) db_nil)
  (db_one (ds_putF 0 (de_tupleOf T.z_tuple (da_cons (dv_of (de_frz 1)) da_nil)) T.p_PartsList T.na_PartsList_own_places)))))
theorem ok_times (T : Tx P K mg) : FnOk P w K mg base (L2.CX P w) 2 T.f_times T.fd_times ["place", "number"] (spM K 2 m_times) := by
  have Sc := sc_times
  refine okM (j := 1) T.F_times Sc rfl rfl fun cdv A outer s H E hR tk => ?_
  exact (db_cons (ds_if (dt_not (dt_val (de_fz (df_call (tkc tk) (ok_is_integer T) T.g_is_integer T.F_is_integer.kp T.b_is_integer hR (by decide) (da_cons (dv_of (de_frz 1)) (da_cons (dv_of de_int) (da_cons (dv_of (de_gint T.k_MOST_NUMBER)) da_nil))) (Len.cons (Len.cons (Len.cons Len.nil))))))) (db_one (ds_raise rfl tk b_value T.x_BadPlace ⟨T.m_BadPlace, T.n_BadPlace, T.xk_BadPlace, T.xb_BadPlace, T.xt_BadPlace⟩ hR T.z_super de_non)) db_nil)
  (db_cons (ds_to (de_frz 0) (dg_tup rfl (dgs_cons (dg_name 2 Sc.nd) (dgs_cons (dg_name 3 Sc.nd) (dgs_cons (dg_name 4 Sc.nd) (dgs_cons (dg_name 5 Sc.nd) dgs_nil))))))
  (db_one (ds_ret (df_of (de_tup (da_cons (dv_of (de_frz 2)) (da_cons (dv_of (de_frz 3)) (da_cons (dv_of (b_mul (dv_of (de_frz 4)) (dv_of (de_frz 1)))) (da_cons (dv_of (de_if (t_cmp c_is (dv_of (de_frz 5)) (dv_of de_non)) de_non (b_mul (dv_of (de_frz 5)) (dv_of (de_frz 1))))) da_nil))))))))))
theorem ok_PartsList___mul__ (T : Tx P K mg) : FnOk P w K mg base (L2.CX P w) 5 T.f_PartsList___mul__ T.fd_PartsList___mul__ ["self", "number"] (spM K 2 m_PartsList___mul__) := by
  have Sc := sc_PartsList___mul__
  refine okM (j := 4) T.F_PartsList___mul__ Sc rfl rfl fun cdv A outer s H E hR tk => ?_
  exact (db_one (ds_ret (df_make [] (tkc tk) T.mk_PartsList (ok_PartsList___init__ T) T.b_PartsList___init__ .nil (fun _ => rfl) hR (by decide) (da_cons (dv_of (de_fz (df_lcX (own := [("place", 2)]) tk rfl Sc.nd (di_val4 (de_fld (dv_of (de_frz 0)) T.p_PartsList T.na_PartsList_own_places)) (blkOk_by (by show blkC n_PartsList___mul__ (defScope s_PartsList___mul__) _ _ = true; decide +kernel)) (fun _ _ _ _ _ => (dgv_name 2 Sc.nd)) (fun _ _ _ _ _ => dts_nil) (fun _ _ _ _ _ _ _ tkb => (de_fz (df_call tkb (ok_times T) T.g_times T.F_times.kp T.b_times hR (by decide) (da_cons (dv_of (de_frz 2)) (da_cons (dv_of (de_frz 1)) da_nil)) (Len.cons (Len.cons Len.nil)))))))) da_nil) (fun _ _ _ h => by rw [(Len.cons Len.nil) _ _ _ h]; rfl))))
theorem ok_PartsList___rmul__ (T : Tx P K mg) : FnOk P w K mg base (L2.CX P w) 6 T.f_PartsList___rmul__ T.fd_PartsList___rmul__ ["self", "number"] (spM K 2 m_PartsList___rmul__) := by
  have Sc := sc_PartsList___rmul__
  refine okM (j := 5) T.F_PartsList___rmul__ Sc rfl rfl fun cdv A outer s H E hR tk => ?_
  exact (db_one (ds_ret (df_opX (op := .Mult) (tkc tk) T.n_PartsList T.du_PartsList___mul___Mult T.dr_PartsList_Mult T.sf_PartsList_Mult (ok_PartsList___mul__ T) T.b_PartsList___mul__ hR (by decide) (dv_of (de_frz 0)) (dv_of (de_frz 1)))))
theorem ok_check_list (T : Tx P K mg) : FnOk P w K mg base (L2.CX P w) 2 T.f_check_list T.fd_check_list ["value"] (spM K 1 m_check_list) := by
  have Sc := sc_check_list
  refine okM (j := 1) T.F_check_list Sc rfl rfl fun cdv A outer s H E hR tk => ?_
  exact (db_one (ds_if (dt_not (dt_val (de_isiC [("PartsList", true)] T.z_isinstance T.is_PartsList T.m_PartsList T.sc_PartsList (dv_of (de_frz 0))))) (db_one (ds_raise rfl tk b_value T.x_BadList ⟨T.m_BadList, T.n_BadList, T.xk_BadList, T.xb_BadList, T.xt_BadList⟩ hR T.z_super (de_frz 0))) db_nil))
theorem ok_PartsList___add__ (T : Tx P K mg) : FnOk P w K mg base (L2.CX P w) 5 T.f_PartsList___add__ T.fd_PartsList___add__ ["self", "other"] (spM K 2 m_PartsList___add__) := by
  have Sc := sc_PartsList___add__
  refine okM (j := 4) T.F_PartsList___add__ Sc rfl rfl fun cdv A outer s H E hR tk => ?_
  exact (db_cons (ds_do (de_fz (df_call (tkc tk) (ok_check_list T) T.g_check_list T.F_check_list.kp T.b_check_list hR (by decide) (da_cons (dv_of (de_frz 1)) da_nil) (Len.cons Len.nil))))
  (db_one (ds_ret (df_make [] (tkc tk) T.mk_PartsList (ok_PartsList___init__ T) T.b_PartsList___init__ .nil (fun _ => rfl) hR (by decide) (da_cons (dv_of (de_fz (df_lst (da_star (dv_of (de_fld (dv_of (de_frz 0)) T.p_PartsList T.na_PartsList_own_places)) (da_star (dv_of (de_fld (dv_of (de_frz 1)) T.p_PartsList T.na_PartsList_own_places)) da_nil))))) da_nil) (fun _ _ _ h => by rw [(Len.cons Len.nil) _ _ _ h]; rfl)))))
theorem ok__law_refused (T : Tx P K mg) : FnOk P w K mg base (L2.CX P w) 7 T.f__law_refused T.fd__law_refused ["_law_door", "_law_one", "_law_value"] (spM K 3 m__law_refused) := by
  have Sc := sc__law_refused
  refine okM (j := 6) T.F__law_refused Sc rfl rfl fun cdv A outer s H E hR tk => ?_
  exact (db_cons (ds_try Sc.nd tk (fun _ _ _ tk1a pas1 => (db_one (ds_if (t_cmp (c_eq hR.low) (dv_of (de_frz 0)) (dv_of de_int)) (db_one (ds_do (de_fz (df_make [] (tkc tk1a) T.mk_PartsList (ok_PartsList___init__ T) T.b_PartsList___init__ .nil (fun _ => rfl) hR (by decide) (da_cons (dv_of (de_frz 2)) da_nil) (fun _ _ _ h => by rw [(Len.cons Len.nil) _ _ _ h]; rfl))))) (db_one (ds_if (t_cmp (c_eq hR.low) (dv_of (de_frz 0)) (dv_of de_int)) (db_one (ds_do (de_fz (df_opX (op := .Mult) (tkc tk1a) T.n_PartsList T.du_PartsList___mul___Mult T.dr_PartsList_Mult T.sf_PartsList_Mult (ok_PartsList___mul__ T) T.b_PartsList___mul__ hR (by decide) (dv_of (de_frz 1)) (dv_of (de_frz 2)))))) (db_one (ds_if (t_cmp (c_eq hR.low) (dv_of (de_frz 0)) (dv_of de_int)) (db_one (ds_do (de_fz (df_rmul (tkc tk1a) T.n_PartsList T.rm_PartsList (ok_PartsList___rmul__ T) T.b_PartsList___rmul__ hR (by decide) (dv_of (de_frz 2)) (dv_of (de_frz 1)))))) (db_one (ds_do (de_fz (df_opX (op := .Add) (tkc tk1a) T.n_PartsList T.du_PartsList___add___Add T.dr_PartsList_Add T.sf_PartsList_Add (ok_PartsList___add__ T) T.b_PartsList___add__ hR (by decide) (dv_of (de_frz 1)) (dv_of (de_frz 2))))))))))))) (ClsOk.cons ⟨rfl, rfl, (.inl T.m_BadPlace)⟩ T.tb_BadPlace (fun _ _ => (db_one (ds_ret (df_lst (da_cons (dv_of de_str) (da_cons (dv_of (de_xf T.xf_BadPlace_index (dv_of (de_frz 3)))) (da_cons (dv_of (de_isiX [("BadPlace", true)] T.z_isinstance (cls_own T.m_PartsError) own_only T.sx_PartsError_BadPlace (dv_of (de_frz 3)))) da_nil))))))) (ClsOk.cons ⟨rfl, rfl, (.inl T.m_BadList)⟩ T.tb_BadList (fun _ _ => (db_one (ds_ret (df_lst (da_cons (dv_of de_str) (da_cons (dv_of (de_reprD hR.low.mark T.z_repr (da_cons (dv_of (de_xf T.xf_BadList_value (dv_of (de_frz 3)))) da_nil))) (da_cons (dv_of (de_isiX [("BadList", true)] T.z_isinstance (cls_own T.m_PartsError) own_only T.sx_PartsError_BadList (dv_of (de_frz 3)))) da_nil))))))) (ClsOk.cons ⟨rfl, rfl, (.inl T.m_TooMany)⟩ T.tb_TooMany (fun _ _ => (db_one (ds_ret (df_lst (da_cons (dv_of de_str) (da_cons (dv_of (de_xf T.xf_TooMany_limit (dv_of (de_frz 3)))) (da_cons (dv_of (de_isiX [("TooMany", true)] T.z_isinstance (cls_bi T.z_OverflowError rfl) bi_only T.sx_OverflowError_TooMany (dv_of (de_frz 3)))) da_nil))))))) ClsOk.nil))))
  (db_one (ds_ret (df_of de_non))))
theorem ok__law_draw (T : Tx P K mg) : FnOk P w K mg base (L2.CX P w) 1 T.f__law_draw T.fd__law_draw ["_law_pool_here", "_law_many"] (spM K 2 m__law_draw) := by
  have Sc := sc__law_draw
  refine okM (j := 0) T.F__law_draw Sc rfl rfl fun cdv A outer s H E hR tk => ?_
  exact (db_cons (ds_if (t_cmp c_gt (dv_of (de_ix4 hR.low (dv_name 0) (dv_of de_int))) (dv_of de_int)) (db_cons (ds_set 2 Sc.nd (b_mod (dv_of (de_int1 T.z_int (da_cons (dv_of (de_ix4 hR.low (dv_name 0) (dv_of de_int))) da_nil))) (dv_of (de_frz 1))))
  (db_cons (ds_putA 0 hR.low (b_fdiv (dv_of (de_ix4 hR.low (dv_name 0) (dv_of de_int))) (dv_of (de_frz 1))) de_int)
  (db_one (ds_ret (df_out 2))))) db_nil)
  (db_cons (ds_putA 0 hR.low (b_mod (dv_of (de_int1 T.z_int (da_cons (dv_of (b_add (dv_of (b_mul (dv_of (de_ix4 hR.low (dv_name 0) (dv_of de_int))) (dv_of de_int))) (dv_of de_int))) da_nil))) (dv_of de_int)) de_int)
  (db_one (ds_ret (df_of (b_mod (dv_of (de_int1 T.z_int (da_cons (dv_of (b_fdiv (dv_of (b_mod (dv_of (de_int1 T.z_int (da_cons (dv_of (b_mul (dv_of (de_ix4 hR.low (dv_name 0) (dv_of de_int))) (dv_of (de_ix4 hR.low (dv_name 0) (dv_of de_int))))) da_nil))) (dv_of de_int))) (dv_of de_int))) da_nil))) (dv_of (de_frz 1))))))))
theorem ok__law_pool (T : Tx P K mg) : FnOk P w K mg base (L2.CX P w) 1 T.f__law_pool T.fd__law_pool ["_law_script", "_law_k"] (spM K 2 m__law_pool) := by
  have Sc := sc__law_pool
  refine okM (j := 0) T.F__law_pool Sc rfl rfl fun cdv A outer s H E hR tk => ?_
  exact (db_cons (ds_set 2 Sc.nd (de_if (t_cmp c_lt (dv_of (de_frz 1)) (dv_of (de_len T.z_len (da_cons (dv_of (de_frz 0)) da_nil)))) (de_ix4 hR.low (dv_of (de_frz 0)) (dv_of (de_frz 1))) (b_add (dv_of (b_mul (dv_of de_int) (dv_of (de_sum rfl T.z_sum (da_cons (dv_of (de_sl (dv_of (de_frz 0)) dp_none (dp_some de_int))) da_nil))))) (dv_of (de_frz 1)))))
  (db_cons (ds_set 3 Sc.nd (de_abs T.z_abs (da_cons (dv_of (de_frz 2)) da_nil)))
  (db_cons (ds_set 4 Sc.nd (b_add (dv_of (b_add (dv_of (b_add (dv_of (b_mod (dv_of (de_int1 T.z_int (da_cons (dv_of (de_frz 3)) da_nil))) (dv_of de_int))) (dv_of (b_mul (dv_of (b_mul (dv_of de_int) (dv_of (de_frz 1)))) (dv_of (de_frz 1)))))) (dv_of (b_mul (dv_of de_int) (dv_of (de_frz 1)))))) (dv_of de_int)))
  (db_cons (ds_set 4 Sc.nd (b_mod (dv_of (de_int1 T.z_int (da_cons (dv_of (b_mul (dv_of (de_frz 4)) (dv_of de_int))) da_nil))) (dv_of de_int)))
  (db_one (ds_ret (df_lst (da_cons (dv_of (b_mul (dv_of (de_frz 3)) (dv_of (de_int1 T.z_int (da_cons (dv_of (e_cmp c_ge (dv_of (de_frz 3)) (dv_of (b_pow (dv_of de_int) (dv_of de_int))))) da_nil))))) (da_cons (dv_of (b_mod (dv_of (de_int1 T.z_int (da_cons (dv_of (b_mul (dv_of (de_frz 4)) (dv_of (de_frz 4)))) da_nil))) (dv_of de_int))) da_nil)))))))))
theorem ok_law (T : Tx P K mg) : FnOk P w K mg base (L2.CX P w) 8 T.f_law T.fd_law ["_law_script"] (spM K 1 m_law) := by
  have Sc := sc_law
  refine okM (j := 7) T.F_law Sc rfl rfl fun cdv A outer s H E hR tk => ?_
  exact (db_cons (ds_setLcH 7 1 (own := [("_law_at", 7), ("_law_sign", 8)]) rfl Sc.nd (di_enum4 T.z_enumerate (da_cons (dv_of de_str) da_nil)) (blkOk_by (by show blkC n_law (defScope s_law) _ _ = true; decide +kernel)) (fun _ _ _ _ _ => (dgv_tup rfl (dgvs_cons (dgv_name 7 Sc.nd) (dgvs_cons (dgv_name 8 Sc.nd) dgvs_nil)))) (fun _ _ _ _ _ => dts_nil) (fun _ _ _ _ _ => (de_tup (da_cons (dv_of (b_add (dv_of de_str) (dv_of (de_frz 8)))) (da_cons (dv_of de_str) (da_cons (dv_of (b_add (dv_of de_int) (dv_of (de_frz 7)))) (da_cons (dv_of (de_frz 7)) da_nil)))))) (sw_true rfl rfl rfl (by decide +kernel)))
  (db_cons (ds_setF 2 Sc.nd (df_lst (da_cons (dv_of de_non) (da_cons (dv_of de_int) (da_cons (dv_of (de_tup (da_cons (dv_of de_str) (da_cons (dv_of de_str) (da_cons (dv_of de_int) da_nil))))) (da_cons (dv_of (de_fz (df_lst (da_cons (dv_of de_str) (da_cons (dv_of de_str) (da_cons (dv_of de_int) (da_cons (dv_of de_non) da_nil))))))) (da_cons (dv_of (de_tup (da_cons (dv_of de_str) (da_cons (dv_of de_str) (da_cons (dv_of de_int) (da_cons (dv_of de_non) da_nil)))))) (da_cons (dv_of (de_tup (da_cons (dv_of de_str) (da_cons (dv_of de_str) (da_cons (dv_of de_int) (da_cons (dv_of de_non) da_nil)))))) da_nil))))))))
  (db_cons (ds_set 2 Sc.nd (b_add (dv_of (de_frz 2)) (dv_of (de_fz (df_lst (da_cons (dv_of (de_tup (da_cons (dv_of de_str) (da_cons (dv_of de_str) (da_cons (dv_of de_int) (da_cons (dv_of de_non) da_nil)))))) (da_cons (dv_of (de_tup (da_cons (dv_of de_str) (da_cons (dv_of de_str) (da_cons (dv_of de_int) (da_cons (dv_of de_non) da_nil)))))) (da_cons (dv_of (de_tup (da_cons (dv_of de_str) (da_cons (dv_of de_str) (da_cons (dv_of de_int) (da_cons (dv_of de_int) da_nil)))))) (da_cons (dv_of (de_tup (da_cons (dv_of de_str) (da_cons (dv_of de_str) (da_cons (dv_of de_int) (da_cons (dv_of (de_neg de_int)) da_nil)))))) da_nil)))))))))
  (db_cons (ds_set 2 Sc.nd (b_add (dv_of (de_frz 2)) (dv_of (de_fz (df_lst (da_cons (dv_of (de_tup (da_cons (dv_of de_str) (da_cons (dv_of de_str) (da_cons (dv_of de_bl) (da_cons (dv_of de_non) da_nil)))))) (da_cons (dv_of (de_tup (da_cons (dv_of de_str) (da_cons (dv_of de_str) (da_cons (dv_of de_int) (da_cons (dv_of de_bl) da_nil)))))) da_nil)))))))
  (db_cons (ds_for (passes_of rfl) rfl (di_range1 T.z_range (da_cons (dv_of (de_max2 rfl T.z_max (da_cons (dv_of de_int) (da_cons (dv_of (de_min2 rfl T.z_min (da_cons (dv_of (de_len T.z_len (da_cons (dv_of (de_frz 0)) da_nil))) (da_cons (dv_of de_int) da_nil)))) da_nil)))) da_nil)) (dg_name 3 Sc.nd) (db_cons (ds_setF 4 Sc.nd (df_call (tkc tk) (ok__law_pool T) T.g__law_pool T.F__law_pool.kp T.b__law_pool hR (by decide) (da_cons (dv_of (de_frz 0)) (da_cons (dv_of (de_frz 3)) da_nil)) (Len.cons (Len.cons Len.nil))))
  (db_cons (ds_setF 5 Sc.nd (df_make [] (tkc tk) T.mk_PartsList (ok_PartsList___init__ T) T.b_PartsList___init__ .nil (fun _ => rfl) hR (by decide) (da_cons (dv_of (de_fz (df_lst (da_cons (dv_of (de_tup (da_cons (dv_of de_str) (da_cons (dv_of de_str) (da_cons (dv_of (b_add (dv_of de_int) (dv_of (de_fz (df_call (tkc tk) (ok__law_draw T) T.g__law_draw T.F__law_draw.kp T.b__law_draw hR (by decide) (da_cons (dv_name 4) (da_cons (dv_of de_int) da_nil)) (Len.cons (Len.cons Len.nil))))))) (da_cons (dv_of de_non) da_nil)))))) da_nil)))) da_nil) (fun _ _ _ h => by rw [(Len.cons Len.nil) _ _ _ h]; rfl)))
  (db_cons (ds_for (passes_of rfl) rfl (di_val4 (b_add (dv_of (de_frz 2)) (dv_of (de_fz (df_lst (da_cons (dv_of (de_ix4 hR.low (dv_of (de_frz 1)) (dv_of de_int))) da_nil)))))) (dg_name 6 Sc.nd) (db_cons (ds_set 7 Sc.nd (b_add (dv_of de_int) (dv_of (de_fz (df_call (tkc tk) (ok__law_draw T) T.g__law_draw T.F__law_draw.kp T.b__law_draw hR (by decide) (da_cons (dv_name 4) (da_cons (dv_of de_int) da_nil)) (Len.cons (Len.cons Len.nil)))))))
  (db_one (ds_if (t_cmp (c_ne hR.low) (dv_of (de_fz (df_call (tkc tk) (ok__law_refused T) T.g__law_refused T.F__law_refused.kp T.b__law_refused hR (by decide) (da_cons (dv_of de_int) (da_cons (dv_of (de_frz 5)) (da_cons (dv_of (b_add (dv_of (de_sl (dv_of (de_frz 1)) dp_none (dp_some (de_frz 7)))) (dv_of (de_fz (df_lst (da_cons (dv_of (de_frz 6)) (da_cons (dv_of de_non) da_nil))))))) da_nil))) (Len.cons (Len.cons (Len.cons Len.nil)))))) (dv_of (de_fz (df_lst (da_cons (dv_of de_str) (da_cons (dv_of (de_frz 7)) (da_cons (dv_of de_bl) da_nil))))))) (db_one (ds_ret (df_of de_bl))) db_nil))))
  (db_cons (ds_for (passes_of rfl) rfl (di_val4 (de_fz (df_lst (da_cons (dv_of de_non) (da_cons (dv_of de_int) (da_cons (dv_of de_str) (da_cons (dv_of (de_fz df_dict0)) (da_cons (dv_of (de_fz (df_lst da_nil))) (da_cons (dv_of (de_tup da_nil)) da_nil))))))))) (dg_name 6 Sc.nd) (db_one (ds_if (t_cmp (c_ne hR.low) (dv_of (de_fz (df_call (tkc tk) (ok__law_refused T) T.g__law_refused T.F__law_refused.kp T.b__law_refused hR (by decide) (da_cons (dv_of de_int) (da_cons (dv_of (de_frz 5)) (da_cons (dv_of (de_frz 6)) da_nil))) (Len.cons (Len.cons (Len.cons Len.nil)))))) (dv_of (de_fz (df_lst (da_cons (dv_of de_str) (da_cons (dv_of de_non) (da_cons (dv_of de_bl) da_nil))))))) (db_one (ds_ret (df_of de_bl))) db_nil)))
  (db_cons (ds_if (t_cmp c_isnot (dv_of (de_fz (df_call (tkc tk) (ok__law_refused T) T.g__law_refused T.F__law_refused.kp T.b__law_refused hR (by decide) (da_cons (dv_of de_int) (da_cons (dv_of (de_frz 5)) (da_cons (dv_of (de_frz 1)) da_nil))) (Len.cons (Len.cons (Len.cons Len.nil)))))) (dv_of de_non)) (db_one (ds_ret (df_of de_bl))) db_nil)
  (db_cons (ds_if (t_cmp (c_ne hR.low) (dv_of (de_fz (df_call (tkc tk) (ok__law_refused T) T.g__law_refused T.F__law_refused.kp T.b__law_refused hR (by decide) (da_cons (dv_of de_int) (da_cons (dv_of (de_frz 5)) (da_cons (dv_of (b_add (dv_of (de_frz 1)) (dv_of (de_fz (df_lst (da_cons (dv_of (de_tup (da_cons (dv_of de_str) (da_cons (dv_of de_str) (da_cons (dv_of de_int) (da_cons (dv_of de_int) da_nil)))))) da_nil)))))) da_nil))) (Len.cons (Len.cons (Len.cons Len.nil)))))) (dv_of (de_fz (df_lst (da_cons (dv_of de_str) (da_cons (dv_of de_int) (da_cons (dv_of de_bl) da_nil))))))) (db_one (ds_ret (df_of de_bl))) db_nil)
  (db_cons (ds_for (passes_of rfl) rfl (di_val4 (de_fz (df_lst (da_cons (dv_of de_int) (da_cons (dv_of (de_neg de_int)) (da_cons (dv_of de_int) (da_cons (dv_of de_bl) (da_cons (dv_of de_non) (da_cons (dv_of de_str) da_nil))))))))) (dg_name 6 Sc.nd) (db_cons (ds_if (t_cmp (c_ne hR.low) (dv_of (de_fz (df_call (tkc tk) (ok__law_refused T) T.g__law_refused T.F__law_refused.kp T.b__law_refused hR (by decide) (da_cons (dv_of de_int) (da_cons (dv_of (de_frz 5)) (da_cons (dv_of (de_frz 6)) da_nil))) (Len.cons (Len.cons (Len.cons Len.nil)))))) (dv_of (de_fz (df_lst (da_cons (dv_of de_str) (da_cons (dv_of de_non) (da_cons (dv_of de_bl) da_nil))))))) (db_one (ds_ret (df_of de_bl))) db_nil)
  (db_one (ds_if (t_cmp (c_ne hR.low) (dv_of (de_fz (df_call (tkc tk) (ok__law_refused T) T.g__law_refused T.F__law_refused.kp T.b__law_refused hR (by decide) (da_cons (dv_of de_int) (da_cons (dv_of (de_frz 5)) (da_cons (dv_of (de_frz 6)) da_nil))) (Len.cons (Len.cons (Len.cons Len.nil)))))) (dv_of (de_fz (df_lst (da_cons (dv_of de_str) (da_cons (dv_of de_non) (da_cons (dv_of de_bl) da_nil))))))) (db_one (ds_ret (df_of de_bl))) db_nil))))
  (db_cons (ds_if (t_cmp c_isnot (dv_of (de_fz (df_call (tkc tk) (ok__law_refused T) T.g__law_refused T.F__law_refused.kp T.b__law_refused hR (by decide) (da_cons (dv_of de_int) (da_cons (dv_of (de_fz (df_make [] (tkc tk) T.mk_PartsList (ok_PartsList___init__ T) T.b_PartsList___init__ .nil (fun _ => rfl) hR (by decide) (da_cons (dv_of (de_fz (df_lst (da_cons (dv_of (de_tup (da_cons (dv_of de_str) (da_cons (dv_of de_str) (da_cons (dv_of de_int) (da_cons (dv_of de_int) da_nil)))))) da_nil)))) da_nil) (fun _ _ _ h => by rw [(Len.cons Len.nil) _ _ _ h]; rfl)))) (da_cons (dv_of de_int) da_nil))) (Len.cons (Len.cons (Len.cons Len.nil)))))) (dv_of de_non)) (db_one (ds_ret (df_of de_bl))) db_nil)
  (db_cons (ds_if (t_cmp (c_ne hR.low) (dv_of (de_fz (df_call (tkc tk) (ok__law_refused T) T.g__law_refused T.F__law_refused.kp T.b__law_refused hR (by decide) (da_cons (dv_of de_int) (da_cons (dv_of (de_fz (df_make [] (tkc tk) T.mk_PartsList (ok_PartsList___init__ T) T.b_PartsList___init__ .nil (fun _ => rfl) hR (by decide) (da_cons (dv_of (de_fz (df_lst (da_cons (dv_of (de_tup (da_cons (dv_of de_str) (da_cons (dv_of de_str) (da_cons (dv_of de_int) (da_cons (dv_of de_int) da_nil)))))) (da_cons (dv_of (de_tup (da_cons (dv_of de_str) (da_cons (dv_of de_str) (da_cons (dv_of de_int) (da_cons (dv_of de_int) da_nil)))))) da_nil))))) da_nil) (fun _ _ _ h => by rw [(Len.cons Len.nil) _ _ _ h]; rfl)))) (da_cons (dv_of de_int) da_nil))) (Len.cons (Len.cons (Len.cons Len.nil)))))) (dv_of (de_fz (df_lst (da_cons (dv_of de_str) (da_cons (dv_of de_int) (da_cons (dv_of de_bl) da_nil))))))) (db_one (ds_ret (df_of de_bl))) db_nil)
  (db_cons (ds_for (passes_of rfl) rfl (di_val4 (de_fz (df_lst (da_cons (dv_of de_non) (da_cons (dv_of de_int) (da_cons (dv_of (de_fz (df_lst (da_cons (dv_of (de_tup (da_cons (dv_of de_str) (da_cons (dv_of de_str) (da_cons (dv_of de_int) (da_cons (dv_of de_non) da_nil)))))) da_nil)))) (da_cons (dv_of de_str) da_nil))))))) (dg_name 6 Sc.nd) (db_one (ds_if (t_cmp (c_ne hR.low) (dv_of (de_fz (df_call (tkc tk) (ok__law_refused T) T.g__law_refused T.F__law_refused.kp T.b__law_refused hR (by decide) (da_cons (dv_of de_int) (da_cons (dv_of (de_frz 5)) (da_cons (dv_of (de_frz 6)) da_nil))) (Len.cons (Len.cons (Len.cons Len.nil)))))) (dv_of (de_fz (df_lst (da_cons (dv_of de_str) (da_cons (dv_of (de_reprD hR.low T.z_repr (da_cons (dv_of (de_frz 6)) da_nil))) (da_cons (dv_of de_bl) da_nil))))))) (db_one (ds_ret (df_of de_bl))) db_nil)))
  (db_cons (ds_if (t_cmp (c_ne hR.low) (dv_of (de_fz (df_call (tkc tk) (ok__law_refused T) T.g__law_refused T.F__law_refused.kp T.b__law_refused hR (by decide) (da_cons (dv_of de_int) (da_cons (dv_of (de_frz 5)) (da_cons (dv_of (de_frz 5)) da_nil))) (Len.cons (Len.cons (Len.cons Len.nil)))))) (dv_of (de_fz (df_lst (da_cons (dv_of de_str) (da_cons (dv_of de_int) (da_cons (dv_of de_bl) da_nil))))))) (db_one (ds_ret (df_of de_bl))) db_nil)
  (db_cons (ds_if (t_cmp (c_ne hR.low) (dv_of (de_fz (df_call (tkc tk) (ok__law_refused T) T.g__law_refused T.F__law_refused.kp T.b__law_refused hR (by decide) (da_cons (dv_of de_int) (da_cons (dv_of (de_frz 5)) (da_cons (dv_of (de_fz (df_make [] (tkc tk) T.mk_PartsList (ok_PartsList___init__ T) T.b_PartsList___init__ .nil (fun _ => rfl) hR (by decide) (da_cons (dv_of (de_frz 1)) da_nil) (fun _ _ _ h => by rw [(Len.cons Len.nil) _ _ _ h]; rfl)))) da_nil))) (Len.cons (Len.cons (Len.cons Len.nil)))))) (dv_of (de_fz (df_lst (da_cons (dv_of de_str) (da_cons (dv_of de_int) (da_cons (dv_of de_bl) da_nil))))))) (db_one (ds_ret (df_of de_bl))) db_nil)
  (db_one (ds_if (t_cmp c_isnot (dv_of (de_fz (df_call (tkc tk) (ok__law_refused T) T.g__law_refused T.F__law_refused.kp T.b__law_refused hR (by decide) (da_cons (dv_of de_int) (da_cons (dv_of (de_frz 5)) (da_cons (dv_of (de_fz (df_make [] (tkc tk) T.mk_PartsList (ok_PartsList___init__ T) T.b_PartsList___init__ .nil (fun _ => rfl) hR (by decide) (da_cons (dv_of (de_sl (dv_of (de_frz 1)) dp_none (dp_some de_int))) da_nil) (fun _ _ _ h => by rw [(Len.cons Len.nil) _ _ _ h]; rfl)))) da_nil))) (Len.cons (Len.cons (Len.cons Len.nil)))))) (dv_of de_non)) (db_one (ds_ret (df_of de_bl))) db_nil)))))))))))))))
  (db_one (ds_ret (df_of de_bl))))))))
end
theorem all_mk {l : PySem.W.OpenLaw} {w : World} {P : Program} {K : PySem.W.Frag} {h : Heap} {mg : Str → Option Value} {FA_ : Addr} (hP : l.prog = P) (X : K.In h) (G : h.Ns mainGlobals mg) (hfa : mg "law" = some (.ref FA_))
    {f1 : Addr}
    (h2 : PySem.W.nsIn K mainGlobals "law" = some (some (.ref f1)))
    {oc3 : Value} {od4 : Option Addr} {an5 : Option Addr} {sl6 : Array (Option Value)} {dc7 : Value} {pm8 : Value} {cd9 : Value} {ct10 : Value} {kV11 : Value}
    (h12 : K.lookup f1 = some ⟨oc3, od4, .func (PySem.W.fnOf "law" "law" (defArgs s_law) (defBody s_law) (defScope s_law) .none kV11 dc7 pm8 an5 cd9 ct10), sl6⟩)
    (h13 : PySem.W.codeIn K cd9 "law" = true)
    (h14 : PySem.W.keepIn K (.ref f1) = true)
    (h15 : PySem.W.nsIn K mainGlobals "max" = some none)
    (h16 : PySem.W.nsIn K mainGlobals "min" = some none)
    (h17 : PySem.W.nsIn K mainGlobals "len" = some none)
    (h18 : PySem.W.nsIn K mainGlobals "range" = some none)
    {f19 : Addr}
    (h20 : PySem.W.nsIn K mainGlobals "_law_refused" = some (some (.ref f19)))
    {oc21 : Value} {od22 : Option Addr} {an23 : Option Addr} {sl24 : Array (Option Value)} {dc25 : Value} {pm26 : Value} {cd27 : Value} {ct28 : Value} {kV29 : Value}
    (h30 : K.lookup f19 = some ⟨oc21, od22, .func (PySem.W.fnOf "_law_refused" "_law_refused" (defArgs s__law_refused) (defBody s__law_refused) (defScope s__law_refused) .none kV29 dc25 pm26 an23 cd27 ct28), sl24⟩)
    (h31 : PySem.W.codeIn K cd27 "_law_refused" = true)
    (h32 : PySem.W.keepIn K (.ref f19) = true)
    {a33 : Addr}
    (h34 : PySem.W.nsIn K mainGlobals "PartsList" = some (some (.ref a33)))
    {f35 : Addr}
    (h36 : PySem.W.findIn K (.ref a33) "__init__" = some (some (.ref f35)))
    {oc37 : Value} {od38 : Option Addr} {an39 : Option Addr} {sl40 : Array (Option Value)} {dc41 : Value} {pm42 : Value} {cd43 : Value} {ct44 : Value} {kV45 : Value}
    (h46 : K.lookup f35 = some ⟨oc37, od38, .func (PySem.W.fnOf "__init__" "PartsList.__init__" (defArgs s_PartsList___init__) (defBody s_PartsList___init__) (defScope s_PartsList___init__) .none kV45 dc41 pm42 an39 cd43 ct44), sl40⟩)
    (h47 : PySem.W.codeIn K cd43 "PartsList.__init__" = true)
    (h48 : PySem.W.keepIn K (.ref f35) = true)
    (h49 : PySem.W.isFn K (.ref f35) = true)
    (h50 : PySem.W.nsIn K mainGlobals "tuple" = some none)
    (h51 : PySem.W.plainGet K a33 Str.empty = true)
    (h52 : PySem.W.hasDictIn K a33 = true)
    (h53 : PySem.W.plainOver K a33 = true)
    (h54 : PySem.W.findIn K (.ref a33) "__setattr__" = some (some (.builtin "object.__setattr__")))
    (h55 : PySem.W.findIn K (.ref a33) "own_places" = some none)
    {t56 : Tok}
    (h57 : PySem.W.nsIn K mainGlobals "MOST_PLACES" = some (some (.int 12 t56)))
    {a58 : Addr}
    (h59 : PySem.W.nsIn K mainGlobals "TooMany" = some (some (.ref a58)))
    (h60 : PySem.W.nsIn K mainGlobals "super" = some none)
    {fI61 : Addr} {oc62 : Value} {od63 : Option Addr} {osl64 : Array (Option Value)} {kV65 : Value} {dc66 : Value} {pm67 : Value} {an68 : Option Addr} {ct69 : Value} {cda70 : Addr} {cc71 : Addr} {ccl72 : Value} {cdd73 : Option Addr} {vs74 : Array Value} {ccs75 : Array (Option Value)} {file76 : Str} {tf77 : Tok} {cl78 : Value} {cld79 : Option Addr} {csl80 : Array (Option Value)} {cd81 : ClassData}
    (h82 : PySem.W.findIn K (.ref a58) "__init__" = some (some (.ref fI61)))
    (h83 : K.lookup fI61 = some ⟨oc62, od63, .func (PySem.W.ksFn "__init__" "TooMany.__init__" (defArgs sx_TooMany) (defBody sx_TooMany) (defScope sx_TooMany) .none kV65 dc66 pm67 an68 (.ref cda70) ct69 cc71), osl64⟩)
    (h84 : K.lookup cda70 = some ⟨ccl72, cdd73, .fields vs74, ccs75⟩)
    (h85 : PySem.W.codeIn K (.ref cda70) "TooMany.__init__" = true)
    (h86 : vs74[2]? = some (.str file76 tf77))
    (h87 : ((P.main.file : Str) == file76) = true)
    (h88 : K.lookup cc71 = some ⟨cl78, cld79, .cell (some (.ref a58)), csl80⟩)
    (h89 : (P.main.scope.names.lookup ("super" : Str)).isSome = false)
    (h90 : PySem.W.clsIn K a58 = some cd81)
    (h91 : PySem.W.mroIn K a58 (.ref a58) = some true)
    (h92 : PySem.W.nsIn K PySem.cStatics "thirdparty.any" = some none)
    (h93 : PySem.W.ks_superIn K a58 a58 "__init__" = some (some (.builtin "OverflowError.__init__")))
    (h94 : PySem.W.subIn K (.ref a58) (.type "OverflowError") = some true)
    (h95 : PySem.W.isFn K (.ref fI61) = true)
    (h96 : PySem.W.excInitIn K a58 [.type "OverflowError", .type "ArithmeticError", .type "Exception", .type "BaseException", .type "object"] "OverflowError.__new__" = true)
    (h97 : PySem.W.findIn K (.ref a58) "__setattr__" = some (some (.builtin "object.__setattr__")))
    (h98 : PySem.W.excOver K a58 [.type "OverflowError", .type "ArithmeticError", .type "Exception", .type "BaseException", .type "object"] = true)
    (h99 : PySem.W.takerIn K a58 "limit" = some none)
    (h100 : PySem.W.hasDictIn K a58 = true)
    (h101 : PySem.W.keepIn K (.ref a58) = true)
    (h102 : PySem.W.subIn K (.ref a58) (.type "BaseException") = some true)
    (h103 : PySem.W.typeIn K (.ref a58) = some (.type "type"))
    (h104 : PySem.W.nsIn K mainGlobals "enumerate" = some none)
    {f105 : Addr}
    (h106 : PySem.W.nsIn K mainGlobals "is_place" = some (some (.ref f105)))
    {oc107 : Value} {od108 : Option Addr} {an109 : Option Addr} {sl110 : Array (Option Value)} {dc111 : Value} {pm112 : Value} {cd113 : Value} {ct114 : Value} {kV115 : Value}
    (h116 : K.lookup f105 = some ⟨oc107, od108, .func (PySem.W.fnOf "is_place" "is_place" (defArgs s_is_place) (defBody s_is_place) (defScope s_is_place) .none kV115 dc111 pm112 an109 cd113 ct114), sl110⟩)
    (h117 : PySem.W.codeIn K cd113 "is_place" = true)
    (h118 : PySem.W.keepIn K (.ref f105) = true)
    {f119 : Addr}
    (h120 : PySem.W.nsIn K mainGlobals "is_integer" = some (some (.ref f119)))
    {oc121 : Value} {od122 : Option Addr} {an123 : Option Addr} {sl124 : Array (Option Value)} {dc125 : Value} {pm126 : Value} {cd127 : Value} {ct128 : Value} {kV129 : Value}
    (h130 : K.lookup f119 = some ⟨oc121, od122, .func (PySem.W.fnOf "is_integer" "is_integer" (defArgs s_is_integer) (defBody s_is_integer) (defScope s_is_integer) .none kV129 dc125 pm126 an123 cd127 ct128), sl124⟩)
    (h131 : PySem.W.codeIn K cd127 "is_integer" = true)
    (h132 : PySem.W.keepIn K (.ref f119) = true)
    (h133 : PySem.W.nsIn K mainGlobals "isinstance" = some none)
    (h134 : PySem.W.nsIn K mainGlobals "bool" = some none)
    (h135 : PySem.W.nsIn K mainGlobals "int" = some none)
    {t136 : Tok}
    (h137 : PySem.W.nsIn K mainGlobals "MOST_NUMBER" = some (some (.int 999 t136)))
    {f138 : Addr}
    (h139 : PySem.W.nsIn K mainGlobals "is_word" = some (some (.ref f138)))
    {oc140 : Value} {od141 : Option Addr} {an142 : Option Addr} {sl143 : Array (Option Value)} {dc144 : Value} {pm145 : Value} {cd146 : Value} {ct147 : Value} {kV148 : Value}
    (h149 : K.lookup f138 = some ⟨oc140, od141, .func (PySem.W.fnOf "is_word" "is_word" (defArgs s_is_word) (defBody s_is_word) (defScope s_is_word) .none kV148 dc144 pm145 an142 cd146 ct147), sl143⟩)
    (h150 : PySem.W.codeIn K cd146 "is_word" = true)
    (h151 : PySem.W.keepIn K (.ref f138) = true)
    (h152 : PySem.W.nsIn K mainGlobals "all" = some none)
    {t153 : Tok}
    (h154 : PySem.W.nsIn K mainGlobals "LETTERS" = some (some (.str "abcdefghijklmnopqrstuvwxyz" t153)))
    {t155 : Tok}
    (h156 : PySem.W.nsIn K mainGlobals "MOST_LETTERS" = some (some (.int 8 t155)))
    (h157 : PySem.W.nsIn K mainGlobals "str" = some none)
    {a158 : Addr}
    (h159 : PySem.W.nsIn K mainGlobals "BadPlace" = some (some (.ref a158)))
    {fI160 : Addr} {oc161 : Value} {od162 : Option Addr} {osl163 : Array (Option Value)} {kV164 : Value} {dc165 : Value} {pm166 : Value} {an167 : Option Addr} {ct168 : Value} {cda169 : Addr} {cc170 : Addr} {ccl171 : Value} {cdd172 : Option Addr} {vs173 : Array Value} {ccs174 : Array (Option Value)} {file175 : Str} {tf176 : Tok} {cl177 : Value} {cld178 : Option Addr} {csl179 : Array (Option Value)} {cd180 : ClassData}
    (h181 : PySem.W.findIn K (.ref a158) "__init__" = some (some (.ref fI160)))
    (h182 : K.lookup fI160 = some ⟨oc161, od162, .func (PySem.W.ksFn "__init__" "BadPlace.__init__" (defArgs sx_BadPlace) (defBody sx_BadPlace) (defScope sx_BadPlace) .none kV164 dc165 pm166 an167 (.ref cda169) ct168 cc170), osl163⟩)
    (h183 : K.lookup cda169 = some ⟨ccl171, cdd172, .fields vs173, ccs174⟩)
    (h184 : PySem.W.codeIn K (.ref cda169) "BadPlace.__init__" = true)
    (h185 : vs173[2]? = some (.str file175 tf176))
    (h186 : ((P.main.file : Str) == file175) = true)
    (h187 : K.lookup cc170 = some ⟨cl177, cld178, .cell (some (.ref a158)), csl179⟩)
    (h188 : (P.main.scope.names.lookup ("super" : Str)).isSome = false)
    (h189 : PySem.W.clsIn K a158 = some cd180)
    (h190 : PySem.W.mroIn K a158 (.ref a158) = some true)
    (h191 : PySem.W.nsIn K PySem.cStatics "thirdparty.any" = some none)
    (h192 : PySem.W.ks_superIn K a158 a158 "__init__" = some (some (.builtin "ValueError.__init__")))
    (h193 : PySem.W.subIn K (.ref a158) (.type "ValueError") = some true)
    (h194 : PySem.W.isFn K (.ref fI160) = true)
    (h195 : PySem.W.excInitIn K a158 [.type "ValueError", .type "Exception", .type "BaseException", .type "object"] "ValueError.__new__" = true)
    (h196 : PySem.W.findIn K (.ref a158) "__setattr__" = some (some (.builtin "object.__setattr__")))
    (h197 : PySem.W.excOver K a158 [.type "ValueError", .type "Exception", .type "BaseException", .type "object"] = true)
    (h198 : PySem.W.takerIn K a158 "index" = some none)
    (h199 : PySem.W.hasDictIn K a158 = true)
    (h200 : PySem.W.keepIn K (.ref a158) = true)
    (h201 : PySem.W.subIn K (.ref a158) (.type "BaseException") = some true)
    (h202 : PySem.W.typeIn K (.ref a158) = some (.type "type"))
    (h203 : PySem.W.nsIn K mainGlobals "list" = some none)
    (h204 : PySem.W.makesIn K a33 = true)
    (h205 : PySem.W.keepIn K (.ref a33) = true)
    {f206 : Addr}
    (h207 : PySem.W.findIn K (.ref a33) "__mul__" = some (some (.ref f206)))
    {oc208 : Value} {od209 : Option Addr} {an210 : Option Addr} {sl211 : Array (Option Value)} {dc212 : Value} {pm213 : Value} {cd214 : Value} {ct215 : Value} {kV216 : Value}
    (h217 : K.lookup f206 = some ⟨oc208, od209, .func (PySem.W.fnOf "__mul__" "PartsList.__mul__" (defArgs s_PartsList___mul__) (defBody s_PartsList___mul__) (defScope s_PartsList___mul__) .none kV216 dc212 pm213 an210 cd214 ct215), sl211⟩)
    (h218 : PySem.W.codeIn K cd214 "PartsList.__mul__" = true)
    (h219 : PySem.W.keepIn K (.ref f206) = true)
    (h220 : PySem.W.isFn K (.ref f206) = true)
    {f221 : Addr}
    (h222 : PySem.W.nsIn K mainGlobals "times" = some (some (.ref f221)))
    {oc223 : Value} {od224 : Option Addr} {an225 : Option Addr} {sl226 : Array (Option Value)} {dc227 : Value} {pm228 : Value} {cd229 : Value} {ct230 : Value} {kV231 : Value}
    (h232 : K.lookup f221 = some ⟨oc223, od224, .func (PySem.W.fnOf "times" "times" (defArgs s_times) (defBody s_times) (defScope s_times) .none kV231 dc227 pm228 an225 cd229 ct230), sl226⟩)
    (h233 : PySem.W.codeIn K cd229 "times" = true)
    (h234 : PySem.W.keepIn K (.ref f221) = true)
    (h235 : PySem.W.findIn K (.ref a33) (PySem.dunder Operator.Mult.info.2) = some (some (.ref f206)))
    (h236 : PySem.W.isFn K (.ref f206) = true)
    {r237 : Option Value}
    (h238 : PySem.W.findIn K (.ref a33) (dunderR Operator.Mult.info.2) = some r237)
    (h239 : r237 = none ∨ ∃ g, r237 = some (.ref g))
    (h240 : PySem.W.selfFirst K a33 = true)
    {f241 : Addr}
    (h242 : PySem.W.findIn K (.ref a33) "__rmul__" = some (some (.ref f241)))
    {oc243 : Value} {od244 : Option Addr} {an245 : Option Addr} {sl246 : Array (Option Value)} {dc247 : Value} {pm248 : Value} {cd249 : Value} {ct250 : Value} {kV251 : Value}
    (h252 : K.lookup f241 = some ⟨oc243, od244, .func (PySem.W.fnOf "__rmul__" "PartsList.__rmul__" (defArgs s_PartsList___rmul__) (defBody s_PartsList___rmul__) (defScope s_PartsList___rmul__) .none kV251 dc247 pm248 an245 cd249 ct250), sl246⟩)
    (h253 : PySem.W.codeIn K cd249 "PartsList.__rmul__" = true)
    (h254 : PySem.W.keepIn K (.ref f241) = true)
    (h255 : PySem.W.isFn K (.ref f241) = true)
    (h256 : PySem.W.findIn K (.ref a33) (PySem.dunder "mul") = some (some (.ref f206)))
    (h257 : PySem.W.findIn K (.ref a33) (dunderR "mul") = some (some (.ref f241)))
    (h258 : PySem.W.isFn K (.ref f241) = true)
    (h259 : PySem.W.selfFirst K a33 = true)
    (h260 : PySem.W.subIn K (.ref a33) (.type "int") = some false)
    (h261 : PySem.W.subIn K (.ref a33) (.type "bool") = some false)
    {f262 : Addr}
    (h263 : PySem.W.findIn K (.ref a33) "__add__" = some (some (.ref f262)))
    {oc264 : Value} {od265 : Option Addr} {an266 : Option Addr} {sl267 : Array (Option Value)} {dc268 : Value} {pm269 : Value} {cd270 : Value} {ct271 : Value} {kV272 : Value}
    (h273 : K.lookup f262 = some ⟨oc264, od265, .func (PySem.W.fnOf "__add__" "PartsList.__add__" (defArgs s_PartsList___add__) (defBody s_PartsList___add__) (defScope s_PartsList___add__) .none kV272 dc268 pm269 an266 cd270 ct271), sl267⟩)
    (h274 : PySem.W.codeIn K cd270 "PartsList.__add__" = true)
    (h275 : PySem.W.keepIn K (.ref f262) = true)
    (h276 : PySem.W.isFn K (.ref f262) = true)
    {f277 : Addr}
    (h278 : PySem.W.nsIn K mainGlobals "check_list" = some (some (.ref f277)))
    {oc279 : Value} {od280 : Option Addr} {an281 : Option Addr} {sl282 : Array (Option Value)} {dc283 : Value} {pm284 : Value} {cd285 : Value} {ct286 : Value} {kV287 : Value}
    (h288 : K.lookup f277 = some ⟨oc279, od280, .func (PySem.W.fnOf "check_list" "check_list" (defArgs s_check_list) (defBody s_check_list) (defScope s_check_list) .none kV287 dc283 pm284 an281 cd285 ct286), sl282⟩)
    (h289 : PySem.W.codeIn K cd285 "check_list" = true)
    (h290 : PySem.W.keepIn K (.ref f277) = true)
    (h291 : PySem.W.findIn K (.ref a33) "__class__" = some (some (.builtin "object.__class__")))
    (h292 : PySem.W.specialIn K (.builtin "object.__class__") "__get__" = some (some (.builtin "getset_descriptor.__get__")))
    (h293 : PySem.W.takesIn K (.builtin "object.__class__") = some true)
    (h294 : PySem.W.mroIn K a33 (.type "object") = some true)
    {cd295 : ClassData}
    (h296 : PySem.W.clsIn K a33 = some cd295)
    (h297 : PySem.W.typeIn K (.ref a33) = some (.type "type"))
    (h298 : PySem.W.kitOne K (.ref a33) (.ref a33) = some true)
    {a299 : Addr}
    (h300 : PySem.W.nsIn K mainGlobals "BadList" = some (some (.ref a299)))
    {fI301 : Addr} {oc302 : Value} {od303 : Option Addr} {osl304 : Array (Option Value)} {kV305 : Value} {dc306 : Value} {pm307 : Value} {an308 : Option Addr} {ct309 : Value} {cda310 : Addr} {cc311 : Addr} {ccl312 : Value} {cdd313 : Option Addr} {vs314 : Array Value} {ccs315 : Array (Option Value)} {file316 : Str} {tf317 : Tok} {cl318 : Value} {cld319 : Option Addr} {csl320 : Array (Option Value)} {cd321 : ClassData}
    (h322 : PySem.W.findIn K (.ref a299) "__init__" = some (some (.ref fI301)))
    (h323 : K.lookup fI301 = some ⟨oc302, od303, .func (PySem.W.ksFn "__init__" "BadList.__init__" (defArgs sx_BadList) (defBody sx_BadList) (defScope sx_BadList) .none kV305 dc306 pm307 an308 (.ref cda310) ct309 cc311), osl304⟩)
    (h324 : K.lookup cda310 = some ⟨ccl312, cdd313, .fields vs314, ccs315⟩)
    (h325 : PySem.W.codeIn K (.ref cda310) "BadList.__init__" = true)
    (h326 : vs314[2]? = some (.str file316 tf317))
    (h327 : ((P.main.file : Str) == file316) = true)
    (h328 : K.lookup cc311 = some ⟨cl318, cld319, .cell (some (.ref a299)), csl320⟩)
    (h329 : (P.main.scope.names.lookup ("super" : Str)).isSome = false)
    (h330 : PySem.W.clsIn K a299 = some cd321)
    (h331 : PySem.W.mroIn K a299 (.ref a299) = some true)
    (h332 : PySem.W.nsIn K PySem.cStatics "thirdparty.any" = some none)
    (h333 : PySem.W.ks_superIn K a299 a299 "__init__" = some (some (.builtin "ValueError.__init__")))
    (h334 : PySem.W.subIn K (.ref a299) (.type "ValueError") = some true)
    (h335 : PySem.W.isFn K (.ref fI301) = true)
    (h336 : PySem.W.excInitIn K a299 [.type "ValueError", .type "Exception", .type "BaseException", .type "object"] "ValueError.__new__" = true)
    (h337 : PySem.W.findIn K (.ref a299) "__setattr__" = some (some (.builtin "object.__setattr__")))
    (h338 : PySem.W.excOver K a299 [.type "ValueError", .type "Exception", .type "BaseException", .type "object"] = true)
    (h339 : PySem.W.takerIn K a299 "value" = some none)
    (h340 : PySem.W.hasDictIn K a299 = true)
    (h341 : PySem.W.keepIn K (.ref a299) = true)
    (h342 : PySem.W.subIn K (.ref a299) (.type "BaseException") = some true)
    (h343 : PySem.W.typeIn K (.ref a299) = some (.type "type"))
    (h344 : PySem.W.findIn K (.ref a33) (PySem.dunder Operator.Add.info.2) = some (some (.ref f262)))
    (h345 : PySem.W.isFn K (.ref f262) = true)
    {r346 : Option Value}
    (h347 : PySem.W.findIn K (.ref a33) (dunderR Operator.Add.info.2) = some r346)
    (h348 : r346 = none ∨ ∃ g, r346 = some (.ref g))
    (h349 : PySem.W.selfFirst K a33 = true)
    {a350 : Addr}
    (h351 : PySem.W.nsIn K mainGlobals "PartsError" = some (some (.ref a350)))
    (h352 : PySem.W.findIn K (.ref a158) "__getattribute__" = some (some (.builtin "BaseException.__getattribute__")))
    (h353 : PySem.W.findIn K (.ref a158) "__getattr__" = some none)
    (h354 : PySem.W.subIn K (.ref a158) (.type "BaseException") = some true)
    (h355 : PySem.W.hasDictIn K a158 = true)
    (h356 : PySem.W.findIn K (.ref a158) "__class__" = some (some (.builtin "object.__class__")))
    (h357 : PySem.W.specialIn K (.builtin "object.__class__") "__get__" = some (some (.builtin "getset_descriptor.__get__")))
    (h358 : PySem.W.takesIn K (.builtin "object.__class__") = some true)
    (h359 : PySem.W.mroIn K a158 (.type "object") = some true)
    (h360 : PySem.W.kitOne K (.ref a158) (.ref a350) = some true)
    (h361 : PySem.W.findIn K (.ref a158) "__getattribute__" = some (some (.builtin "BaseException.__getattribute__")))
    (h362 : PySem.W.findIn K (.ref a158) "__getattr__" = some none)
    (h363 : PySem.W.subIn K (.ref a158) (.type "BaseException") = some true)
    (h364 : PySem.W.hasDictIn K a158 = true)
    (h365 : PySem.W.findIn K (.ref a158) "index" = some none)
    (h366 : PySem.W.exmOne K (.ref a299) (.ref a158) = some false)
    (h367 : PySem.W.exmOne K (.ref a158) (.ref a158) = some true)
    (h368 : PySem.W.exmOne K (.ref a58) (.ref a158) = some false)
    (h369 : PySem.W.findIn K (.ref a299) "__getattribute__" = some (some (.builtin "BaseException.__getattribute__")))
    (h370 : PySem.W.findIn K (.ref a299) "__getattr__" = some none)
    (h371 : PySem.W.subIn K (.ref a299) (.type "BaseException") = some true)
    (h372 : PySem.W.hasDictIn K a299 = true)
    (h373 : PySem.W.findIn K (.ref a299) "__class__" = some (some (.builtin "object.__class__")))
    (h374 : PySem.W.specialIn K (.builtin "object.__class__") "__get__" = some (some (.builtin "getset_descriptor.__get__")))
    (h375 : PySem.W.takesIn K (.builtin "object.__class__") = some true)
    (h376 : PySem.W.mroIn K a299 (.type "object") = some true)
    (h377 : PySem.W.kitOne K (.ref a299) (.ref a350) = some true)
    (h378 : PySem.W.nsIn K mainGlobals "repr" = some none)
    (h379 : PySem.W.findIn K (.ref a299) "__getattribute__" = some (some (.builtin "BaseException.__getattribute__")))
    (h380 : PySem.W.findIn K (.ref a299) "__getattr__" = some none)
    (h381 : PySem.W.subIn K (.ref a299) (.type "BaseException") = some true)
    (h382 : PySem.W.hasDictIn K a299 = true)
    (h383 : PySem.W.findIn K (.ref a299) "value" = some none)
    (h384 : PySem.W.exmOne K (.ref a299) (.ref a299) = some true)
    (h385 : PySem.W.exmOne K (.ref a158) (.ref a299) = some false)
    (h386 : PySem.W.exmOne K (.ref a58) (.ref a299) = some false)
    (h387 : PySem.W.nsIn K mainGlobals "OverflowError" = some none)
    (h388 : PySem.W.findIn K (.ref a58) "__getattribute__" = some (some (.builtin "BaseException.__getattribute__")))
    (h389 : PySem.W.findIn K (.ref a58) "__getattr__" = some none)
    (h390 : PySem.W.subIn K (.ref a58) (.type "BaseException") = some true)
    (h391 : PySem.W.hasDictIn K a58 = true)
    (h392 : PySem.W.findIn K (.ref a58) "__class__" = some (some (.builtin "object.__class__")))
    (h393 : PySem.W.specialIn K (.builtin "object.__class__") "__get__" = some (some (.builtin "getset_descriptor.__get__")))
    (h394 : PySem.W.takesIn K (.builtin "object.__class__") = some true)
    (h395 : PySem.W.mroIn K a58 (.type "object") = some true)
    (h396 : PySem.W.kitOne K (.ref a58) (.type "OverflowError") = some true)
    (h397 : PySem.W.findIn K (.ref a58) "__getattribute__" = some (some (.builtin "BaseException.__getattribute__")))
    (h398 : PySem.W.findIn K (.ref a58) "__getattr__" = some none)
    (h399 : PySem.W.subIn K (.ref a58) (.type "BaseException") = some true)
    (h400 : PySem.W.hasDictIn K a58 = true)
    (h401 : PySem.W.findIn K (.ref a58) "limit" = some none)
    (h402 : PySem.W.exmOne K (.ref a299) (.ref a58) = some false)
    (h403 : PySem.W.exmOne K (.ref a158) (.ref a58) = some false)
    (h404 : PySem.W.exmOne K (.ref a58) (.ref a58) = some true)
    {f405 : Addr}
    (h406 : PySem.W.nsIn K mainGlobals "_law_draw" = some (some (.ref f405)))
    {oc407 : Value} {od408 : Option Addr} {an409 : Option Addr} {sl410 : Array (Option Value)} {dc411 : Value} {pm412 : Value} {cd413 : Value} {ct414 : Value} {kV415 : Value}
    (h416 : K.lookup f405 = some ⟨oc407, od408, .func (PySem.W.fnOf "_law_draw" "_law_draw" (defArgs s__law_draw) (defBody s__law_draw) (defScope s__law_draw) .none kV415 dc411 pm412 an409 cd413 ct414), sl410⟩)
    (h417 : PySem.W.codeIn K cd413 "_law_draw" = true)
    (h418 : PySem.W.keepIn K (.ref f405) = true)
    {f419 : Addr}
    (h420 : PySem.W.nsIn K mainGlobals "_law_pool" = some (some (.ref f419)))
    {oc421 : Value} {od422 : Option Addr} {an423 : Option Addr} {sl424 : Array (Option Value)} {dc425 : Value} {pm426 : Value} {cd427 : Value} {ct428 : Value} {kV429 : Value}
    (h430 : K.lookup f419 = some ⟨oc421, od422, .func (PySem.W.fnOf "_law_pool" "_law_pool" (defArgs s__law_pool) (defBody s__law_pool) (defScope s__law_pool) .none kV429 dc425 pm426 an423 cd427 ct428), sl424⟩)
    (h431 : PySem.W.codeIn K cd427 "_law_pool" = true)
    (h432 : PySem.W.keepIn K (.ref f419) = true)
    (h433 : PySem.W.nsIn K mainGlobals "abs" = some none)
    (h434 : PySem.W.nsIn K mainGlobals "sum" = some none)
    : ∃ fd : FuncData, (∀ (s : Shared) (v : Value), BindsTo s fd ⟨[v], []⟩ [("_law_script", v)]) ∧ ∀ base : Heap, K.In base → base.Ns mainGlobals mg → FnOk l.prog w K mg base (L2.CX l.prog w) 8 FA_ fd ["_law_script"] (spM K 1 m_law) := by
  subst hP
  have e := hfa.symm.trans (PySem.W.mg_of X G h2)
  cases e
  let f_law : Addr := FA_
  let fd_law : FuncData := PySem.W.fnOf "law" "law" (defArgs s_law) (defBody s_law) (defScope s_law) .none kV11 dc7 pm8 an5 cd9 ct10
  have F_law : Fun K "law" "law" s_law f_law fd_law := fun_mk (st := s_law) h12 h13 h14
  have g_law : mg "law" = some (.ref f_law) := PySem.W.mg_of X G h2
  have b_law : Binds K fd_law ["_law_script"] [] := L2.Binds.all (ps := ["_law_script"]) (fun us hl => match us, hl with | [_], _ => rfl)
  have z_max : mg "max" = none := PySem.W.mg_none_of X G h15
  have z_min : mg "min" = none := PySem.W.mg_none_of X G h16
  have z_len : mg "len" = none := PySem.W.mg_none_of X G h17
  have z_range : mg "range" = none := PySem.W.mg_none_of X G h18
  let f__law_refused : Addr := f19
  let fd__law_refused : FuncData := PySem.W.fnOf "_law_refused" "_law_refused" (defArgs s__law_refused) (defBody s__law_refused) (defScope s__law_refused) .none kV29 dc25 pm26 an23 cd27 ct28
  have F__law_refused : Fun K "_law_refused" "_law_refused" s__law_refused f__law_refused fd__law_refused := fun_mk (st := s__law_refused) h30 h31 h32
  have g__law_refused : mg "_law_refused" = some (.ref f__law_refused) := PySem.W.mg_of X G h20
  have b__law_refused : Binds K fd__law_refused ["_law_door", "_law_one", "_law_value"] [] := L2.Binds.all (ps := ["_law_door", "_law_one", "_law_value"]) (fun us hl => match us, hl with | [_, _, _], _ => rfl)
  let c_PartsList : Addr := a33
  have n_PartsList : ClsN K "PartsList" c_PartsList := h34
  have m_PartsList : mg "PartsList" = some (.ref c_PartsList) := PySem.W.mg_of X G h34
  let f_PartsList___init__ : Addr := f35
  let fd_PartsList___init__ : FuncData := PySem.W.fnOf "__init__" "PartsList.__init__" (defArgs s_PartsList___init__) (defBody s_PartsList___init__) (defScope s_PartsList___init__) .none kV45 dc41 pm42 an39 cd43 ct44
  have F_PartsList___init__ : Fun K "__init__" "PartsList.__init__" s_PartsList___init__ f_PartsList___init__ fd_PartsList___init__ := fun_mk (st := s_PartsList___init__) h46 h47 h48
  have me_PartsList___init__ : Meth K c_PartsList "__init__" f_PartsList___init__ := ⟨h36, h49, h48⟩
  have b_PartsList___init__ : Binds K fd_PartsList___init__ ["self", "places"] [] := L2.Binds.all (ps := ["self", "places"]) (fun us hl => match us, hl with | [_, _], _ => rfl)
  have z_tuple : mg "tuple" = none := PySem.W.mg_none_of X G h50
  have p_PartsList : Plain K "PartsList" c_PartsList := ⟨⟨h51, h52, h53, h54⟩, n_PartsList⟩
  have na_PartsList_own_places : NoAttr K c_PartsList "own_places" := h55
  have k_MOST_PLACES : ∃ t, mg "MOST_PLACES" = some (.int 12 t) := ⟨_, PySem.W.mg_of X G h57⟩
  let c_TooMany : Addr := a58
  have n_TooMany : ClsN K "TooMany" c_TooMany := h59
  have m_TooMany : mg "TooMany" = some (.ref c_TooMany) := PySem.W.mg_of X G h59
  have z_super : mg "super" = none := PySem.W.mg_none_of X G h60
  let x_TooMany : ExcK l.prog K c_TooMany "limit" "limit" "OverflowError" "OverflowError.__init__" "OverflowError.__new__" [.type "OverflowError", .type "ArithmeticError", .type "Exception", .type "BaseException", .type "object"] := { fI := fI61, oc := _, od := _, osl := _, name := "__init__", qual := "TooMany.__init__", params := defArgs sx_TooMany, body := defBody sx_TooMany, scope := defScope sx_TooMany, dV := _, kV := _, dc := _, pm := _, an := _, ct := _, cda := _, cc := _, ccl := _, cdd := _, vs := _, ccs := _, file := _, tf := _, cl := _, cld := _, csl := _, txt := _, j := _, ps := ps_TooMany, hbody := rfl, hshape := ⟨_, fun env => rfl⟩, hf := h83, hcode := h84, hrec := h85, hvs := h86, hfile := h87, hcell := h88, par1 := ⟨_, rfl, rfl⟩, kSuper := rfl, kClass := rfl, kSelf := rfl, kPar := rfl, kCell := by decide, kCo := rfl, kGen := rfl, kFn := rfl, neP := by decide, neD := by decide, top := h89, bind := fun us v => rfl, bindK := fun us v => rfl, cls := ⟨_, h90⟩, sub := h91, any := h92, sup := h93, subB := h94, init := h82, isF := h95, xi := h96, sa := h97, ov := h98, tk := h99, hd := h100 }
  have xk_TooMany : PySem.W.keepIn K (.ref c_TooMany) = true := h101
  have xb_TooMany : PySem.W.subIn K (.ref c_TooMany) (.type "BaseException") = some true := h102
  have xt_TooMany : PySem.W.typeIn K (.ref c_TooMany) = some (.type "type") := h103
  have z_enumerate : mg "enumerate" = none := PySem.W.mg_none_of X G h104
  let f_is_place : Addr := f105
  let fd_is_place : FuncData := PySem.W.fnOf "is_place" "is_place" (defArgs s_is_place) (defBody s_is_place) (defScope s_is_place) .none kV115 dc111 pm112 an109 cd113 ct114
  have F_is_place : Fun K "is_place" "is_place" s_is_place f_is_place fd_is_place := fun_mk (st := s_is_place) h116 h117 h118
  have g_is_place : mg "is_place" = some (.ref f_is_place) := PySem.W.mg_of X G h106
  have b_is_place : Binds K fd_is_place ["value"] [] := L2.Binds.all (ps := ["value"]) (fun us hl => match us, hl with | [_], _ => rfl)
  let f_is_integer : Addr := f119
  let fd_is_integer : FuncData := PySem.W.fnOf "is_integer" "is_integer" (defArgs s_is_integer) (defBody s_is_integer) (defScope s_is_integer) .none kV129 dc125 pm126 an123 cd127 ct128
  have F_is_integer : Fun K "is_integer" "is_integer" s_is_integer f_is_integer fd_is_integer := fun_mk (st := s_is_integer) h130 h131 h132
  have g_is_integer : mg "is_integer" = some (.ref f_is_integer) := PySem.W.mg_of X G h120
  have b_is_integer : Binds K fd_is_integer ["value", "lowest", "highest"] [] := L2.Binds.all (ps := ["value", "lowest", "highest"]) (fun us hl => match us, hl with | [_, _, _], _ => rfl)
  have z_isinstance : mg "isinstance" = none := PySem.W.mg_none_of X G h133
  have z_bool : mg "bool" = none := PySem.W.mg_none_of X G h134
  have z_int : mg "int" = none := PySem.W.mg_none_of X G h135
  have k_MOST_NUMBER : ∃ t, mg "MOST_NUMBER" = some (.int 999 t) := ⟨_, PySem.W.mg_of X G h137⟩
  let f_is_word : Addr := f138
  let fd_is_word : FuncData := PySem.W.fnOf "is_word" "is_word" (defArgs s_is_word) (defBody s_is_word) (defScope s_is_word) .none kV148 dc144 pm145 an142 cd146 ct147
  have F_is_word : Fun K "is_word" "is_word" s_is_word f_is_word fd_is_word := fun_mk (st := s_is_word) h149 h150 h151
  have g_is_word : mg "is_word" = some (.ref f_is_word) := PySem.W.mg_of X G h139
  have b_is_word : Binds K fd_is_word ["value"] [] := L2.Binds.all (ps := ["value"]) (fun us hl => match us, hl with | [_], _ => rfl)
  have z_all : mg "all" = none := PySem.W.mg_none_of X G h152
  have k_LETTERS : ∃ t, mg "LETTERS" = some (.str "abcdefghijklmnopqrstuvwxyz" t) := ⟨_, PySem.W.mg_of X G h154⟩
  have k_MOST_LETTERS : ∃ t, mg "MOST_LETTERS" = some (.int 8 t) := ⟨_, PySem.W.mg_of X G h156⟩
  have z_str : mg "str" = none := PySem.W.mg_none_of X G h157
  let c_BadPlace : Addr := a158
  have n_BadPlace : ClsN K "BadPlace" c_BadPlace := h159
  have m_BadPlace : mg "BadPlace" = some (.ref c_BadPlace) := PySem.W.mg_of X G h159
  let x_BadPlace : ExcK l.prog K c_BadPlace "index" "index" "ValueError" "ValueError.__init__" "ValueError.__new__" [.type "ValueError", .type "Exception", .type "BaseException", .type "object"] := { fI := fI160, oc := _, od := _, osl := _, name := "__init__", qual := "BadPlace.__init__", params := defArgs sx_BadPlace, body := defBody sx_BadPlace, scope := defScope sx_BadPlace, dV := _, kV := _, dc := _, pm := _, an := _, ct := _, cda := _, cc := _, ccl := _, cdd := _, vs := _, ccs := _, file := _, tf := _, cl := _, cld := _, csl := _, txt := _, j := _, ps := ps_BadPlace, hbody := rfl, hshape := ⟨_, fun env => rfl⟩, hf := h182, hcode := h183, hrec := h184, hvs := h185, hfile := h186, hcell := h187, par1 := ⟨_, rfl, rfl⟩, kSuper := rfl, kClass := rfl, kSelf := rfl, kPar := rfl, kCell := by decide, kCo := rfl, kGen := rfl, kFn := rfl, neP := by decide, neD := by decide, top := h188, bind := fun us v => rfl, bindK := fun us v => rfl, cls := ⟨_, h189⟩, sub := h190, any := h191, sup := h192, subB := h193, init := h181, isF := h194, xi := h195, sa := h196, ov := h197, tk := h198, hd := h199 }
  have xk_BadPlace : PySem.W.keepIn K (.ref c_BadPlace) = true := h200
  have xb_BadPlace : PySem.W.subIn K (.ref c_BadPlace) (.type "BaseException") = some true := h201
  have xt_BadPlace : PySem.W.typeIn K (.ref c_BadPlace) = some (.type "type") := h202
  have z_list : mg "list" = none := PySem.W.mg_none_of X G h203
  have mk_PartsList : Made K mg "PartsList" c_PartsList f_PartsList___init__ := ⟨⟨h204, me_PartsList___init__.at_, me_PartsList___init__.fn, h205⟩, n_PartsList, m_PartsList⟩
  let f_PartsList___mul__ : Addr := f206
  let fd_PartsList___mul__ : FuncData := PySem.W.fnOf "__mul__" "PartsList.__mul__" (defArgs s_PartsList___mul__) (defBody s_PartsList___mul__) (defScope s_PartsList___mul__) .none kV216 dc212 pm213 an210 cd214 ct215
  have F_PartsList___mul__ : Fun K "__mul__" "PartsList.__mul__" s_PartsList___mul__ f_PartsList___mul__ fd_PartsList___mul__ := fun_mk (st := s_PartsList___mul__) h217 h218 h219
  have me_PartsList___mul__ : Meth K c_PartsList "__mul__" f_PartsList___mul__ := ⟨h207, h220, h219⟩
  have b_PartsList___mul__ : Binds K fd_PartsList___mul__ ["self", "number"] [] := L2.Binds.all (ps := ["self", "number"]) (fun us hl => match us, hl with | [_, _], _ => rfl)
  let f_times : Addr := f221
  let fd_times : FuncData := PySem.W.fnOf "times" "times" (defArgs s_times) (defBody s_times) (defScope s_times) .none kV231 dc227 pm228 an225 cd229 ct230
  have F_times : Fun K "times" "times" s_times f_times fd_times := fun_mk (st := s_times) h232 h233 h234
  have g_times : mg "times" = some (.ref f_times) := PySem.W.mg_of X G h222
  have b_times : Binds K fd_times ["place", "number"] [] := L2.Binds.all (ps := ["place", "number"]) (fun us hl => match us, hl with | [_, _], _ => rfl)
  have du_PartsList___mul___Mult : Dun K c_PartsList f_PartsList___mul__ (PySem.dunder Operator.Mult.info.2) := ⟨h235, h236⟩
  have dr_PartsList_Mult : DunR K c_PartsList (dunderR Operator.Mult.info.2) := ⟨_, h238, h239⟩
  have sf_PartsList_Mult : PySem.W.selfFirst K c_PartsList = true := h240
  let f_PartsList___rmul__ : Addr := f241
  let fd_PartsList___rmul__ : FuncData := PySem.W.fnOf "__rmul__" "PartsList.__rmul__" (defArgs s_PartsList___rmul__) (defBody s_PartsList___rmul__) (defScope s_PartsList___rmul__) .none kV251 dc247 pm248 an245 cd249 ct250
  have F_PartsList___rmul__ : Fun K "__rmul__" "PartsList.__rmul__" s_PartsList___rmul__ f_PartsList___rmul__ fd_PartsList___rmul__ := fun_mk (st := s_PartsList___rmul__) h252 h253 h254
  have me_PartsList___rmul__ : Meth K c_PartsList "__rmul__" f_PartsList___rmul__ := ⟨h242, h255, h254⟩
  have b_PartsList___rmul__ : Binds K fd_PartsList___rmul__ ["self", "number"] [] := L2.Binds.all (ps := ["self", "number"]) (fun us hl => match us, hl with | [_, _], _ => rfl)
  have rm_PartsList : RMul K c_PartsList f_PartsList___mul__ f_PartsList___rmul__ := ⟨h256, h257, h258, h259, h260, h261⟩
  let f_PartsList___add__ : Addr := f262
  let fd_PartsList___add__ : FuncData := PySem.W.fnOf "__add__" "PartsList.__add__" (defArgs s_PartsList___add__) (defBody s_PartsList___add__) (defScope s_PartsList___add__) .none kV272 dc268 pm269 an266 cd270 ct271
  have F_PartsList___add__ : Fun K "__add__" "PartsList.__add__" s_PartsList___add__ f_PartsList___add__ fd_PartsList___add__ := fun_mk (st := s_PartsList___add__) h273 h274 h275
  have me_PartsList___add__ : Meth K c_PartsList "__add__" f_PartsList___add__ := ⟨h263, h276, h275⟩
  have b_PartsList___add__ : Binds K fd_PartsList___add__ ["self", "other"] [] := L2.Binds.all (ps := ["self", "other"]) (fun us hl => match us, hl with | [_, _], _ => rfl)
  let f_check_list : Addr := f277
  let fd_check_list : FuncData := PySem.W.fnOf "check_list" "check_list" (defArgs s_check_list) (defBody s_check_list) (defScope s_check_list) .none kV287 dc283 pm284 an281 cd285 ct286
  have F_check_list : Fun K "check_list" "check_list" s_check_list f_check_list fd_check_list := fun_mk (st := s_check_list) h288 h289 h290
  have g_check_list : mg "check_list" = some (.ref f_check_list) := PySem.W.mg_of X G h278
  have b_check_list : Binds K fd_check_list ["value"] [] := L2.Binds.all (ps := ["value"]) (fun us hl => match us, hl with | [_], _ => rfl)
  have it_PartsList : InsT K c_PartsList := ⟨p_PartsList.cls, h291, h292, h293, h294⟩
  have is_PartsList : IsC K "PartsList" c_PartsList := IsC.of n_PartsList h296 h297
  have sc_PartsList : SubC K c_PartsList [("PartsList", true)] := (SubC.cons n_PartsList it_PartsList h298 SubC.nil)
  let c_BadList : Addr := a299
  have n_BadList : ClsN K "BadList" c_BadList := h300
  have m_BadList : mg "BadList" = some (.ref c_BadList) := PySem.W.mg_of X G h300
  let x_BadList : ExcK l.prog K c_BadList "value" "value" "ValueError" "ValueError.__init__" "ValueError.__new__" [.type "ValueError", .type "Exception", .type "BaseException", .type "object"] := { fI := fI301, oc := _, od := _, osl := _, name := "__init__", qual := "BadList.__init__", params := defArgs sx_BadList, body := defBody sx_BadList, scope := defScope sx_BadList, dV := _, kV := _, dc := _, pm := _, an := _, ct := _, cda := _, cc := _, ccl := _, cdd := _, vs := _, ccs := _, file := _, tf := _, cl := _, cld := _, csl := _, txt := _, j := _, ps := ps_BadList, hbody := rfl, hshape := ⟨_, fun env => rfl⟩, hf := h323, hcode := h324, hrec := h325, hvs := h326, hfile := h327, hcell := h328, par1 := ⟨_, rfl, rfl⟩, kSuper := rfl, kClass := rfl, kSelf := rfl, kPar := rfl, kCell := by decide, kCo := rfl, kGen := rfl, kFn := rfl, neP := by decide, neD := by decide, top := h329, bind := fun us v => rfl, bindK := fun us v => rfl, cls := ⟨_, h330⟩, sub := h331, any := h332, sup := h333, subB := h334, init := h322, isF := h335, xi := h336, sa := h337, ov := h338, tk := h339, hd := h340 }
  have xk_BadList : PySem.W.keepIn K (.ref c_BadList) = true := h341
  have xb_BadList : PySem.W.subIn K (.ref c_BadList) (.type "BaseException") = some true := h342
  have xt_BadList : PySem.W.typeIn K (.ref c_BadList) = some (.type "type") := h343
  have du_PartsList___add___Add : Dun K c_PartsList f_PartsList___add__ (PySem.dunder Operator.Add.info.2) := ⟨h344, h345⟩
  have dr_PartsList_Add : DunR K c_PartsList (dunderR Operator.Add.info.2) := ⟨_, h347, h348⟩
  have sf_PartsList_Add : PySem.W.selfFirst K c_PartsList = true := h349
  let c_PartsError : Addr := a350
  have n_PartsError : ClsN K "PartsError" c_PartsError := h351
  have m_PartsError : mg "PartsError" = some (.ref c_PartsError) := PySem.W.mg_of X G h351
  have ec_BadPlace : L2.ExcC K c_BadPlace := ⟨h352, h353, h354, h355, h356, h357, h358, h359⟩
  have sx_PartsError_BadPlace : SubX K (.ref c_PartsError) [("BadPlace", true)] := (SubX.cons n_BadPlace ec_BadPlace h360 SubX.nil)
  have xc_BadPlace : XfC K c_BadPlace := ⟨h361, h362, h363, h364⟩
  have xf_BadPlace_index : XFld K "BadPlace" c_BadPlace "index" := ⟨n_BadPlace, xc_BadPlace, h365⟩
  have tb_BadPlace : TabOk K (.ref c_BadPlace) tab_BadPlace := (TabOk.cons n_TooMany h368 (TabOk.cons n_BadPlace h367 (TabOk.cons n_BadList h366 TabOk.nil)))
  have ec_BadList : L2.ExcC K c_BadList := ⟨h369, h370, h371, h372, h373, h374, h375, h376⟩
  have sx_PartsError_BadList : SubX K (.ref c_PartsError) [("BadList", true)] := (SubX.cons n_BadList ec_BadList h377 SubX.nil)
  have z_repr : mg "repr" = none := PySem.W.mg_none_of X G h378
  have xc_BadList : XfC K c_BadList := ⟨h379, h380, h381, h382⟩
  have xf_BadList_value : XFld K "BadList" c_BadList "value" := ⟨n_BadList, xc_BadList, h383⟩
  have tb_BadList : TabOk K (.ref c_BadList) tab_BadList := (TabOk.cons n_TooMany h386 (TabOk.cons n_BadPlace h385 (TabOk.cons n_BadList h384 TabOk.nil)))
  have z_OverflowError : mg "OverflowError" = none := PySem.W.mg_none_of X G h387
  have ec_TooMany : L2.ExcC K c_TooMany := ⟨h388, h389, h390, h391, h392, h393, h394, h395⟩
  have sx_OverflowError_TooMany : SubX K (.type "OverflowError") [("TooMany", true)] := (SubX.cons n_TooMany ec_TooMany h396 SubX.nil)
  have xc_TooMany : XfC K c_TooMany := ⟨h397, h398, h399, h400⟩
  have xf_TooMany_limit : XFld K "TooMany" c_TooMany "limit" := ⟨n_TooMany, xc_TooMany, h401⟩
  have tb_TooMany : TabOk K (.ref c_TooMany) tab_TooMany := (TabOk.cons n_TooMany h404 (TabOk.cons n_BadPlace h403 (TabOk.cons n_BadList h402 TabOk.nil)))
  let f__law_draw : Addr := f405
  let fd__law_draw : FuncData := PySem.W.fnOf "_law_draw" "_law_draw" (defArgs s__law_draw) (defBody s__law_draw) (defScope s__law_draw) .none kV415 dc411 pm412 an409 cd413 ct414
  have F__law_draw : Fun K "_law_draw" "_law_draw" s__law_draw f__law_draw fd__law_draw := fun_mk (st := s__law_draw) h416 h417 h418
  have g__law_draw : mg "_law_draw" = some (.ref f__law_draw) := PySem.W.mg_of X G h406
  have b__law_draw : Binds K fd__law_draw ["_law_pool_here", "_law_many"] [] := L2.Binds.all (ps := ["_law_pool_here", "_law_many"]) (fun us hl => match us, hl with | [_, _], _ => rfl)
  let f__law_pool : Addr := f419
  let fd__law_pool : FuncData := PySem.W.fnOf "_law_pool" "_law_pool" (defArgs s__law_pool) (defBody s__law_pool) (defScope s__law_pool) .none kV429 dc425 pm426 an423 cd427 ct428
  have F__law_pool : Fun K "_law_pool" "_law_pool" s__law_pool f__law_pool fd__law_pool := fun_mk (st := s__law_pool) h430 h431 h432
  have g__law_pool : mg "_law_pool" = some (.ref f__law_pool) := PySem.W.mg_of X G h420
  have b__law_pool : Binds K fd__law_pool ["_law_script", "_law_k"] [] := L2.Binds.all (ps := ["_law_script", "_law_k"]) (fun us hl => match us, hl with | [_, _], _ => rfl)
  have z_abs : mg "abs" = none := PySem.W.mg_none_of X G h433
  have z_sum : mg "sum" = none := PySem.W.mg_none_of X G h434
  let T : Tx l.prog K mg := { f_law := f_law, fd_law := fd_law, F_law := F_law, g_law := g_law, b_law := b_law, z_max := z_max, z_min := z_min, z_len := z_len, z_range := z_range, f__law_refused := f__law_refused, fd__law_refused := fd__law_refused, F__law_refused := F__law_refused, g__law_refused := g__law_refused, b__law_refused := b__law_refused, c_PartsList := c_PartsList, n_PartsList := n_PartsList, m_PartsList := m_PartsList, f_PartsList___init__ := f_PartsList___init__, fd_PartsList___init__ := fd_PartsList___init__, F_PartsList___init__ := F_PartsList___init__, me_PartsList___init__ := me_PartsList___init__, b_PartsList___init__ := b_PartsList___init__, z_tuple := z_tuple, p_PartsList := p_PartsList, na_PartsList_own_places := na_PartsList_own_places, k_MOST_PLACES := k_MOST_PLACES, c_TooMany := c_TooMany, n_TooMany := n_TooMany, m_TooMany := m_TooMany, z_super := z_super, x_TooMany := x_TooMany, xk_TooMany := xk_TooMany, xb_TooMany := xb_TooMany, xt_TooMany := xt_TooMany, z_enumerate := z_enumerate, f_is_place := f_is_place, fd_is_place := fd_is_place, F_is_place := F_is_place, g_is_place := g_is_place, b_is_place := b_is_place, f_is_integer := f_is_integer, fd_is_integer := fd_is_integer, F_is_integer := F_is_integer, g_is_integer := g_is_integer, b_is_integer := b_is_integer, z_isinstance := z_isinstance, z_bool := z_bool, z_int := z_int, k_MOST_NUMBER := k_MOST_NUMBER, f_is_word := f_is_word, fd_is_word := fd_is_word, F_is_word := F_is_word, g_is_word := g_is_word, b_is_word := b_is_word, z_all := z_all, k_LETTERS := k_LETTERS, k_MOST_LETTERS := k_MOST_LETTERS, z_str := z_str, c_BadPlace := c_BadPlace, n_BadPlace := n_BadPlace, m_BadPlace := m_BadPlace, x_BadPlace := x_BadPlace, xk_BadPlace := xk_BadPlace, xb_BadPlace := xb_BadPlace, xt_BadPlace := xt_BadPlace, z_list := z_list, mk_PartsList := mk_PartsList, f_PartsList___mul__ := f_PartsList___mul__, fd_PartsList___mul__ := fd_PartsList___mul__, F_PartsList___mul__ := F_PartsList___mul__, me_PartsList___mul__ := me_PartsList___mul__, b_PartsList___mul__ := b_PartsList___mul__, f_times := f_times, fd_times := fd_times, F_times := F_times, g_times := g_times, b_times := b_times, du_PartsList___mul___Mult := du_PartsList___mul___Mult, dr_PartsList_Mult := dr_PartsList_Mult, sf_PartsList_Mult := sf_PartsList_Mult, f_PartsList___rmul__ := f_PartsList___rmul__, fd_PartsList___rmul__ := fd_PartsList___rmul__, F_PartsList___rmul__ := F_PartsList___rmul__, me_PartsList___rmul__ := me_PartsList___rmul__, b_PartsList___rmul__ := b_PartsList___rmul__, rm_PartsList := rm_PartsList, f_PartsList___add__ := f_PartsList___add__, fd_PartsList___add__ := fd_PartsList___add__, F_PartsList___add__ := F_PartsList___add__, me_PartsList___add__ := me_PartsList___add__, b_PartsList___add__ := b_PartsList___add__, f_check_list := f_check_list, fd_check_list := fd_check_list, F_check_list := F_check_list, g_check_list := g_check_list, b_check_list := b_check_list, it_PartsList := it_PartsList, is_PartsList := is_PartsList, sc_PartsList := sc_PartsList, c_BadList := c_BadList, n_BadList := n_BadList, m_BadList := m_BadList, x_BadList := x_BadList, xk_BadList := xk_BadList, xb_BadList := xb_BadList, xt_BadList := xt_BadList, du_PartsList___add___Add := du_PartsList___add___Add, dr_PartsList_Add := dr_PartsList_Add, sf_PartsList_Add := sf_PartsList_Add, c_PartsError := c_PartsError, n_PartsError := n_PartsError, m_PartsError := m_PartsError, ec_BadPlace := ec_BadPlace, sx_PartsError_BadPlace := sx_PartsError_BadPlace, xc_BadPlace := xc_BadPlace, xf_BadPlace_index := xf_BadPlace_index, tb_BadPlace := tb_BadPlace, ec_BadList := ec_BadList, sx_PartsError_BadList := sx_PartsError_BadList, z_repr := z_repr, xc_BadList := xc_BadList, xf_BadList_value := xf_BadList_value, tb_BadList := tb_BadList, z_OverflowError := z_OverflowError, ec_TooMany := ec_TooMany, sx_OverflowError_TooMany := sx_OverflowError_TooMany, xc_TooMany := xc_TooMany, xf_TooMany_limit := xf_TooMany_limit, tb_TooMany := tb_TooMany, f__law_draw := f__law_draw, fd__law_draw := fd__law_draw, F__law_draw := F__law_draw, g__law_draw := g__law_draw, b__law_draw := b__law_draw, f__law_pool := f__law_pool, fd__law_pool := fd__law_pool, F__law_pool := F__law_pool, g__law_pool := g__law_pool, b__law_pool := b__law_pool, z_abs := z_abs, z_sum := z_sum }
  exact ⟨T.fd_law, fun s v => .of_eq rfl, fun base _ _ => ok_law T⟩
end Mir.Lk06

namespace Mir.Lk06
open PySem PySem.Spec PyProof.Rows L2 Mir
def PoolOk (a b : Int) : Prop := 0 ≤ a ∧ 0 ≤ b ∧ b < 2147483647
theorem at20 (x y : D) : atI [x, y] 0 = some x := rfl
theorem at21 (x y : D) : atI [x, y] 1 = some y := rfl
theorem draw_spec (a b many : Int) (h : PoolOk a b) (hm : 0 < many) (hz : many.natAbs.log2 < 9000) : ∃ r a' b', m__law_draw [.b (.lst [.int a, .int b]), .v (.int many)] = some (.ok (.d (.int r)), [.b (.lst [.int a', .int b']), .v (.int many)]) ∧ PoolOk a' b' ∧ 0 ≤ r ∧ r < many := by
  unfold m__law_draw g__law_draw
  obtain ⟨h1, h2, h3⟩ := h
  by_cases ha : 0 < a
  · refine ⟨a % many, a / many, b, ?_, ⟨Int.ediv_nonneg h1 (Int.le_of_lt hm), h2, h3⟩, Int.emod_nonneg _ (by omega), Int.emod_lt_of_pos _ hm⟩
    simp [oIx4, sPutA, putAt, isObj, Sl.mo, Sl.put, at20, at21, ha, oMod_i, oFdiv_i, hm, hz, kPI, kPI2, ixN, backs]
  · refine ⟨((b * 48271 + 11) % 2147483647 * ((b * 48271 + 11) % 2147483647)) % 2147483629 / 16 % many, a, (b * 48271 + 11) % 2147483647, ?_, ⟨h1, Int.emod_nonneg _ (by omega), Int.emod_lt_of_pos _ (by omega)⟩, Int.emod_nonneg _ (by omega), Int.emod_lt_of_pos _ hm⟩
    have q1 : -(2 ^ 64) < (b * 48271 + 11) % 2147483647 := by omega
    have q2 : (b * 48271 + 11) % 2147483647 < 2 ^ 64 := by omega
    have q3 : (16 : Nat).log2 < 9000 := by decide
    simp [oIx4, sPutA, putAt, isObj, Sl.mo, Sl.put, at20, at21, ha, oMod_i, oFdiv_i, hm, hz, kPI, kPI2, ixN, backs, oMul_r, oMul_r _ _ q1 q2, q3]
theorem cut63 (ns : List Int) (h : ns.length ≤ 63) : cutD (ns.map D.int) none (some 63) = ns.map D.int := by
  unfold cutD
  rw [HT.sIx_none, show HT.sIx (ns.map D.int).length (ns.map D.int).length (some 63) = min 63 (ns.map D.int).length from HT.sIx_nat _ _ 63]
  simp
  have : min 63 ns.length = ns.length := by omega
  rw [this, ← List.map_take, List.take_length]
theorem pool_spec (ns : List Int) (k : Nat) (hl : ns.length ≤ 63) (hk : k ≤ 4) : ∃ a b, m__law_pool [.v (.frl (ns.map .int)), .v (.int k)] = some (.ok (.o (.lst [.int a, .int b])), [.v (.frl (ns.map .int)), .v (.int k)]) ∧ PoolOk a b := by
  unfold m__law_pool g__law_pool
  have q0 : -(2 ^ 64) < (k : Int) := by omega
  have q1 : (k : Int) < 2 ^ 64 := by omega
  have k0 := oMul_r (7919 * k) k q0 q1
  have p18 : oPow (.int 10) (.int 18) = some (.int (10 ^ 18)) := by rfl
  have one : ∀ s : Int, oMul (.int s) (.int 1) = some (.int s) := fun s => by rw [oMul_r _ _ (by omega) (by omega)]; simp
  have zero : ∀ s : Int, oMul (.int s) (.int 0) = some (.int 0) := fun s => by rw [oMul_r _ _ (by omega) (by omega)]; simp
  have nn : ∀ c : Int, 0 ≤ (if c < 0 then -c else c) := fun c => by split <;> omega
  have mm : ∀ x : Int, oMul (.int (x % 2147483647)) (.int (x % 2147483647)) = some (.int (x % 2147483647 * (x % 2147483647))) := fun x => oMul_r _ _ (by omega) (by omega)
  have pk : ∀ a x : Int, 0 ≤ a → PoolOk a (x % 2147483629) := fun a x h => ⟨h, Int.emod_nonneg _ (by omega), by have := Int.emod_lt_of_pos x (show (0 : Int) < 2147483629 by omega); omega⟩
  by_cases hc : (k : Int) < ns.length
  · have hk2 : k < ns.length := by omega
    have at1 : atI (ns.map D.int) (k : Int) = some (.int ns[k]) := by
      unfold atI ixN
      simp [hk2]
    simp [oIx4, hc, at1, oMul_l, oMul_r, q0, q1, oMod_i]
    generalize hs : (if ns[k] < 0 then -ns[k] else ns[k]) = s
    have hs0 : 0 ≤ s := hs ▸ nn ns[k]
    by_cases h18 : (10 ^ 18 : Int) ≤ s
    · have h18' : (1000000000000000000 : Int) ≤ s := h18
      simp [oIx4, k0, oMul_l, oMul_r, p18, h18', one, zero, mm, oMod_i, kL_some, backs]
      exact ⟨_, _, ⟨rfl, rfl⟩, pk _ _ hs0⟩
    · have h18' : ¬ (1000000000000000000 : Int) ≤ s := h18
      simp [oIx4, k0, oMul_l, oMul_r, p18, h18', one, zero, mm, oMod_i, kL_some, backs]
      exact ⟨_, _, ⟨rfl, rfl⟩, pk _ _ (Int.le_refl 0)⟩
  · simp [oIx4, hc, cut63 ns hl, oMul_l, oMul_r, q0, q1, oMod_i]
    generalize hs : (if 7 * ns.sum + (k : Int) < 0 then -(7 * ns.sum + (k : Int)) else 7 * ns.sum + (k : Int)) = s
    have hs0 : 0 ≤ s := hs ▸ nn _
    by_cases h18 : (10 ^ 18 : Int) ≤ s
    · have h18' : (1000000000000000000 : Int) ≤ s := h18
      simp [oIx4, k0, oMul_l, oMul_r, p18, h18', one, zero, mm, oMod_i, kL_some, backs]
      exact ⟨_, _, ⟨rfl, rfl⟩, pk _ _ hs0⟩
    · have h18' : ¬ (1000000000000000000 : Int) ≤ s := h18
      simp [oIx4, k0, oMul_l, oMul_r, p18, h18', one, zero, mm, oMod_i, kL_some, backs]
      exact ⟨_, _, ⟨rfl, rfl⟩, pk _ _ (Int.le_refl 0)⟩
end Mir.Lk06

namespace Mir.Lk06
open PySem PySem.Spec PyProof.Rows L2 Mir
def good : List D := [.tup [.str "ac", .str "b", .int 1, .int 0], .tup [.str "ad", .str "b", .int 2, .int 1], .tup [.str "ae", .str "b", .int 3, .int 2], .tup [.str "af", .str "b", .int 4, .int 3], .tup [.str "ag", .str "b", .int 5, .int 4], .tup [.str "ah", .str "b", .int 6, .int 5], .tup [.str "ai", .str "b", .int 7, .int 6], .tup [.str "aj", .str "b", .int 8, .int 7], .tup [.str "ak", .str "b", .int 9, .int 8], .tup [.str "al", .str "b", .int 10, .int 9], .tup [.str "am", .str "b", .int 11, .int 10], .tup [.str "an", .str "b", .int 12, .int 11]]
def bads : List D := [.non, .int 5, .tup [.str "q", .str "b", .int 1], .lst [.str "q", .str "b", .int 1, .non], .tup [.str "Q", .str "b", .int 1, .non], .tup [.str "q", .str "", .int 1, .non], .tup [.str "q", .str "b", .int 0, .non], .tup [.str "q", .str "b", .int 1000, .non], .tup [.str "q", .str "b", .int 2, .int 3], .tup [.str "q", .str "b", .int 2, .int (-1)], .tup [.str "q", .str "b", .bl true, .non], .tup [.str "q", .str "b", .int 2, .bl true]]
def odds : List D := bads ++ [.tup [.str "ac", .str "b", .int 1, .int 0]]
def oneM (n : Int) : MO := .ins "PartsList" [("own_places", .tup [.tup [.str "x", .str "b", .int n, .non]])]
abbrev E (sc : D) (x1 : Sl) (k : D) (x4 x5 x6 x7 : Option Sl) : ME := [some (.v sc), some x1, some (.v (.lst bads)), some (.v k), x4, x5, x6, x7, none]
def pre : SF := sSeq l_law_28 (sSeq l_law_27 (sSeq l_law_26 l_law_25))
def rest : SF := sSeq l_law_16 (sSeq l_law_13 (sSeq l_law_12 (sSeq l_law_11 (sSeq l_law_7 (sSeq l_law_6 (sSeq l_law_5 (sSeq l_law_2 (sSeq l_law_1 l_law_0))))))))
theorem pre0 (sc : D) : pre [some (.v sc), none, none, none, none, none, none, none, none] = some (.nx, [some (.v sc), some (.o (.lst good)), some (.v (.lst bads)), none, none, none, none, none, none]) := by kernel_rfl
theorem it20 (sc k : D) (x4 x5 x6 x7 : Option Sl) : (eOf4 (e2 (eD (eFrz 2)) (eD (eFz (eLst (eCons (eD (e2 (eD (eFrz 1)) (eD (eRet (.int 0))) fun x y => eOn2 x y oIx4)) (eRet []))))) fun x y => eOn2 x y oAdd)) (E sc (.v (.lst good)) k x4 x5 x6 x7)
    = some (.ok odds, E sc (.v (.lst good)) k x4 x5 x6 x7) := by kernel_rfl
theorem it20o (sc k : D) (x4 x5 x6 x7 : Option Sl) : (eOf4 (e2 (eD (eFrz 2)) (eD (eFz (eLst (eCons (eD (e2 (eD (eFrz 1)) (eD (eRet (.int 0))) fun x y => eOn2 x y oIx4)) (eRet []))))) fun x y => eOn2 x y oAdd)) (E sc (.o (.lst good)) k x4 x5 x6 x7)
    = some (.ok odds, E sc (.v (.lst good)) k x4 x5 x6 x7) := by kernel_rfl
theorem tab (sc k o1 : D) (x4 : Option Sl) : (odds.map fun o => (List.range 11).map fun r => l_law_17 (E sc (.v (.lst good)) k x4 (some (.v o1)) (some (.v o)) (some (.v (.int (1 + ((r : Nat) : Int)))))))
    = odds.map fun o => (List.range 11).map fun r => some (.nx, E sc (.v (.lst good)) k x4 (some (.v o1)) (some (.v o)) (some (.v (.int (1 + ((r : Nat) : Int)))))) := by kernel_rfl
theorem tabO (sc k : D) (n : Int) (x4 : Option Sl) : (odds.map fun o => (List.range 11).map fun r => l_law_17 (E sc (.v (.lst good)) k x4 (some (.o (oneM n))) (some (.v o)) (some (.v (.int (1 + ((r : Nat) : Int)))))))
    = odds.map fun o => (List.range 11).map fun r => some (.nx, E sc (.v (.lst good)) k x4 (some (.v (oneM n).d)) (some (.v o)) (some (.v (.int (1 + ((r : Nat) : Int)))))) := by kernel_rfl
theorem restN (sc k : D) (x4 x7 : Option Sl) : ((List.range 3).map fun n => rest (E sc (.v (.lst good)) k x4 (some (.v (oneM (1 + ((n : Nat) : Int))).d)) none x7))
    = (List.range 3).map fun n => some (.nx, E sc (.v (.lst good)) k x4 (some (.v (oneM (1 + ((n : Nat) : Int))).d)) (some (.v (.str "x"))) x7) := by kernel_rfl
theorem restV (sc k o : D) (x4 x7 : Option Sl) : ((List.range 3).map fun n => rest (E sc (.v (.lst good)) k x4 (some (.v (oneM (1 + ((n : Nat) : Int))).d)) (some (.v o)) x7))
    = (List.range 3).map fun n => some (.nx, E sc (.v (.lst good)) k x4 (some (.v (oneM (1 + ((n : Nat) : Int))).d)) (some (.v (.str "x"))) x7) := by kernel_rfl
end Mir.Lk06

namespace Mir.Lk06
open PySem PySem.Spec PyProof.Rows L2 Mir
theorem l22 (ns : List Int) (hl : ns.length ≤ 63) (k : Nat) (hk : k ≤ 4) (x1 : Sl) (x4 x5 x6 x7 : Option Sl) (h4 : isB [none, none, none, none, x4] 4 = false) : ∃ a b, PoolOk a b ∧ l_law_22 (E (.frl (ns.map .int)) x1 (.int k) x4 x5 x6 x7) = some (.nx, E (.frl (ns.map .int)) x1 (.int k) (some (.o (.lst [.int a, .int b]))) x5 x6 x7) := by
  obtain ⟨a, b, e, hp⟩ := pool_spec ns k hl hk
  refine ⟨a, b, hp, ?_⟩
  have c := eCall_of (fas := eCons (eD (eFrz 0)) (eCons (eD (eFrz 3)) (eRet []))) (e := E (.frl (ns.map .int)) x1 (.int k) x4 x5 x6 x7) (as := [.d (.frl (ns.map .int)), .d (.int k)]) (e1 := E (.frl (ns.map .int)) x1 (.int k) x4 x5 x6 x7) (sl := [.v (.frl (ns.map .int)), .v (.int k)]) rfl (by show ([] : List Nat).Nodup; decide) rfl e
  refine sBind_of c ?_
  show (if isB _ 4 = true then none else _) = _
  rw [show isB (putB (E (.frl (ns.map .int)) x1 (.int k) x4 x5 x6 x7) [.d (.frl (ns.map .int)), .d (.int k)] [.v (.frl (ns.map .int)), .v (.int k)]) 4 = false from h4]
  rfl
theorem draw4 (many : Int) (a b : Int) (h : PoolOk a b) (hm : 0 < many) (hz : many.natAbs.log2 < 9000) (sc k : D) (x1 : Sl) (x5 x6 x7 : Option Sl) : ∃ (r : Nat) (a' b' : Int), (r : Int) < many ∧ PoolOk a' b' ∧
    (e2 (eD (eRet (.int 1))) (eD (eFz (eCall m__law_draw (eCons (eName 4) (eCons (eD (eRet (.int many))) (eRet [])))))) fun x y => eOn2 x y oAdd) (E sc x1 k (some (.o (.lst [.int a, .int b]))) x5 x6 x7) = some (.ok (.int (1 + (r : Int))), E sc x1 k (some (.o (.lst [.int a', .int b']))) x5 x6 x7) := by
  obtain ⟨r, a', b', e, hp, h0, h1⟩ := draw_spec a b many h hm hz
  refine ⟨r.toNat, a', b', by omega, hp, ?_⟩
  have er : ((r.toNat : Nat) : Int) = r := by omega
  rw [er]
  have c := eCall_of (fas := eCons (eName 4) (eCons (eD (eRet (.int many))) (eRet []))) (e := E sc x1 k (some (.o (.lst [.int a, .int b]))) x5 x6 x7) (as := [.own 4, .d (.int many)]) (e1 := E sc x1 k (some (.o (.lst [.int a, .int b]))) x5 x6 x7) (sl := [.b (.lst [.int a, .int b]), .v (.int many)]) rfl (by show [4].Nodup; decide) rfl e
  have c2 : eFz (eCall m__law_draw (eCons (eName 4) (eCons (eD (eRet (.int many))) (eRet [])))) (E sc x1 k (some (.o (.lst [.int a, .int b]))) x5 x6 x7) = some (.ok (.int r), E sc x1 k (some (.o (.lst [.int a', .int b']))) x5 x6 x7) := eBind_of c rfl
  have c3 : eD (eFz (eCall m__law_draw (eCons (eName 4) (eCons (eD (eRet (.int many))) (eRet []))))) (E sc x1 k (some (.o (.lst [.int a, .int b]))) x5 x6 x7) = some (.ok (.d (.int r)), E sc x1 k (some (.o (.lst [.int a', .int b']))) x5 x6 x7) := eBind_of c2 rfl
  exact eBind_of (f := eD (eRet (.int 1))) rfl (eBind_of c3 rfl)
theorem l18 (sc k : D) (a b : Int) (x1 : Sl) (x5 x6 x7 : Option Sl) (h7 : Vs x7) (h : PoolOk a b) : ∃ (r : Nat) (a' b' : Int), r < 11 ∧ PoolOk a' b' ∧ l_law_18 (E sc x1 k (some (.o (.lst [.int a, .int b]))) x5 x6 x7) = some (.nx, E sc x1 k (some (.o (.lst [.int a', .int b']))) x5 x6 (some (.v (.int (1 + (r : Int)))))) := by
  obtain ⟨r, a', b', hr, hp, c⟩ := draw4 11 a b h (by decide) (by decide) sc k x1 x5 x6 x7
  refine ⟨r, a', b', by omega, hp, sBind_of c ?_⟩
  rcases h7 with rfl | ⟨d, rfl⟩ <;> rfl
theorem mk21 (sc k : D) (x1 : Sl) (x4 x5 x6 x7 : Option Sl) (n : Nat) (hn : n < 3) (h5 : Vs x5) : sBind (eMake "PartsList" m_PartsList___init__ [] (eRet [.d (.lst [.tup [.str "x", .str "b", .int (1 + (n : Int)), .non]])])) (putF 5) (E sc x1 k x4 x5 x6 x7) = some (.nx, E sc x1 k x4 (some (.o (oneM (1 + (n : Int))))) x6 x7) := by
  have : n = 0 ∨ n = 1 ∨ n = 2 := by omega
  rcases this with rfl | rfl | rfl <;> rcases h5 with rfl | ⟨d, rfl⟩ <;> kernel_rfl
theorem l21 (sc k : D) (a b : Int) (x1 : Sl) (x5 x6 x7 : Option Sl) (h5 : Vs x5) (h : PoolOk a b) : ∃ (n : Nat) (a' b' : Int), n < 3 ∧ PoolOk a' b' ∧ l_law_21 (E sc x1 k (some (.o (.lst [.int a, .int b]))) x5 x6 x7) = some (.nx, E sc x1 k (some (.o (.lst [.int a', .int b']))) (some (.o (oneM (1 + (n : Int))))) x6 x7) := by
  obtain ⟨r, a', b', e, hp, h0, h1⟩ := draw_spec a b 3 h (by decide) (by decide)
  refine ⟨r.toNat, a', b', by omega, hp, ?_⟩
  have er : ((r.toNat : Nat) : Int) = r := by omega
  have kt : ∀ (l : List D) (e : ME), l.length ≤ 6 → kT (some l) e = some (.ok (.tup l), e) := fun l e hl => kT_some _ _ (Nat.le_trans hl (by decide))
  have kl : ∀ (l : List D) (e : ME), l.length ≤ 6 → kL (some l) e = some (.ok (.o (.lst l)), e) := fun l e hl => kL_some _ _ (Nat.le_trans hl (by decide))
  have args : (eCons (eD (eFz (eLst (eCons (eD (eTup (eCons (eD (eRet (.str "x"))) (eCons (eD (eRet (.str "b"))) (eCons (eD (e2 (eD (eRet (.int 1))) (eD (eFz (eCall m__law_draw (eCons (eName 4) (eCons (eD (eRet (.int 3))) (eRet [])))))) fun x y => eOn2 x y oAdd)) (eCons (eD (eRet .non)) (eRet []))))))) (eRet []))))) (eRet [])) (E sc x1 k (some (.o (.lst [.int a, .int b]))) x5 x6 x7)
      = some (.ok [.d (.lst [.tup [.str "x", .str "b", .int (1 + r), .non]])], E sc x1 k (some (.o (.lst [.int a', .int b']))) x5 x6 x7) := by
    simp [e, kt, kl]
  have q := mk21 sc k x1 (some (.o (.lst [.int a', .int b']))) x5 x6 x7 r.toNat (by omega) h5
  rw [er] at q ⊢
  rw [← q]
  unfold l_law_21 sSetF sBind
  rw [show ∀ fas, eMake "PartsList" m_PartsList___init__ [] fas = eBind fas _ from fun _ => rfl, eBind_of args rfl]
  rfl
theorem gSl6 (sc k d : D) (x1 : Sl) (x4 x5 x6 x7 : Option Sl) (h : Vs x6) : gSl 6 d (E sc x1 k x4 x5 x6 x7) = some (E sc x1 k x4 x5 (some (.v d)) x7) := by
  rcases h with rfl | ⟨c, rfl⟩ <;> rfl
/-- the one list, owned or frozen -/
def One (n : Nat) (x : Option Sl) : Prop := x = some (.o (oneM (1 + (n : Int)))) ∨ x = some (.v (oneM (1 + (n : Int))).d)
theorem loop20 (sc k : D) (a b : Int) (h : PoolOk a b) (n : Nat) (x5 x6 x7 : Option Sl) (h5 : One n x5) (h6 : Vs x6) (h7 : Vs x7) : ∃ a' b' y5 y6 y7, PoolOk a' b' ∧ One n y5 ∧ Vs y6 ∧ Vs y7 ∧
    sLoop (gSl 6) l_law_19 odds (E sc (.v (.lst good)) k (some (.o (.lst [.int a, .int b]))) x5 x6 x7) = some (.nx, E sc (.v (.lst good)) k (some (.o (.lst [.int a', .int b']))) y5 y6 y7) ∧ y5 = some (.v (oneM (1 + (n : Int))).d) := by
  obtain ⟨o0, os, ho⟩ : ∃ o0 os, odds = o0 :: os := ⟨_, _, rfl⟩
  have step : ∀ o ∈ odds, ∀ a b y5 y6 y7, PoolOk a b → One n y5 → Vs y6 → Vs y7 → ∃ a2 b2 r, PoolOk a2 b2 ∧ gSl 6 o (E sc (.v (.lst good)) k (some (.o (.lst [.int a, .int b]))) y5 y6 y7) = some (E sc (.v (.lst good)) k (some (.o (.lst [.int a, .int b]))) y5 (some (.v o)) y7) ∧
      l_law_19 (E sc (.v (.lst good)) k (some (.o (.lst [.int a, .int b]))) y5 (some (.v o)) y7) = some (.nx, E sc (.v (.lst good)) k (some (.o (.lst [.int a2, .int b2]))) (some (.v (oneM (1 + (n : Int))).d)) (some (.v o)) (some (.v (.int (1 + ((r : Nat) : Int)))))) := by
    intro o ho a b y5 y6 y7 hp q5 q6 q7
    obtain ⟨r, a2, b2, hr, hp2, e18⟩ := l18 sc k a b (.v (.lst good)) y5 (some (.v o)) y7 q7 hp
    refine ⟨a2, b2, r, hp2, gSl6 sc k o _ _ _ _ _ q6, ?_⟩
    unfold l_law_19
    rw [seqN e18]
    rcases q5 with rfl | rfl
    · exact List.map_inj_left.mp (List.map_inj_left.mp (tabO sc k _ _) o ho) r (List.mem_range.mpr hr)
    · exact List.map_inj_left.mp (List.map_inj_left.mp (tab sc k _ _) o ho) r (List.mem_range.mpr hr)
  obtain ⟨a1, b1, r1, hp1, g1, e1⟩ := step o0 (by rw [ho]; exact List.mem_cons_self) a b x5 x6 x7 h h5 h6 h7
  obtain ⟨e', q, a', b', y6, y7, hp, q6, q7, rfl⟩ := sLoop_all (g := gSl 6) (b := l_law_19) (fun e => ∃ a b y6 y7, PoolOk a b ∧ Vs y6 ∧ Vs y7 ∧ e = E sc (.v (.lst good)) k (some (.o (.lst [.int a, .int b]))) (some (.v (oneM (1 + (n : Int))).d)) y6 y7) os (fun o hm e he => by
    obtain ⟨a, b, y6, y7, hp, q6, q7, rfl⟩ := he
    obtain ⟨a2, b2, r, hp2, g2, e2⟩ := step o (by rw [ho]; exact List.mem_cons_of_mem _ hm) a b _ y6 y7 hp (.inr rfl) q6 q7
    exact ⟨_, .nx, _, g2, e2, .inl rfl, ⟨a2, b2, _, _, hp2, .inr ⟨_, rfl⟩, .inr ⟨_, rfl⟩, rfl⟩⟩) (E sc (.v (.lst good)) k (some (.o (.lst [.int a1, .int b1]))) (some (.v (oneM (1 + (n : Int))).d)) (some (.v o0)) (some (.v (.int (1 + ((r1 : Nat) : Int)))))) ⟨a1, b1, _, _, hp1, .inr ⟨_, rfl⟩, .inr ⟨_, rfl⟩, rfl⟩
  refine ⟨a', b', _, y6, y7, hp, .inr rfl, q6, q7, ?_, rfl⟩
  rw [ho]
  unfold sLoop
  rw [g1]
  dsimp only
  rw [e1]
  exact q
end Mir.Lk06

namespace Mir.Lk06
open PySem PySem.Spec PyProof.Rows L2 Mir
theorem l20 (sc k : D) (a b : Int) (h : PoolOk a b) (n : Nat) (x1 : Sl) (h1 : x1 = .o (.lst good) ∨ x1 = .v (.lst good)) (x5 x6 x7 : Option Sl) (h5 : One n x5) (h6 : Vs x6) (h7 : Vs x7) : ∃ a' b' y6 y7, PoolOk a' b' ∧ Vs y6 ∧ Vs y7 ∧
    l_law_20 (E sc x1 k (some (.o (.lst [.int a, .int b]))) x5 x6 x7) = some (.nx, E sc (.v (.lst good)) k (some (.o (.lst [.int a', .int b']))) (some (.v (oneM (1 + (n : Int))).d)) y6 y7) := by
  obtain ⟨a', b', y5, y6, y7, hp, q5, q6, q7, q, rfl⟩ := loop20 sc k a b h n x5 x6 x7 h5 h6 h7
  refine ⟨a', b', y6, y7, hp, q6, q7, ?_⟩
  unfold l_law_20
  rcases h1 with rfl | rfl
  · rw [sFor_of (it20o sc k _ _ _ _)]
    exact q
  · rw [sFor_of (it20 sc k _ _ _ _)]
    exact q
theorem rest_all (sc k : D) (x4 x6 x7 : Option Sl) (n : Nat) (hn : n < 3) (h6 : Vs x6) : rest (E sc (.v (.lst good)) k x4 (some (.v (oneM (1 + (n : Int))).d)) x6 x7) = some (.nx, E sc (.v (.lst good)) k x4 (some (.v (oneM (1 + (n : Int))).d)) (some (.v (.str "x"))) x7) := by
  rcases h6 with rfl | ⟨o, rfl⟩
  · exact List.map_inj_left.mp (restN sc k x4 x7) n (List.mem_range.mpr hn)
  · exact List.map_inj_left.mp (restV sc k o x4 x7) n (List.mem_range.mpr hn)
/-- the slots between the passes -/
def P (ns : List Int) (e : ME) : Prop := (∃ x3, Vs x3 ∧ e = [some (.v (.frl (ns.map .int))), some (.o (.lst good)), some (.v (.lst bads)), x3, none, none, none, none, none]) ∨
  ∃ k p u x6 x7, Vs x6 ∧ Vs x7 ∧ e = E (.frl (ns.map .int)) (.v (.lst good)) k (some (.o p)) (some (.v u)) x6 x7
theorem split23 : l_law_23 = sSeq l_law_22 (sSeq l_law_21 (sSeq l_law_20 rest)) := rfl
theorem body (ns : List Int) (hl : ns.length ≤ 63) (k : Nat) (hk : k ≤ 3) (e : ME) (he : P ns e) : ∃ e1 e2, gSl 3 (.int k) e = some e1 ∧ l_law_23 e1 = some (.nx, e2) ∧ P ns e2 := by
  have go : ∀ (x1 : Sl) (x4 x5 x6 x7 : Option Sl), (x1 = .o (.lst good) ∨ x1 = .v (.lst good)) → isB [none, none, none, none, x4] 4 = false → Vs x5 → Vs x6 → Vs x7 → ∃ e2, l_law_23 (E (.frl (ns.map .int)) x1 (.int k) x4 x5 x6 x7) = some (.nx, e2) ∧ P ns e2 := by
    intro x1 x4 x5 x6 x7 h1 h4 h5 h6 h7
    obtain ⟨a, b, hp, e22⟩ := l22 ns hl k (by omega) x1 x4 x5 x6 x7 h4
    obtain ⟨n, a1, b1, hn, hp1, e21⟩ := l21 (.frl (ns.map .int)) (.int k) a b x1 x5 x6 x7 h5 hp
    obtain ⟨a2, b2, y6, y7, hp2, q6, q7, e20⟩ := l20 (.frl (ns.map .int)) (.int k) a1 b1 hp1 n x1 h1 _ x6 x7 (.inl rfl) h6 h7
    refine ⟨_, ?_, .inr ⟨.int k, .lst [.int a2, .int b2], (oneM (1 + (n : Int))).d, some (.v (.str "x")), y7, .inr ⟨_, rfl⟩, q7, rfl⟩⟩
    rw [split23, seqN e22, seqN e21, seqN e20]
    exact rest_all _ _ _ y6 y7 n hn q6
  rcases he with ⟨x3, h3, rfl⟩ | ⟨k0, p, u, x6, x7, h6, h7, rfl⟩
  · obtain ⟨e2, q, hP⟩ := go (.o (.lst good)) none none none none (.inl rfl) rfl (.inl rfl) (.inl rfl) (.inl rfl)
    refine ⟨E (.frl (ns.map .int)) (.o (.lst good)) (.int k) none none none none, e2, ?_, q, hP⟩
    rcases h3 with rfl | ⟨d, rfl⟩ <;> rfl
  · obtain ⟨e2, q, hP⟩ := go (.v (.lst good)) (some (.o p)) (some (.v u)) x6 x7 (.inr rfl) rfl (.inr ⟨_, rfl⟩) h6 h7
    exact ⟨E (.frl (ns.map .int)) (.v (.lst good)) (.int k) (some (.o p)) (some (.v u)) x6 x7, e2, rfl, q, hP⟩
theorem loopN (n : Nat) : ∃ m : Nat, (if (if 3 < (n : Int) then 3 else (n : Int)) > 1 then (if 3 < (n : Int) then 3 else (n : Int)) else 1) = (m : Int) ∧ m ≤ 3 := by
  by_cases h : n ≤ 1
  · refine ⟨1, ?_, by omega⟩
    rw [if_neg (show ¬ (3 : Int) < n by omega), if_neg (by omega)]
    rfl
  · by_cases h4 : n ≤ 3
    · refine ⟨n, ?_, h4⟩
      rw [if_neg (show ¬ (3 : Int) < n by omega), if_pos (by omega)]
    · refine ⟨3, ?_, by omega⟩
      rw [if_pos (show (3 : Int) < n by omega), if_pos (by omega)]
      rfl
theorem le1 (ns : List Int) (hl : ns.length ≤ 63) (m : Nat) (hm : m ≤ 3) : ∃ e', sLoop (gSl 3) l_law_23 (rng 0 m) [some (.v (.frl (ns.map .int))), some (.o (.lst good)), some (.v (.lst bads)), none, none, none, none, none, none] = some (.nx, e') := by
  obtain ⟨e', hL, _⟩ := sLoop_all (g := gSl 3) (b := l_law_23) (P ns) (rng 0 m) (fun d hd e he => by
    simp only [rng, List.mem_map, List.mem_range] at hd
    obtain ⟨k, hk, rfl⟩ := hd
    rw [Int.zero_add]
    obtain ⟨e1, e2, q1, q2, q3⟩ := body ns hl k (by omega) e he
    exact ⟨e1, .nx, e2, q1, q2, .inl rfl, q3⟩) _ (.inl ⟨none, .inl rfl, rfl⟩)
  exact ⟨e', hL⟩
theorem split_law : g_law = sSeq pre (sSeq l_law_24 (sRet (eDF (eRet (.bl true))))) := by
  unfold pre g_law
  rw [seqA, seqA, seqA]
theorem law_eval (ns : List Int) (hl : ns.length ≤ 63) (hb : ∀ z ∈ ns, Builtin.Int.intBits z ≤ 1048576) : ∃ as', m_law [.v (.frl (ns.map .int))] = some (.ok (.d (.bl true)), as') := by
  obtain ⟨m, hm, hm3⟩ := loopN ns.length
  obtain ⟨e', hL⟩ := le1 ns hl m hm3
  have hr := gRng1_ok (m : Int) (by omega) (by omega)
  refine ⟨backs [.v (.frl (ns.map .int))] e', ?_⟩
  have g : g_law [some (.v (.frl (ns.map .int))), none, none, none, none, none, none, none, none] = some (.ret (.d (.bl true)), e') := by
    rw [split_law, seqN (pre0 _)]
    unfold l_law_24
    simp -implicitDefEqProofs [hm, hr, hL]
  unfold m_law mDef
  rw [if_pos (show [Sl.v (D.frl (ns.map D.int))].length = 1 from rfl), show (List.map some [Sl.v (D.frl (ns.map D.int))] ++ List.replicate 8 none) = [some (.v (.frl (ns.map .int))), none, none, none, none, none, none, none, none] from rfl, g]
end Mir.Lk06

open PySem PySem.W PyProof.Rows
set_option maxHeartbeats 0 in
theorem PySem.Challenge.cw_standinparts_k06_lists_refused_holds : PySem.Challenge.rw_standinparts_k06_lists_refused.Holds := by
  w_on; o_law; k_head; (case hw => w_witness2)
  k_fill
  refine Mir.walk_ofG (l := PySem.Challenge.rw_standinparts_k06_lists_refused) (n := 63) (k := 8) (x := "_law_script") (CX := fun w => L2.CX (PySem.Challenge.rw_standinparts_k06_lists_refused).prog w) (sp := fun w => Mir.spM _ 1 Mir.Lk06.m_law) rfl (by decide) rfl (Mir.room_top.mono (by decide)) (fun w h Y => PySem.W.kIn_of Y) ?F (fun _ H a ns hl hb _ hS => Mir.law_done (Mir.Lk06.law_eval ns hl hb) hl hS) (fun _ _ _ _ _ h => Mir.cx_none h)
  case F =>
    intro w mg fa h KX G hmg
    refine' Mir.Lk06.all_mk rfl KX G hmg ?h2 ?h12 ?h13 ?h14 ?h15 ?h16 ?h17 ?h18 ?h20 ?h30 ?h31 ?h32 ?h34 ?h36 ?h46 ?h47 ?h48 ?h49 ?h50 ?h51 ?h52 ?h53 ?h54 ?h55 ?h57 ?h59 ?h60 ?h82 ?h83 ?h84 ?h85 ?h86 ?h87 ?h88 ?h89 ?h90 ?h91 ?h92 ?h93 ?h94 ?h95 ?h96 ?h97 ?h98 ?h99 ?h100 ?h101 ?h102 ?h103 ?h104 ?h106 ?h116 ?h117 ?h118 ?h120 ?h130 ?h131 ?h132 ?h133 ?h134 ?h135 ?h137 ?h139 ?h149 ?h150 ?h151 ?h152 ?h154 ?h156 ?h157 ?h159 ?h181 ?h182 ?h183 ?h184 ?h185 ?h186 ?h187 ?h188 ?h189 ?h190 ?h191 ?h192 ?h193 ?h194 ?h195 ?h196 ?h197 ?h198 ?h199 ?h200 ?h201 ?h202 ?h203 ?h204 ?h205 ?h207 ?h217 ?h218 ?h219 ?h220 ?h222 ?h232 ?h233 ?h234 ?h235 ?h236 ?h238 ?h239 ?h240 ?h242 ?h252 ?h253 ?h254 ?h255 ?h256 ?h257 ?h258 ?h259 ?h260 ?h261 ?h263 ?h273 ?h274 ?h275 ?h276 ?h278 ?h288 ?h289 ?h290 ?h291 ?h292 ?h293 ?h294 ?h296 ?h297 ?h298 ?h300 ?h322 ?h323 ?h324 ?h325 ?h326 ?h327 ?h328 ?h329 ?h330 ?h331 ?h332 ?h333 ?h334 ?h335 ?h336 ?h337 ?h338 ?h339 ?h340 ?h341 ?h342 ?h343 ?h344 ?h345 ?h347 ?h348 ?h349 ?h351 ?h352 ?h353 ?h354 ?h355 ?h356 ?h357 ?h358 ?h359 ?h360 ?h361 ?h362 ?h363 ?h364 ?h365 ?h366 ?h367 ?h368 ?h369 ?h370 ?h371 ?h372 ?h373 ?h374 ?h375 ?h376 ?h377 ?h378 ?h379 ?h380 ?h381 ?h382 ?h383 ?h384 ?h385 ?h386 ?h387 ?h388 ?h389 ?h390 ?h391 ?h392 ?h393 ?h394 ?h395 ?h396 ?h397 ?h398 ?h399 ?h400 ?h401 ?h402 ?h403 ?h404 ?h406 ?h416 ?h417 ?h418 ?h420 ?h430 ?h431 ?h432 ?h433 ?h434
    (case h2 => k_is)
    (case h12 => k_is)
    (case h13 => k_is)
    (case h14 => k_is)
    (case h15 => k_is)
    (case h16 => k_is)
    (case h17 => k_is)
    (case h18 => k_is)
    (case h20 => k_is)
    (case h30 => k_is)
    (case h31 => k_is)
    (case h32 => k_is)
    (case h34 => k_is)
    (case h36 => k_is)
    (case h46 => k_is)
    (case h47 => k_is)
    (case h48 => k_is)
    (case h49 => k_is)
    (case h50 => k_is)
    (case h51 => k_is)
    (case h52 => k_is)
    (case h53 => k_is)
    (case h54 => k_is)
    (case h55 => k_is)
    (case h57 => k_is)
    (case h59 => k_is)
    (case h60 => k_is)
    (case h82 => k_is)
    (case h83 => k_is)
    (case h84 => k_is)
    (case h85 => k_is)
    (case h86 => rfl)
    (case h87 => kernel_rfl)
    (case h88 => k_is)
    (case h89 => kernel_rfl)
    (case h90 => k_is)
    (case h91 => k_is)
    (case h92 => k_is)
    (case h93 => kernel_rfl)
    (case h94 => k_is)
    (case h95 => k_is)
    (case h96 => kernel_rfl)
    (case h97 => k_is)
    (case h98 => kernel_rfl)
    (case h99 => k_is)
    (case h100 => k_is)
    (case h101 => k_is)
    (case h102 => k_is)
    (case h103 => k_is)
    (case h104 => k_is)
    (case h106 => k_is)
    (case h116 => k_is)
    (case h117 => k_is)
    (case h118 => k_is)
    (case h120 => k_is)
    (case h130 => k_is)
    (case h131 => k_is)
    (case h132 => k_is)
    (case h133 => k_is)
    (case h134 => k_is)
    (case h135 => k_is)
    (case h137 => k_is)
    (case h139 => k_is)
    (case h149 => k_is)
    (case h150 => k_is)
    (case h151 => k_is)
    (case h152 => k_is)
    (case h154 => k_is)
    (case h156 => k_is)
    (case h157 => k_is)
    (case h159 => k_is)
    (case h181 => k_is)
    (case h182 => k_is)
    (case h183 => k_is)
    (case h184 => k_is)
    (case h185 => rfl)
    (case h186 => kernel_rfl)
    (case h187 => k_is)
    (case h188 => kernel_rfl)
    (case h189 => k_is)
    (case h190 => k_is)
    (case h191 => k_is)
    (case h192 => kernel_rfl)
    (case h193 => k_is)
    (case h194 => k_is)
    (case h195 => kernel_rfl)
    (case h196 => k_is)
    (case h197 => kernel_rfl)
    (case h198 => k_is)
    (case h199 => k_is)
    (case h200 => k_is)
    (case h201 => k_is)
    (case h202 => k_is)
    (case h203 => k_is)
    (case h204 => k_is)
    (case h205 => k_is)
    (case h207 => k_is)
    (case h217 => k_is)
    (case h218 => k_is)
    (case h219 => k_is)
    (case h220 => k_is)
    (case h222 => k_is)
    (case h232 => k_is)
    (case h233 => k_is)
    (case h234 => k_is)
    (case h235 => k_is)
    (case h236 => k_is)
    (case h238 => k_is)
    (case h239 => first | exact .inl rfl | exact .inr ⟨_, rfl⟩)
    (case h240 => k_is)
    (case h242 => k_is)
    (case h252 => k_is)
    (case h253 => k_is)
    (case h254 => k_is)
    (case h255 => k_is)
    (case h256 => k_is)
    (case h257 => k_is)
    (case h258 => k_is)
    (case h259 => k_is)
    (case h260 => k_is)
    (case h261 => k_is)
    (case h263 => k_is)
    (case h273 => k_is)
    (case h274 => k_is)
    (case h275 => k_is)
    (case h276 => k_is)
    (case h278 => k_is)
    (case h288 => k_is)
    (case h289 => k_is)
    (case h290 => k_is)
    (case h291 => k_is)
    (case h292 => k_is)
    (case h293 => k_is)
    (case h294 => k_is)
    (case h296 => k_is)
    (case h297 => k_is)
    (case h298 => kernel_rfl)
    (case h300 => k_is)
    (case h322 => k_is)
    (case h323 => k_is)
    (case h324 => k_is)
    (case h325 => k_is)
    (case h326 => rfl)
    (case h327 => kernel_rfl)
    (case h328 => k_is)
    (case h329 => kernel_rfl)
    (case h330 => k_is)
    (case h331 => k_is)
    (case h332 => k_is)
    (case h333 => kernel_rfl)
    (case h334 => k_is)
    (case h335 => k_is)
    (case h336 => kernel_rfl)
    (case h337 => k_is)
    (case h338 => kernel_rfl)
    (case h339 => k_is)
    (case h340 => k_is)
    (case h341 => k_is)
    (case h342 => k_is)
    (case h343 => k_is)
    (case h344 => k_is)
    (case h345 => k_is)
    (case h347 => k_is)
    (case h348 => first | exact .inl rfl | exact .inr ⟨_, rfl⟩)
    (case h349 => k_is)
    (case h351 => k_is)
    (case h352 => k_is)
    (case h353 => k_is)
    (case h354 => k_is)
    (case h355 => k_is)
    (case h356 => k_is)
    (case h357 => k_is)
    (case h358 => k_is)
    (case h359 => k_is)
    (case h360 => kernel_rfl)
    (case h361 => k_is)
    (case h362 => k_is)
    (case h363 => k_is)
    (case h364 => k_is)
    (case h365 => k_is)
    (case h366 => kernel_rfl)
    (case h367 => kernel_rfl)
    (case h368 => kernel_rfl)
    (case h369 => k_is)
    (case h370 => k_is)
    (case h371 => k_is)
    (case h372 => k_is)
    (case h373 => k_is)
    (case h374 => k_is)
    (case h375 => k_is)
    (case h376 => k_is)
    (case h377 => kernel_rfl)
    (case h378 => k_is)
    (case h379 => k_is)
    (case h380 => k_is)
    (case h381 => k_is)
    (case h382 => k_is)
    (case h383 => k_is)
    (case h384 => kernel_rfl)
    (case h385 => kernel_rfl)
    (case h386 => kernel_rfl)
    (case h387 => k_is)
    (case h388 => k_is)
    (case h389 => k_is)
    (case h390 => k_is)
    (case h391 => k_is)
    (case h392 => k_is)
    (case h393 => k_is)
    (case h394 => k_is)
    (case h395 => k_is)
    (case h396 => kernel_rfl)
    (case h397 => k_is)
    (case h398 => k_is)
    (case h399 => k_is)
    (case h400 => k_is)
    (case h401 => k_is)
    (case h402 => kernel_rfl)
    (case h403 => kernel_rfl)
    (case h404 => kernel_rfl)
    (case h406 => k_is)
    (case h416 => k_is)
    (case h417 => k_is)
    (case h418 => k_is)
    (case h420 => k_is)
    (case h430 => k_is)
    (case h431 => k_is)
    (case h432 => k_is)
    (case h433 => k_is)
    (case h434 => k_is)
