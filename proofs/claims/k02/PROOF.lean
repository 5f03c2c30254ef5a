import PyProof.Rows.All
import Wide.All
import OpenK.AllK
import Wide.FinOn
import HandS.ForMost
import HandS.ForExc
import HandS.Walk
import HandS.IsInst
import HandS.Wide
import HandS.Star
import HandS.CallSlots
import HandS.EndBits
import HandS.Style
import HandS.Deep
import HandS.TupAny
import KE.KSuper
import KE.KExcSuper
import KE.KExcInit
import KE.KExcPX
import HandS.ExcOwn
import HandS.Exc
import PyProof.ExcBaseAll.ValueError
import PyProof.ExcBaseAll.OverflowError
import PyProof.ExcBaseAll.RuntimeError
import PyProof.InstStoreFacts
import HandS.RaiseMore
import OpenK.KOps
import OpenK.KMeth
import HandS.SetBool
import HandS.SetTxt0
import PyProof.Rows.SortShellAny
import HandS.ExcField
import HandS.ExcIs
import HandS.Dict
import HandS.DictComp
import HandS.FStr
import HandS.MakeKw
import KE.KCallOwn
import PyProof.ExcBaseAll.LookupError
import KE.GoesComp
import HandS.More
import PySem.Challenge.RW_standinparts_k02_whole_candidates
set_option Elab.async false
set_option linter.all false
set_option maxRecDepth 100000
set_option maxHeartbeats 4000000
namespace Mir
open PySem PySem.Spec PyProof.Rows L2
/-! ## room for calls, where nothing is being shown (repr): the promise of a def under it -/
structure Room (k : Nat) (A : Around) : Prop where
  rm : L2.Room k A
  gd : A.guards = some []
section
variable {j k : Nat} {A : Around}
theorem Room.hd (r : Room k A) : A.handled = none := r.rm.hd
theorem Room.dp (r : Room k A) : A.depth + 3 * k + 5 < recursionLimit := r.rm.dp
theorem Room.un (r : Room k A) : A.units + 16 * k + 200 < cLine := r.rm.un
theorem Room.mono (r : Room k A) (h : j ≤ k) : Room j A := ⟨r.rm.mono h, r.gd⟩
theorem Room.deeper (r : Room (k + 1) A) (env : PySem.Env) : Room k (A.deeper env) := ⟨r.rm.deeper env, r.gd⟩
theorem Room.in1 (r : Room (k + 1) A) : Room k A.in1 := ⟨r.rm.in1, r.gd⟩
theorem Room.depth (r : Room k A) : A.depth < recursionLimit := r.rm.depth
theorem Room.units (r : Room k A) : A.units + 64 < cLine := r.rm.units
theorem Room.units0 (r : Room k A) : A.units < cLine := r.rm.units0
theorem Room.make (r : Room (k + 1) A) (C : Addr) (us : List Value) (kw : List (Str × Value)) : Room k (A.under (.builtin "type.__call__" ⟨.ref C :: us, kw⟩)) := by
  refine ⟨r.rm.make C us kw, ?_⟩
  have h : (Code.builtin "type.__call__" ⟨.ref C :: us, kw⟩).guards = [] := by
    unfold Code.guards
    rw [if_neg]
    show ¬ (guardIds.contains "type.__call__" = true)
    decide +kernel
  unfold Around.under
  rw [h, r.gd]
  rfl
end
structure FnOk (P : Program) (w : World) (K : PySem.W.Frag) (mg : Str → Option Value) (base : Heap) (CX : CXT) (k : Nat) (f : Addr) (fd : FuncData) (ps : List Str) (sp : Sp) : Prop where
  len : ∀ vs H Q E, sp vs H Q E → vs.length = ps.length
  run : ∀ (A : Around) (outer : List PySem.Env) (s : Shared) (H : Hp) (args : Args) (us : List Value) (vs : List V) (Q : VK) (E : XK), Room k A → Env0 P w K mg base A outer s H → BindsTo s fd args (ps.zip us) → Vals vs us → sp vs H Q E →
    codeAny (model P w) A (.call (.ref f) args) (CR CX outer P w H s Q E) s
/-- a def of the text as it stands behind the top, whatever its defaults -/
structure Fun (K : PySem.W.Frag) (x qual : Str) (st : Stmt) (f : Addr) (fd : FuncData) : Prop where
  ex : ∃ (oc : Value) (od an : Option Addr) (dV kV doc pm cdv ct : Value) (osl : Array (Option Value)),
    fd = PySem.W.fnOf x qual (defArgs st) (defBody st) (defScope st) dV kV doc pm an cdv ct ∧ K.lookup f = some ⟨oc, od, .func fd, osl⟩ ∧ PySem.W.codeIn K cdv qual = true
  kp : PySem.W.keepIn K (.ref f) = true
theorem fun_mk {K : PySem.W.Frag} {x qual : Str} {st : Stmt} {f : Addr} {oc : Value} {od an : Option Addr} {osl : Array (Option Value)} {dV kV doc pm cdv ct : Value} (l : K.lookup f = some ⟨oc, od, .func (PySem.W.fnOf x qual (defArgs st) (defBody st) (defScope st) dV kV doc pm an cdv ct), osl⟩)
    (c : PySem.W.codeIn K cdv qual = true) (k : PySem.W.keepIn K (.ref f) = true) : Fun K x qual st f (PySem.W.fnOf x qual (defArgs st) (defBody st) (defScope st) dV kV doc pm an cdv ct) := ⟨⟨oc, od, an, dV, kV, doc, pm, cdv, ct, osl, rfl, l, c⟩, k⟩
section
variable {P : Program} {w : World} {K : PySem.W.Frag} {mg : Str → Option Value} {base : Heap}
theorem Fun.okX {x qual : Str} {st : Stmt} {f : Addr} {fd : FuncData} {N ps : List Str} {k : Nat} {sp : Sp} (F : Fun K x qual st f fd) (S : FnScope N ps (defScope st)) (len : ∀ vs H Q E, sp vs H Q E → vs.length = ps.length)
    (hbody : ∀ (cdv : Value) (A : Around) (outer : List PySem.Env) (s : Shared) (H : Hp) (vs : List V) (Q : VK) (E : XK), Room k (A.deeper (envOfC qual (defScope st) s.heap.objs.size f cdv)) → sp vs H Q E →
      ∃ t, PSs (cxOf (L2.CX P w) P w K mg base N qual (defScope st) f cdv A outer s H E) (defBody st) t ∧ t { nx := fun _ H' => Q .non H', rt := Q } (start N vs) H) : FnOk P w K mg base (L2.CX P w) (k + 1) f fd ps sp := by
  obtain ⟨oc, od, an, dV, kV, doc, pm, cdv, ct, osl, rfl, lk, hcd⟩ := F.ex
  constructor
  · exact len
  intro A outer s H args us vs Q E hr e0 hb r hsp
  have many := len _ _ _ _ hsp
  have kin : K.In s.heap := e0.mod.kin.keeps fun b o e => (e0.bs b o e).1
  have nol : s.heap.NoLimit := e0.mod.nolimit.keeps fun b o e => (e0.bs b o e).1
  have kinds : ∀ y ∈ ps.zip us, (defScope st).names.lookup y.1 = some .local ∨ ((defScope st).names.lookup y.1 = some .cell ∧ ((cellsFrom (s.heap.objs.size + 1) (defScope st).names []).lookup y.1).isSome = true) := by
    rintro ⟨n, v⟩ hy
    exact (S.par n (List.of_mem_zip hy).1).elim .inl fun q => .inr ⟨q, PySem.W.cellsFrom_some _ _ _ (.inl q)⟩
  refine codeAny_call_function hr.depth (kin _ _ lk) rfl S.co S.gen rfl (PySem.W.codeRec_of kin hcd) (hb _ _ _ _ (wpAny_newFunctionEnv_cells S.kind kinds fun env he s1 x => ?_))
  subst he
  refine ⟨nol.keeps x.toInCall.keep, codeAny_func ?_⟩
  obtain ⟨t, ht, hq⟩ := hbody cdv A outer s H vs Q E (hr.deeper _) hsp
  have inv : L2.Inv (cxOf (L2.CX P w) P w K mg base N qual (defScope st) f cdv A outer s H E) [] (start N vs) H s1 := inv_start S hr.hd e0 many r x
  refine wpAny_mono (ht.run [] s1 (start N vs) H _ inv hq) (fun fl s' hs => ?_) fun e s' hs => hs
  cases fl with
  | ret u =>
    obtain ⟨v, σ', H', J, rv, q⟩ := hs
    exact ⟨v, H', J.os, J.bare, J.base, J.hok, rv, q⟩
  | next =>
    obtain ⟨σ', H', J, q⟩ := hs
    exact ⟨.non, H', J.os, J.bare, J.base, J.hok, rfl, q⟩
  | brk => exact hs.elim fun _ h => h.elim fun _ h => False.elim h.2
  | cont => exact hs.elim fun _ h => h.elim fun _ h => False.elim h.2
theorem Fun.binds {x qual : Str} {st : Stmt} {f : Addr} {fd : FuncData} {ps : List Str} (F : Fun K x qual st f fd)
    (h : ∀ (dV kV doc pm : Value) (an : Option Addr) (cdv ct : Value) (us : List Value), us.length = ps.length → bindArgs (PySem.W.fnOf x qual (defArgs st) (defBody st) (defScope st) dV kV doc pm an cdv ct) ⟨us, []⟩ = pure (ps.zip us)) : Binds K fd ps [] := by
  obtain ⟨oc, od, an, dV, kV, doc, pm, cdv, ct, osl, rfl, lk, hcd⟩ := F.ex
  exact .all (h dV kV doc pm an cdv ct)
end
section
variable {X : Cx} {CX : CXT} {k : Nat} {f : Addr} {fd : FuncData} {ps : List Str} {sp : Sp} {dvs : List V} {ds : List Value} {E : L2.St → XK} {x : Str} {p pos : Pos} {e : Expr} {es : List Expr} {t : TA}
theorem run_fnSD {pins : List (Addr × Obj)} {σ : L2.St} {H : Hp} {s : Shared} {Q : VK} {us : List Value} {vs : List V} (F : FnOk X.prog X.w X.K X.mg X.base CX k f fd ps sp) (hr : Room k X.A) (hb : Binds X.K fd ps ds) (hd : Vals dvs ds) (hx : PassesAt CX X σ (E σ))
    (I : L2.Inv X pins σ H s) (r : Vals vs us) (h : sp (vs ++ dvs) H Q (E σ)) : wpAny (model X.prog X.w) X.A (call (.ref f) us) (EP X pins σ Q) X.xe s := by
  have all : Vals (vs ++ dvs) (us ++ ds) := r.append hd
  have many : (us ++ ds).length = ps.length := all.length.symm.trans (F.len _ _ _ _ h)
  refine wpAny_call (codeAny_mono (F.run X.A X.stack s H ⟨us, []⟩ (us ++ ds) _ Q (E σ) hr I.env0 (hb s us I.kIn many) all h) fun r s' hq => ?_)
  match r, hq with
  | .error e, hq => exact hx pins H s e s' I hq
  | .ok (.ret u), hq => exact I.after hq
theorem pe_callS (F : FnOk X.prog X.w X.K X.mg X.base CX k f fd ps sp) (hr : Room k X.A) (hg : Gl X x) (hm : X.mg x = some (.ref f)) (hk : PySem.W.keepIn X.K (.ref f) = true) (hb : Binds X.K fd ps []) (hx : ∀ σ, PassesAt CX X σ (E σ))
    (ha : PA X (e :: es) t) (hdb : (x == ("__debug__" : Str)) = false := by decide) (he : starEach (e :: es) X.env = (false, eval e X.env) :: starEach es X.env := by rfl) (hpl : (backTo pos (starEach es X.env)).any (·.1) = false := by rfl) :
    PE X (.Call (.Name x p) (e :: es) [] pos) (fun σ H Q => t σ H fun vs H1 => sp vs H1 Q (E σ)) := by
  refine ⟨fun pins s σ H Q I h => wpAny_Call_Name_kw (ld_glob I hg hm ?_ hdb)⟩
  refine PySem.W.callWith_K (h₀ := X.base) I.ok.mod.kin hk (thn (ha.run pos pins s σ H _ I h) fun us s1 ⟨vs, H1, I1, r, q⟩ => ⟨I1.kIn, ?_⟩) he hpl
  exact run_fnSD (dvs := []) F hr hb .nil (hx σ) I1 r (by rw [List.append_nil]; exact q)
end
/-! ## the end of a law's row -/
theorem law_callG {P : Program} {w : World} {K : PySem.W.Frag} {mg mb : Str → Option Value} {CX : CXT} {k : Nat} {fa a : Addr} {fd : FuncData} {x : Str} {sp : Sp} {t : Shared} {vs : List Value} {ns : List Int}
    (kin : K.In t.heap) (hns : t.heap.Ns mainGlobals mg) (hb : t.heap.Ns builtinsNs mb) (hbb : ∀ x : Str, x ≠ "__name__" → mb x = bootBuiltins x) (nol : t.heap.NoLimit) (hg : t.gens = #[])
    (ha : t.heap.get? a = some { cls := .type "list", data := .seq vs.toArray }) (hi : IntsAre vs ns) (hl : ns.length ≤ sizeLine) (hr : Room k callerA)
    (F : ∀ base : Heap, K.In base → base.Ns mainGlobals mg → FnOk P w K mg base CX k fa fd [x] sp) (bind : ∀ (s : Shared) (u : Value), BindsTo s fd ⟨[u], []⟩ [(x, u)])
    (hsp : ∀ H : Hp, Only H → SqL K H a (ns.map V.int) → sp [.ref a] H (fun v _ => v = .bl true) fun _ _ _ => False) (hCX : ∀ H e s', CX [] H t (fun _ _ _ => False) e s' → False) :
    codeAny (model P w) callerA (.call (.ref fa) ⟨[.ref a], []⟩) (fun r s' => r = .ok (.ret (.bool true)) ∧ OldK t.heap s'.heap ∧ s'.os = t.os ∧ AllBare s'.gens) t := by
  have rv := vals_ints hi
  have go : ∀ H : Hp, Only H → SqL K H a (ns.map V.int) → HOk P w H t.heap → (∀ b, H b ≠ none → b = a) → (H a ≠ none → K.lookup a = none) →
      codeAny (model P w) callerA (.call (.ref fa) ⟨[.ref a], []⟩) (fun r s' => r = .ok (.ret (.bool true)) ∧ OldK t.heap s'.heap ∧ s'.os = t.os ∧ AllBare s'.gens) t := by
    intro H hO hS hok only noK
    have off : ∀ {b : Addr}, b ≠ a → H b = none := fun {b} n => by
      cases q : H b with
      | none => rfl
      | some u => exact absurd (only b (by rw [q]; simp)) n
    have keptNs : ∀ {b : Addr} {m : Str → Option Value}, t.heap.Ns b m → (hidT t.heap H).Ns b m := fun {b m} ⟨o, es, ep, e, d, r⟩ => ⟨o, es, ep, hidT_get e (off fun z => by
      subst z
      rw [ha] at e
      cases e
      cases (show Data.seq vs.toArray _ = Data.dict es ep from d)), d, r⟩
    have kinB : K.In (hidT t.heap H) := fun b o e => hidT_get (kin b o e) (by
      cases q : H b with
      | none => rfl
      | some u =>
        have eb := only b (by rw [q]; simp)
        subst eb
        rw [noK (by rw [q]; simp)] at e; cases e)
    obtain ⟨mc, l1, l2⟩ := nol
    have mod : Mod K mg (hidT t.heap H) := ⟨kinB, keptNs hns, ⟨mb, keptNs hb, hbb⟩, ⟨mc, keptNs l1, l2⟩⟩
    have e0 : Env0 P w K mg (hidT t.heap H) callerA [] t H := ⟨rfl, mod, fun b o e => of_hidT e, Nat.le_of_eq (hidT_size _ _), trivial, fun b hb => (nomatch hb), hok, .of_eq hg⟩
    refine codeAny_mono ((F _ kinB (keptNs hns)).run callerA [] t H ⟨[.ref a], []⟩ [.ref a] [.ref a] _ _ hr e0 (bind t (.ref a)) (.cons rfl .nil) (hsp H hO hS)) fun r s' h => ?_
    match r, h with
    | .error e, h => exact (hCX H e s' h).elim
    | .ok (.ret u), h =>
      obtain ⟨v, H', os, bare, un, hok', r', q⟩ := h
      obtain rfl : v = .bl true := q
      obtain rfl : u = Value.bool true := r'
      refine ⟨rfl, OldK.of_keep fun b o e => ?_, os, bare⟩
      cases q : H b with
      | none => exact un.keep b o e q (fun z => nomatch z) (fun z => nomatch z)
      | some u =>
        rcases hO b with z | ⟨ob, xs, z⟩
        · rw [q] at z; cases z
        · obtain ⟨e1, _⟩ := hok b _ z
          obtain ⟨e2, _⟩ := hok' b _ (un.frzs b ob _ z)
          rw [e] at e1; cases e1
          exact e2
  cases hk : K.lookup a with
  | some o =>
    have e := kin a o hk
    rw [ha] at e
    cases e
    exact go (fun _ => none) (fun _ => .inl rfl) (.inr ⟨_, vs.toArray, _, hk, rfl, rfl, rfl, by rw [List.size_toArray, hi.length]; exact hl, by simpa using rv⟩) (fun b u z => by cases (show (none : Option HO) = some u from z)) (fun b z => absurd rfl z) fun z => absurd rfl z
  | none =>
    have at_a : ∀ b, (if b = a then some (HO.frz { cls := .type "list", data := .seq vs.toArray } (.lst (ns.map V.int))) else none) ≠ none → b = a := fun b z => by
      by_cases hb : b = a
      · exact hb
      · exact absurd (if_neg hb) z
    refine go (fun b => if b = a then some (.frz { cls := .type "list", data := .seq vs.toArray } (.lst (ns.map V.int))) else none) (fun b => ?_) (.inl (.inr ⟨{ cls := .type "list", data := .seq vs.toArray }, if_pos rfl⟩)) (fun b u z => ?_) at_a fun _ => hk
    · by_cases hb : b = a
      · exact .inr ⟨_, _, if_pos hb⟩
      · exact .inl (if_neg hb)
    · obtain rfl := at_a b (by intro q; cases z.symm.trans q)
      cases (if_pos rfl).symm.trans z
      exact ⟨ha, by rw [List.length_map]; exact hl, vs, _, rv, ha⟩
theorem walk_ofG {l : PySem.W.OpenLaw} {n k : Nat} {q : Program} {loose : List Str} {XP : (Str → Option Value) → Heap → Prop} {YP : World → Heap → Prop} {d : DefRec} {K : Params → PySem.W.Frag} {CX : World → CXT} {sp : World → Sp} {x : Str}
    (hn : l.most = some n) (hn2 : n ≤ sizeLine) (hdf : d.params.defaults = []) (hr : Room k callerA) (hY : ∀ (w : World) (h : Heap), YP w h → (K w.params).In h)
    (F : ∀ (w : World) (mg : Str → Option Value) (fa : Addr) (h : Heap), (K w.params).In h → h.Ns mainGlobals mg → mg d.name = some (.ref fa) →
      ∃ fd : FuncData, (∀ (s : Shared) (u : Value), BindsTo s fd ⟨[u], []⟩ [(x, u)]) ∧ ∀ base : Heap, (K w.params).In base → base.Ns mainGlobals mg → FnOk l.prog w (K w.params) mg base (CX w) k fa fd [x] (sp w))
    (hsp : ∀ (w : World) (H : Hp) (a : Addr) (ns : List Int), ns.length ≤ n → (∀ z ∈ ns, Builtin.Int.intBits z ≤ 1048576) → Only H → SqL (K w.params) H a (ns.map V.int) → sp w [.ref a] H (fun v _ => v = .bl true) fun _ _ _ => False)
    (hCX : ∀ (w : World) (H : Hp) (s : Shared) (e : Value) (s' : Shared), CX w [] H s (fun _ _ _ => False) e s' → False) : PySem.W.WalkO q loose XP YP l.row.toRowW d [] (fun f vs => PySem.call f vs) := by
  refine Att.attach_callB hn hdf fun w s₀ s₁ mg mb fa o pm cd doc a vs ns G Y ho hd hcd hmg hobj hints hlen hbits hg => ?_
  obtain ⟨fd, hb, hF⟩ := F w mg fa _ (hY w _ Y) G.T.g hmg
  exact law_callG (hY w _ Y) G.T.g G.T.b G.T.builtins G.T.nolimit hg hobj hints (Nat.le_trans hlen hn2) hr hF hb (fun H hO hS => hsp w H a ns hlen hbits hO hS) fun H e s' => hCX w H s₁ e s'
/-- what a callee lets out is taken (a call needs no more) -/
abbrev TkC (X : Cx) (W : L2.WX) : Prop := ∀ σ, L2.PassesAt (L2.CX X.prog X.w) X σ (L2.WE W σ)
theorem tkc {X : Cx} {W : L2.WX} (tk : L2.Takes X W) : TkC X W := fun σ => L2.passAt tk σ
/-- what reading data needs, whatever is being handled -/
structure RoomL (A : Around) : Prop where
  un : A.units + 200 < cLine
  gd : A.guards = some []
theorem RoomL.units {A : Around} (r : RoomL A) : A.units + 64 < cLine := by have := r.un; omega
theorem Room.low {k : Nat} {A : Around} (r : Room k A) : RoomL A := ⟨by have := r.un; omega, r.gd⟩
theorem RoomL.mark {A : Around} {x : Option Value} (r : RoomL A) : RoomL (A.mark x) := ⟨r.un, r.gd⟩
theorem room_top : Room 100 callerA := ⟨⟨rfl, by decide, by decide⟩, rfl⟩
end Mir

namespace Mir
open PySem PySem.Spec PyProof.Rows L2

/-! ## deep values and what stands for them -/
inductive D where
  | non | bl (b : Bool) | int (i : Int) | str (x : Str) | ty (n : String) | ref (a : Addr)
  | tup (xs : List D) | lst (xs : List D) | frl (xs : List D) | dK (kvs : List (Key × D)) | ins (C : Str) (fs : List (Str × D)) | exc (C : Str) (fs : List (Str × D))
/-- the class that the main module names C -/
def ClsN (K : PySem.W.Frag) (C : Str) (Ca : Addr) : Prop := PySem.W.nsIn K mainGlobals C = some (some (.ref Ca))
theorem ClsN.inj {K : PySem.W.Frag} {C : Str} {a b : Addr} (h : ClsN K C a) (h' : ClsN K C b) : a = b := by
  unfold ClsN at h h'
  rw [h] at h'
  cases h'
  rfl

/-- a tuple: tracked, or an object of the module -/
def TupAt (K : PySem.W.Frag) (H : Hp) (a : Addr) (xs : List V) : Prop :=
  H a = some (.tup xs) ∨
    ∃ (o : Obj) (its : Array Value) (n : Nat), K.lookup a = some o ∧ o.cls = .type "tuple" ∧ o.data = .seq its n ∧ its.size ≤ sizeLine ∧ Vals xs its.toList
theorem TupAt.sq {K : PySem.W.Frag} {H : Hp} {a : Addr} {xs : List V} (h : TupAt K H a xs) : SqT K H a xs := by
  rcases h with h | h
  · exact .inl (.inl h)
  · exact .inr h
/-- an exception's object at a, of a class, with a dict -/
def ExP (cls : Value) (d : Option Addr) (a : Addr) (h : Heap) : Prop := ∃ (oe : Obj) (vs : Array Value), h.get? a = some oe ∧ Zc cls d oe ∧ oe.data = .fields vs
abbrev ExH (cls : Value) (d : Option Addr) (a : Addr) : HO := .ext (ExP cls d a)
section
variable (K : PySem.W.Frag) (S : Hp)
mutual
def Rep : D → V → Prop
  | .non, v => v = .non
  | .bl b, v => v = .bl b
  | .int i, v => v = .int i
  | .str x, v => v = .str x ∧ x.length ≤ sizeLine
  | .ty n, v => v = .ty n
  | .ref a, v => v = .ref a
  | .tup ds, v => ∃ a vs, v = .ref a ∧ TupAt K S a vs ∧ ds.length ≤ sizeLine ∧ Reps ds vs
  | .lst ds, v => ∃ a vs, v = .ref a ∧ S a = some (.lst vs) ∧ ds.length ≤ sizeLine ∧ Reps ds vs
  | .frl ds, v => ∃ a vs, v = .ref a ∧ SqL K S a vs ∧ ds.length ≤ sizeLine ∧ Reps ds vs
  | .dK kds, v => ∃ a kvs, v = .ref a ∧ Rd S a (.dK kvs) ∧ kds.length ≤ sizeLine ∧ RepK kds kvs
  | .ins C gs, v => ∃ Ca a dx fs, ClsN K C Ca ∧ v = .ref a ∧ S a = some (.ins Ca dx fs) ∧ RepF gs fs
  | .exc C gs, v => ∃ Ca a d fs, ClsN K C Ca ∧ v = .ref a ∧ S a = some (ExH (.ref Ca) (some d) a) ∧ S d = some (.xd fs) ∧ RepF gs fs
def Reps : List D → List V → Prop
  | [], vs => vs = []
  | d :: ds, vs => ∃ v r, vs = v :: r ∧ Rep d v ∧ Reps ds r
def RepK : List (Key × D) → List (Key × V) → Prop
  | [], kvs => kvs = []
  | (k, d) :: ds, kvs => ∃ v r, kvs = (k, v) :: r ∧ Rep d v ∧ RepK ds r
def RepF : List (Str × D) → List (Str × V) → Prop
  | [], kvs => kvs = []
  | (k, d) :: ds, kvs => ∃ v r, kvs = (k, v) :: r ∧ Rep d v ∧ RepF ds r
end
end

/-- what S2 tells beside S: all that is read as data, all instances -/
structure Le (S S2 : Hp) : Prop where
  lst : ∀ a xs, S a = some (.lst xs) → S2 a = some (.lst xs)
  tup : ∀ a xs, S a = some (.tup xs) → S2 a = some (.tup xs)
  dk : ∀ a kvs, Rd S a (.dK kvs) → Rd S2 a (.dK kvs)
  ins : ∀ a C dx fs, S a = some (.ins C dx fs) → S2 a = some (.ins C dx fs)
  frz : ∀ a o u, S a = some (.frz o u) → S2 a = some (.frz o u)
  ext : ∀ a p, S a = some (.ext p) → S2 a = some (.ext p)
  xd : ∀ a fs, S a = some (.xd fs) → S2 a = some (.xd fs)
theorem Le.of {S S2 : Hp} (h : Same S S2) : Le S S2 := by
  have g : ∀ a u, Rd S a u → Rd S2 a u := fun a u r => by
    rcases r with r | ⟨o, r⟩
    · exact .inl (h _ _ r)
    · exact .inr ⟨o, h _ _ r⟩
  exact ⟨fun a xs => h a _, fun a xs => h a _, fun a kvs => g a _, fun a C dx fs => h a _, fun a o u => h a _, fun a p => h a _, fun a fs => h a _⟩
theorem Le.trans {S S1 S2 : Hp} (x : Le S S1) (y : Le S1 S2) : Le S S2 :=
  ⟨fun a xs r => y.lst _ _ (x.lst _ _ r), fun a xs r => y.tup _ _ (x.tup _ _ r), fun a kvs r => y.dk a kvs (x.dk a kvs r), fun a C dx fs r => y.ins _ _ _ _ (x.ins _ _ _ _ r), fun a o u r => y.frz _ _ _ (x.frz _ _ _ r), fun a p r => y.ext _ _ (x.ext _ _ r), fun a fs r => y.xd _ _ (x.xd _ _ r)⟩
theorem Le.refl (S : Hp) : Le S S := Le.of (Same.refl S)
theorem Le.tupAt {K : PySem.W.Frag} {S S2 : Hp} {a : Addr} {xs : List V} (x : Le S S2) (h : TupAt K S a xs) : TupAt K S2 a xs := by
  rcases h with h | h
  · exact .inl (x.tup _ _ h)
  · exact .inr h
theorem Le.sqL {K : PySem.W.Frag} {S S2 : Hp} {a : Addr} {xs : List V} (x : Le S S2) (h : SqL K S a xs) : SqL K S2 a xs := by
  rcases h with (h | ⟨o, h⟩) | h
  · exact .inl (.inl (x.lst a xs h))
  · exact .inl (.inr ⟨o, x.frz _ _ _ h⟩)
  · exact .inr h

section
variable {K : PySem.W.Frag} {S S2 : Hp}
mutual
theorem Rep.mono (x : Le S S2) : ∀ (d : D) (v : V), Rep K S d v → Rep K S2 d v
  | .non, v, h => h
  | .bl b, v, h => h
  | .int i, v, h => h
  | .str y, v, h => h
  | .ty n, v, h => h
  | .ref a, v, h => h
  | .tup ds, v, h => by
    obtain ⟨a, vs, e, q, l, r⟩ := h
    exact ⟨a, vs, e, x.tupAt q, l, Reps.mono x ds vs r⟩
  | .lst ds, v, h => by
    obtain ⟨a, vs, e, q, l, r⟩ := h
    exact ⟨a, vs, e, x.lst _ _ q, l, Reps.mono x ds vs r⟩
  | .frl ds, v, h => by
    obtain ⟨a, vs, e, q, l, r⟩ := h
    exact ⟨a, vs, e, x.sqL q, l, Reps.mono x ds vs r⟩
  | .dK ds, v, h => by
    obtain ⟨a, vs, e, q, l, r⟩ := h
    exact ⟨a, vs, e, x.dk _ _ q, l, RepK.mono x ds vs r⟩
  | .ins C gs, v, h => by
    obtain ⟨Ca, a, dx, fs, c, e, q, r⟩ := h
    exact ⟨Ca, a, dx, fs, c, e, x.ins _ _ _ _ q, RepF.mono x gs fs r⟩
  | .exc C gs, v, h => by
    obtain ⟨Ca, a, d, fs, c, e, q, q2, r⟩ := h
    exact ⟨Ca, a, d, fs, c, e, x.ext _ _ q, x.xd _ _ q2, RepF.mono x gs fs r⟩
theorem Reps.mono (x : Le S S2) : ∀ (ds : List D) (vs : List V), Reps K S ds vs → Reps K S2 ds vs
  | [], vs, h => h
  | d :: ds, vs, h => by
    obtain ⟨v, r, e, p, q⟩ := h
    exact ⟨v, r, e, Rep.mono x d v p, Reps.mono x ds r q⟩
theorem RepK.mono (x : Le S S2) : ∀ (ds : List (Key × D)) (vs : List (Key × V)), RepK K S ds vs → RepK K S2 ds vs
  | [], vs, h => h
  | (k, d) :: ds, vs, h => by
    obtain ⟨v, r, e, p, q⟩ := h
    exact ⟨v, r, e, Rep.mono x d v p, RepK.mono x ds r q⟩
theorem RepF.mono (x : Le S S2) : ∀ (ds : List (Str × D)) (vs : List (Str × V)), RepF K S ds vs → RepF K S2 ds vs
  | [], vs, h => h
  | (k, d) :: ds, vs, h => by
    obtain ⟨v, r, e, p, q⟩ := h
    exact ⟨v, r, e, Rep.mono x d v p, RepF.mono x ds r q⟩
end
end
end Mir

namespace Mir
open PySem PySem.Spec PyProof.Rows L2
abbrev St := L2.St


/-! ## what is left as it is, and the names of the cells -/
structure SS where
  hp : Hp
  nm : List Addr
instance : CoeFun SS (fun _ => Addr → Option HO) := ⟨SS.hp⟩
instance : Coe SS Hp := ⟨SS.hp⟩
abbrev SS.up (S : SS) (p : Addr) (o : HO) : SS := ⟨upd S.hp p o, S.nm⟩
abbrev SS.add (S : SS) (p : Addr) : SS := ⟨S.hp, S.nm ++ [p]⟩
/-- .. with other names -/
abbrev SS.nam (S : SS) (l : List Addr) : SS := ⟨S.hp, l⟩
/-! ## objects that may still change; the slots, the cells -/
/-- a deep value, or the object of a cell -/
inductive HV where
  | d (d : D) | h (n : Nat)
inductive MO where
  | lst (xs : List D) | dK (kvs : List (Key × D)) | ins (C : Str) (fs : List (Str × D))
  | lsA (xs : List HV) | dA (kvs : List (Key × HV)) | insA (C : Str) (fs : List (Str × HV))
def MO.d : MO → Option D
  | .lst xs => some (.lst xs)
  | .dK kvs => some (.dK kvs)
  | .ins C fs => some (.ins C fs)
  | _ => none
/-- no cell in it -/
def MO.flat : MO → Bool
  | .lst _ => true
  | .dK _ => true
  | .ins _ _ => true
  | _ => false
/-- a slot: a deep value; an object of the def's own; one that the caller lent; the object of a cell -/
inductive Sl where
  | v (d : D) | o (m : MO) | b (m : MO) | h (n : Nat)
structure ME where
  sl : List (Option Sl)
  ce : List (Option MO)
abbrev ME.set (e : ME) (i : Nat) (x : Option Sl) : ME := ⟨e.sl.set i x, e.ce⟩
abbrev ME.setC (e : ME) (n : Nat) (x : Option MO) : ME := ⟨e.sl, e.ce.set n x⟩
abbrev ME.push (e : ME) (m : MO) : ME := ⟨e.sl, e.ce ++ [some m]⟩
def RH (K : PySem.W.Frag) (S : SS) : HV → V → Prop
  | .d d, v => Rep K S.hp d v
  | .h n, v => ∃ a, S.nm[n]? = some a ∧ v = .ref a
def RHs (K : PySem.W.Frag) (S : SS) : List HV → List V → Prop
  | [], vs => vs = []
  | d :: ds, vs => ∃ v r, vs = v :: r ∧ RH K S d v ∧ RHs K S ds r
def RHK {κ : Type} (K : PySem.W.Frag) (S : SS) : List (κ × HV) → List (κ × V) → Prop
  | [], kvs => kvs = []
  | (k, d) :: ds, kvs => ∃ v r, kvs = (k, v) :: r ∧ RH K S d v ∧ RHK K S ds r
structure LeN (S S2 : SS) : Prop where
  le : Le S.hp S2.hp
  nm : ∀ (n : Nat) (a : Addr), S.nm[n]? = some a → S2.nm[n]? = some a
theorem RH.mono {K : PySem.W.Frag} {S S2 : SS} (x : LeN S S2) {d : HV} {v : V} (h : RH K S d v) : RH K S2 d v := by
  cases d with
  | d d => exact Rep.mono x.le _ _ h
  | h n =>
    obtain ⟨a, e, q⟩ := h
    exact ⟨a, x.nm _ _ e, q⟩
theorem RHs.mono {K : PySem.W.Frag} {S S2 : SS} (x : LeN S S2) : ∀ {ds : List HV} {vs : List V}, RHs K S ds vs → RHs K S2 ds vs
  | [], _, h => h
  | d :: ds, _, h => by
    obtain ⟨v, r, e, p, q⟩ := h
    exact ⟨v, r, e, p.mono x, RHs.mono x q⟩
theorem RHK.mono {κ : Type} {K : PySem.W.Frag} {S S2 : SS} (x : LeN S S2) : ∀ {ds : List (κ × HV)} {vs : List (κ × V)}, RHK K S ds vs → RHK K S2 ds vs
  | [], _, h => h
  | (k, d) :: ds, _, h => by
    obtain ⟨v, r, e, p, q⟩ := h
    exact ⟨v, r, e, p.mono x, RHK.mono x q⟩
def RepO (K : PySem.W.Frag) (S : SS) : MO → HO → Prop
  | .lst ds, o => ∃ vs, o = .lst vs ∧ ds.length ≤ sizeLine ∧ Reps K S.hp ds vs
  | .dK kds, o => ∃ kvs, o = .dK kvs ∧ kds.length ≤ sizeLine ∧ RepK K S.hp kds kvs
  | .ins C gs, o => ∃ Ca dx fs, ClsN K C Ca ∧ o = .ins Ca dx fs ∧ RepF K S.hp gs fs
  | .lsA ds, o => ∃ vs, o = .lst vs ∧ ds.length ≤ sizeLine ∧ RHs K S ds vs
  | .dA kds, o => ∃ kvs, o = .dK kvs ∧ kds.length ≤ sizeLine ∧ RHK K S kds kvs
  | .insA C gs, o => ∃ Ca dx fs, ClsN K C Ca ∧ o = .ins Ca dx fs ∧ RHK K S gs fs
theorem RepO.mono {K : PySem.W.Frag} {S S2 : SS} (x : LeN S S2) {m : MO} {o : HO} (h : RepO K S m o) : RepO K S2 m o := by
  cases m with
  | lst ds =>
    obtain ⟨vs, e, l, r⟩ := h
    exact ⟨vs, e, l, Reps.mono x.le _ _ r⟩
  | dK ds =>
    obtain ⟨vs, e, l, r⟩ := h
    exact ⟨vs, e, l, RepK.mono x.le _ _ r⟩
  | ins C gs =>
    obtain ⟨Ca, dx, fs, c, e, r⟩ := h
    exact ⟨Ca, dx, fs, c, e, RepF.mono x.le _ _ r⟩
  | lsA ds =>
    obtain ⟨vs, e, l, r⟩ := h
    exact ⟨vs, e, l, r.mono x⟩
  | dA ds =>
    obtain ⟨vs, e, l, r⟩ := h
    exact ⟨vs, e, l, r.mono x⟩
  | insA C gs =>
    obtain ⟨Ca, dx, fs, c, e, r⟩ := h
    exact ⟨Ca, dx, fs, c, e, r.mono x⟩
/-- no names are asked -/
theorem RepO.nam {K : PySem.W.Frag} {S S2 : SS} (x : Le S.hp S2.hp) {m : MO} {o : HO} (f : m.flat = true) (h : RepO K S m o) : RepO K S2 m o := by
  cases m with
  | lst ds =>
    obtain ⟨vs, e, l, r⟩ := h
    exact ⟨vs, e, l, Reps.mono x _ _ r⟩
  | dK ds =>
    obtain ⟨vs, e, l, r⟩ := h
    exact ⟨vs, e, l, RepK.mono x _ _ r⟩
  | ins C gs =>
    obtain ⟨Ca, dx, fs, c, e, r⟩ := h
    exact ⟨Ca, dx, fs, c, e, RepF.mono x _ _ r⟩
  | lsA ds => cases f
  | dA ds => cases f
  | insA C gs => cases f
/-- frozen: read as a deep value -/
theorem RepO.rep {K : PySem.W.Frag} {S : SS} {m : MO} {d : D} {o : HO} {a : Addr} (h : RepO K S m o) (hd : m.d = some d) (e : S.hp a = some o) : Rep K S.hp d (.ref a) := by
  cases m with
  | lst ds =>
    cases hd
    obtain ⟨vs, rfl, l, r⟩ := h
    exact ⟨a, vs, rfl, e, l, r⟩
  | dK ds =>
    cases hd
    obtain ⟨vs, rfl, l, r⟩ := h
    exact ⟨a, vs, rfl, .inl e, l, r⟩
  | ins C gs =>
    cases hd
    obtain ⟨Ca, dx, fs, c, rfl, r⟩ := h
    exact ⟨Ca, a, dx, fs, c, rfl, e, r⟩
  | lsA ds => cases hd
  | dA ds => cases hd
  | insA C gs => cases hd
def Sl.mo : Sl → Option MO
  | .v _ => none
  | .o m => some m
  | .b m => some m
  | .h _ => none
/-- where an object stands: in a slot, in a cell -/
inductive Plc where
  | s (i : Nat) | c (n : Nat)
  deriving DecidableEq
def ME.at (e : ME) : Plc → Option Sl
  | .s i => match e.sl[i]? with
    | some x => x
    | none => none
  | .c n => match e.ce[n]? with
    | some (some m) => some (.o m)
    | _ => none
theorem at_s {e : ME} {i : Nat} {s : Sl} : e.at (.s i) = some s ↔ e.sl[i]? = some (some s) := by
  unfold ME.at
  dsimp only
  cases h : e.sl[i]? with
  | none => simp
  | some x => simp
theorem at_c {e : ME} {n : Nat} {s : Sl} : e.at (.c n) = some s ↔ ∃ m, s = .o m ∧ e.ce[n]? = some (some m) := by
  unfold ME.at
  dsimp only
  cases h : e.ce[n]? with
  | none => simp
  | some x =>
    cases x with
    | none => simp
    | some m => simp [eq_comm]
def Adr (σ : St) (S : SS) : Plc → Addr → Prop
  | .s i, a => σ[i]? = some (some (V.ref a))
  | .c n, a => S.nm[n]? = some a
theorem Adr.inj {σ : St} {S : SS} {l : Plc} {a b : Addr} (h : Adr σ S l a) (h' : Adr σ S l b) : a = b := by
  cases l with
  | s i =>
    have h1 : σ[i]? = some (some (V.ref a)) := h
    have h2 : σ[i]? = some (some (V.ref b)) := h'
    rw [h1] at h2
    cases h2
    rfl
  | c n =>
    have h1 : S.nm[n]? = some a := h
    have h2 : S.nm[n]? = some b := h'
    rw [h1] at h2
    cases h2
    rfl
def Has (env : ME) (l : Plc) (m : MO) : Prop := ∃ s, env.at l = some s ∧ s.mo = some m
/-- some slot, some cell holds the object at b -/
def Own (env : ME) (σ : St) (S : SS) (b : Addr) : Prop := ∃ (l : Plc) (m : MO), Has env l m ∧ Adr σ S l b
def OwnO (env : ME) (σ : St) (S : SS) (b : Addr) : Prop := ∃ (l : Plc) (m : MO), env.at l = some (Sl.o m) ∧ Adr σ S l b

structure Rel (K : PySem.W.Frag) (S : SS) (env : ME) (σ : St) (H : Hp) : Prop where
  len : env.sl.length = σ.length
  nlen : env.ce.length = S.nm.length
  sub : Same S.hp H
  val : ∀ (i : Nat) (d : D), env.sl[i]? = some (some (Sl.v d)) → ∃ v, σ[i]? = some (some v) ∧ Rep K S.hp d v
  hnd : ∀ (i n : Nat), env.sl[i]? = some (some (Sl.h n)) → ∃ a, σ[i]? = some (some (V.ref a)) ∧ S.nm[n]? = some a
  obj : ∀ (l : Plc) (m : MO), Has env l m → ∃ a o, Adr σ S l a ∧ H a = some o ∧ S.hp a = none ∧ RepO K S m o
  dis : ∀ (l l' : Plc) (m m' : MO) (a : Addr), Has env l m → Has env l' m' → Adr σ S l a → Adr σ S l' a → l = l'

structure Step (K : PySem.W.Frag) (S : SS) (env : ME) (σ : St) (H : Hp) (S' : SS) (env' : ME) (σ' : St) (H' : Hp) : Prop where
  rel : Rel K S' env' σ' H'
  le : Le S.hp S'.hp
  nm : ∀ (n : Nat) (a : Addr), S.nm[n]? = some a → S'.nm[n]? = some a
  fresh : ∀ b, S'.hp b ≠ none → S.hp b ≠ none ∨ H b = none ∨ OwnO env σ S b
  frame : ∀ b o, H b = some o → S.hp b = none → ¬ Own env σ S b → H' b = some o
  bor : ∀ (i : Nat) (m : MO), env.sl[i]? = some (some (Sl.b m)) → (∃ m', env'.sl[i]? = some (some (Sl.b m'))) ∧ σ'[i]? = σ[i]?
  borr : ∀ (i : Nat) (m : MO), env'.sl[i]? = some (some (Sl.b m)) → ∃ m', env.sl[i]? = some (some (Sl.b m'))
  own : ∀ a, OwnO env' σ' S' a → OwnO env σ S a ∨ H a = none
  len : σ'.length = σ.length
  keep : ∀ b, S.hp b ≠ none → S'.hp b ≠ none

theorem OwnO.own {env : ME} {σ : St} {S : SS} {b : Addr} (h : OwnO env σ S b) : Own env σ S b := by
  obtain ⟨i, m, e, q⟩ := h
  exact ⟨i, m, ⟨_, e, rfl⟩, q⟩
theorem Rel.step {K : PySem.W.Frag} {S : SS} {env : ME} {σ : St} {H : Hp} (r : Rel K S env σ H) : Step K S env σ H S env σ H :=
  ⟨r, Le.refl S.hp, fun _ _ h => h, fun b h => .inl h, fun b o h _ _ => h, fun i m h => ⟨⟨m, h⟩, rfl⟩, fun i m h => ⟨m, h⟩, fun a h => .inl h, rfl, fun _ h => h⟩
section
variable {K : PySem.W.Frag} {S S1 S2 : SS} {env env1 env2 : ME} {σ σ1 σ2 : St} {H H1 H2 : Hp}
theorem Step.nle (x : Step K S env σ H S1 env1 σ1 H1) : LeN S S1 := ⟨x.le, x.nm⟩
/-- a slot or cell: whose it is -/
theorem own_cases {b : Addr} (h : Own env σ S b) : OwnO env σ S b ∨ ∃ (i : Nat) (m : MO), env.sl[i]? = some (some (Sl.b m)) ∧ σ[i]? = some (some (V.ref b)) := by
  obtain ⟨l, m, ⟨s, e1, e2⟩, e3⟩ := h
  cases s with
  | v d => cases e2
  | h n => cases e2
  | o m' => exact .inl ⟨l, m', e1, e3⟩
  | b m' =>
    cases l with
    | s i => exact .inr ⟨i, m', at_s.mp e1, e3⟩
    | c n =>
      obtain ⟨m2, q, _⟩ := at_c.mp e1
      cases q
/-- what is gone behind a step was not there, or an own object -/
theorem Step.gone (x : Step K S env σ H S1 env1 σ1 H1) {b : Addr} (h : H1 b = none) : H b = none ∨ OwnO env σ S b := by
  cases e : H b with
  | none => exact .inl rfl
  | some o =>
    refine .inr ?_
    cases eS : S.hp b with
    | some u =>
      have q := x.keep b (by rw [eS]; simp)
      cases eq : S1.hp b with
      | none => exact absurd eq q
      | some u2 => rw [x.rel.sub _ _ eq] at h; cases h
    | none =>
    by_cases w : Own env σ S b
    · rcases own_cases w with w | ⟨i, m', e1, e3⟩
      · exact w
      · exfalso
        obtain ⟨⟨m2, q1⟩, q2⟩ := x.bor i m' e1
        obtain ⟨a, o2, z1, z2, _, _⟩ := x.rel.obj (.s i) m2 ⟨_, at_s.mpr q1, rfl⟩
        have z1' : σ1[i]? = some (some (V.ref a)) := z1
        rw [q2, e3] at z1'
        cases z1'
        rw [h] at z2
        cases z2
    · rw [x.frame b o e eS w] at h
      cases h
theorem Step.trans (x : Step K S env σ H S1 env1 σ1 H1) (y : Step K S1 env1 σ1 H1 S2 env2 σ2 H2) : Step K S env σ H S2 env2 σ2 H2 := by
  refine ⟨y.rel, x.le.trans y.le, fun n a h => y.nm n a (x.nm n a h), fun b h => ?_, fun b o h hS n => ?_, fun i m h => ?_, fun i m h => ?_, fun a h => ?_, y.len.trans x.len, fun b h => y.keep b (x.keep b h)⟩
  · rcases y.fresh b h with h | h | h
    · exact x.fresh b h
    · rcases x.gone h with h | h
      · exact .inr (.inl h)
      · exact .inr (.inr h)
    · rcases x.own b h with h | h
      · exact .inr (.inr h)
      · exact .inr (.inl h)
  · have hS1 : S1.hp b = none := by
      cases e : S1.hp b with
      | none => rfl
      | some u =>
        rcases x.fresh b (by rw [e]; simp) with q | q | q
        · exact absurd hS q
        · rw [h] at q; cases q
        · exact absurd q.own n
    refine y.frame b o (x.frame b o h hS n) hS1 ?_
    intro w
    rcases own_cases w with w | ⟨i, m', e1, e3⟩
    · rcases x.own b w with w | w
      · exact n w.own
      · rw [h] at w; cases w
    · obtain ⟨m0, q⟩ := x.borr i m' e1
      obtain ⟨_, q2⟩ := x.bor i m0 q
      exact n ⟨.s i, m0, ⟨_, at_s.mpr q, rfl⟩, by show σ[i]? = _; rw [← q2]; exact e3⟩
  · obtain ⟨⟨m1, q1⟩, q2⟩ := x.bor i m h
    obtain ⟨m2, q4⟩ := y.bor i m1 q1
    exact ⟨m2, q4.trans q2⟩
  · obtain ⟨m1, q1⟩ := y.borr i m h
    exact x.borr i m1 q1
  · rcases y.own a h with h | h
    · exact x.own a h
    · rcases x.gone h with h | h
      · exact .inr h
      · exact .inl h
theorem Adr.up {l : Plc} {a p : Addr} {o : HO} (h : Adr σ S l a) : Adr σ (S.up p o) l a := by
  cases l <;> exact h
theorem Adr.dn {l : Plc} {a p : Addr} {o : HO} (h : Adr σ (S.up p o) l a) : Adr σ S l a := by
  cases l <;> exact h
/-- a new object that stays -/
theorem Rel.alloc (r : Rel K S env σ H) {p : Addr} {o : HO} (hp : H p = none) : Step K S env σ H (S.up p o) env σ (upd H p o) := by
  have hS : S.hp p = none := by
    cases e : S.hp p with
    | none => rfl
    | some u => rw [r.sub _ _ e] at hp; cases hp
  have sm : Same S.hp (upd S.hp p o) := fun b u e => by rw [upd_ne (ne_of_none e hS)]; exact e
  have ln : LeN S (S.up p o) := ⟨Le.of sm, fun _ _ h => h⟩
  refine ⟨⟨r.len, r.nlen, fun b u e => ?_, fun i d e => ?_, r.hnd, fun i m e => ?_, fun l l' m m' a h1 h2 h3 h4 => r.dis l l' m m' a h1 h2 h3.dn h4.dn⟩, Le.of sm, fun _ _ h => h, fun b h => ?_, fun b u e _ _ => ?_, fun i m h => ⟨⟨m, h⟩, rfl⟩, fun i m h => ⟨m, h⟩, fun a ⟨l, m, h1, h2⟩ => .inl ⟨l, m, h1, h2.dn⟩, rfl, fun b h q => h (by
    have q : upd S.hp p o b = none := q
    cases e : S.hp b with | none => rfl | some u => rw [sm b u e] at q; cases q)⟩
  · have e : upd S.hp p o b = some u := e
    by_cases hb : b = p
    · subst hb; rw [upd_same] at e; rw [upd_same]; exact e
    · rw [upd_ne hb] at e; rw [upd_ne hb]; exact r.sub b u e
  · obtain ⟨v, e1, e2⟩ := r.val i d e
    exact ⟨v, e1, Rep.mono (Le.of sm) _ _ e2⟩
  · obtain ⟨a, u, e1, e2, e3, e4⟩ := r.obj i m e
    have ne : a ≠ p := ne_of_none e2 hp
    exact ⟨a, u, e1.up, by rw [upd_ne ne]; exact e2, by show upd S.hp p o a = none; rw [upd_ne ne]; exact e3, e4.mono ln⟩
  · by_cases hb : b = p
    · subst hb; exact .inr (.inl hp)
    · have h' : upd S.hp p o b ≠ none := h
      rw [upd_ne hb] at h'; exact .inl h'
  · rw [upd_ne (ne_of_none e hp)]; exact e
/-- an untracked-for-us object beside: H grows alone -/
theorem Rel.beside (r : Rel K S env σ H) {p : Addr} {o : HO} (hp : H p = none) : Step K S env σ H S env σ (upd H p o) := by
  refine ⟨⟨r.len, r.nlen, fun b u e => ?_, r.val, r.hnd, fun i m e => ?_, r.dis⟩, Le.refl S.hp, fun _ _ h => h, fun b h => .inl h, fun b u e _ _ => ?_, fun i m h => ⟨⟨m, h⟩, rfl⟩, fun i m h => ⟨m, h⟩, fun a h => .inl h, rfl, fun _ h => h⟩
  · have e' := r.sub b u e
    rw [upd_ne (ne_of_none e' hp)]; exact e'
  · obtain ⟨a, u, e1, e2, e3, e4⟩ := r.obj i m e
    exact ⟨a, u, e1, by rw [upd_ne (ne_of_none e2 hp)]; exact e2, e3, e4⟩
  · rw [upd_ne (ne_of_none e hp)]; exact e

/-! ### a slot is changed -/
theorem set_get {α : Type} {l : List α} {i j : Nat} {x y : α} (h : (l.set i x)[j]? = some y) : (j = i ∧ y = x ∧ i < l.length) ∨ (j ≠ i ∧ l[j]? = some y) := by
  by_cases e : i = j
  · subst e
    have hl : i < l.length := by
      have := (List.getElem?_eq_some_iff.mp h).1
      simpa using this
    rw [List.getElem?_set_self hl] at h
    exact .inl ⟨rfl, (Option.some.inj h).symm, hl⟩
  · rw [List.getElem?_set_ne e] at h
    exact .inr ⟨fun z => e z.symm, h⟩
theorem at_set {i : Nat} {x : Option Sl} {l : Plc} {s : Sl} (h : (env.set i x).at l = some s) : (l = .s i ∧ x = some s ∧ i < env.sl.length) ∨ (l ≠ .s i ∧ env.at l = some s) := by
  cases l with
  | s j =>
    rcases set_get (at_s.mp h) with ⟨rfl, e, hl⟩ | ⟨n, e⟩
    · exact .inl ⟨rfl, e.symm, hl⟩
    · exact .inr ⟨fun z => n (by cases z; rfl), at_s.mpr e⟩
  | c n => exact .inr ⟨(fun z => nomatch z), h⟩
theorem at_set_ne {i : Nat} {x : Option Sl} {l : Plc} (n : l ≠ .s i) : (env.set i x).at l = env.at l := by
  cases l with
  | s j =>
    unfold ME.at
    dsimp only
    rw [List.getElem?_set_ne (fun z => n (by rw [z]))]
  | c n => rfl
theorem has_set {i : Nat} {x : Option Sl} {l : Plc} {m : MO} (h : Has (env.set i x) l m) : (l = .s i ∧ i < env.sl.length ∧ ∃ q, x = some q ∧ q.mo = some m) ∨ (l ≠ .s i ∧ Has env l m) := by
  obtain ⟨s, e1, e2⟩ := h
  rcases at_set e1 with ⟨rfl, e, hl⟩ | ⟨n, e⟩
  · exact .inl ⟨rfl, hl, s, e, e2⟩
  · exact .inr ⟨n, s, e, e2⟩
theorem adr_set {i : Nat} {x : Option V} {l : Plc} {a : Addr} (n : l ≠ .s i) : Adr (σ.set i x) S l a ↔ Adr σ S l a := by
  cases l with
  | s j =>
    show (σ.set i x)[j]? = _ ↔ _
    rw [List.getElem?_set_ne (fun z => n (by rw [z]))]
    exact Iff.rfl
  | c n => exact Iff.rfl
/-- the slot is not lent -/
def NotB (env : ME) (i : Nat) : Prop := ∀ m, env.sl[i]? ≠ some (some (.b m))
/-- a slot is given what holds no object of its own (or is forgotten) -/
theorem Rel.setN (r : Rel K S env σ H) {i : Nat} {x : Option Sl} {y : Option V} (nb : NotB env i) (nm : ∀ s, x = some s → s.mo = none)
    (hv : ∀ d, x = some (.v d) → ∃ v, y = some v ∧ Rep K S.hp d v) (hh : ∀ n, x = some (.h n) → ∃ a, y = some (.ref a) ∧ S.nm[n]? = some a) : Step K S env σ H S (env.set i x) (σ.set i y) H := by
  have old : ∀ l m, Has (env.set i x) l m → l ≠ .s i ∧ Has env l m := fun l m h => by
    rcases has_set h with ⟨_, _, q, e1, e2⟩ | h
    · rw [nm q e1] at e2; cases e2
    · exact h
  refine ⟨⟨by simp [r.len], r.nlen, r.sub, fun j d' e => ?_, fun j n e => ?_, fun l m e => ?_, fun l l' m m' a e1 e2 e3 e4 => ?_⟩, Le.refl S.hp, fun _ _ h => h, fun b h => .inl h, fun b u e _ _ => e, fun j m h => ?_, fun j m h => ?_, fun a h => ?_, by simp, fun _ h => h⟩
  · rcases set_get e with ⟨rfl, e, hl⟩ | ⟨n, e⟩
    · obtain ⟨v, e1, e2⟩ := hv d' e.symm
      exact ⟨v, by rw [← e1]; exact List.getElem?_set_self (by rw [← r.len]; exact hl), e2⟩
    · rw [List.getElem?_set_ne (fun z => n z.symm)]
      exact r.val j d' e
  · rcases set_get e with ⟨rfl, e, hl⟩ | ⟨n, e⟩
    · obtain ⟨v, e1, e2⟩ := hh n e.symm
      exact ⟨v, by rw [← e1]; exact List.getElem?_set_self (by rw [← r.len]; exact hl), e2⟩
    · rw [List.getElem?_set_ne (fun z => n z.symm)]
      exact r.hnd j _ e
  · obtain ⟨n, h⟩ := old l m e
    obtain ⟨a, o, q1, q2⟩ := r.obj l m h
    exact ⟨a, o, (adr_set n).mpr q1, q2⟩
  · obtain ⟨n1, h1⟩ := old l m e1
    obtain ⟨n2, h2⟩ := old l' m' e2
    exact r.dis l l' m m' a h1 h2 ((adr_set n1).mp e3) ((adr_set n2).mp e4)
  · have hj : i ≠ j := fun z => nb m (by rw [z]; exact h)
    rw [List.getElem?_set_ne hj, List.getElem?_set_ne hj]
    exact ⟨⟨m, h⟩, rfl⟩
  · rcases set_get h with ⟨rfl, e, hl⟩ | ⟨n, e⟩
    · have := nm _ e.symm
      cases this
    · exact ⟨m, e⟩
  · obtain ⟨l, m, e1, e2⟩ := h
    obtain ⟨n, q⟩ := old l m ⟨_, e1, rfl⟩
    rw [at_set_ne n] at e1
    exact .inl ⟨l, m, e1, (adr_set n).mp e2⟩
/-- a slot is given a deep value -/
theorem Rel.setV (r : Rel K S env σ H) {i : Nat} {d : D} {v : V} (nb : NotB env i) (hd : Rep K S.hp d v) : Step K S env σ H S (env.set i (some (.v d))) (σ.set i (some v)) H :=
  r.setN nb (fun s e => by cases e; rfl) (fun d' e => by cases e; exact ⟨v, rfl, hd⟩) fun n e => by cases e
/-- .. the object of a cell -/
theorem Rel.setH (r : Rel K S env σ H) {i n : Nat} {a : Addr} (nb : NotB env i) (hd : S.nm[n]? = some a) : Step K S env σ H S (env.set i (some (.h n))) (σ.set i (some (.ref a))) H :=
  r.setN nb (fun s e => by cases e; rfl) (fun d' e => by cases e) fun n e => by cases e; exact ⟨a, rfl, hd⟩
/-- what we say of a slot may be forgotten -/
theorem Rel.forget (r : Rel K S env σ H) {i : Nat} {x : Option V} (nb : NotB env i) : Step K S env σ H S (env.set i none) (σ.set i x) H :=
  r.setN nb (fun s e => by cases e) (fun d' e => by cases e) fun n e => by cases e
end
end Mir

namespace Mir
open PySem PySem.Spec PyProof.Rows L2
section
variable {K : PySem.W.Frag} {S S1 S2 : SS} {env env1 env2 : ME} {σ σ1 σ2 : St} {H H1 H2 : Hp}
theorem lt_of_at {α : Type} {l : List α} {i : Nat} {x : α} (h : l[i]? = some x) : i < l.length := (List.getElem?_eq_some_iff.mp h).1
theorem set_self {α : Type} {l : List α} {i : Nat} {x y : α} (h : (l.set i x)[i]? = some y) : y = x := by
  have hl : i < l.length := by
    have := lt_of_at h
    simpa using this
  rw [List.getElem?_set_self hl] at h
  exact (Option.some.inj h).symm
theorem Rel.noS (r : Rel K S env σ H) {p : Addr} (hp : H p = none) : S.hp p = none := by
  cases e : S.hp p with
  | none => rfl
  | some u => rw [r.sub _ _ e] at hp; cases hp
theorem Rel.noA (r : Rel K S env σ H) {p : Addr} (hp : H p = none) {l : Plc} {m : MO} (h : Has env l m) : ¬ Adr σ S l p := fun e => by
  obtain ⟨a, u, e1, e2, _, _⟩ := r.obj l m h
  have := e1.inj e
  subst this
  rw [hp] at e2
  cases e2
/-- a slot is given a new object of the def's own, laid at p -/
theorem Rel.setO (r : Rel K S env σ H) {i : Nat} {m : MO} {p : Addr} {o : HO} (nb : NotB env i) (hp : H p = none) (ho : RepO K S m o) :
    Step K S env σ H S (env.set i (some (.o m))) (σ.set i (some (.ref p))) (upd H p o) := by
  have hS := r.noS hp
  have old : ∀ (l : Plc) (m' : MO), Has (env.set i (some (.o m))) l m' → (l = .s i ∧ m' = m ∧ i < env.sl.length) ∨ (l ≠ .s i ∧ Has env l m') := fun l m' h => by
    rcases has_set h with ⟨rfl, hl, q, e1, e2⟩ | h
    · cases e1
      cases e2
      exact .inl ⟨rfl, rfl, hl⟩
    · exact .inr h
  have nep : ∀ (l : Plc) (m' : MO), Has env l m' → ¬ Adr σ S l p := fun l m' h => r.noA hp h
  have self : i < env.sl.length → (σ.set i (some (V.ref p)))[i]? = some (some (.ref p)) := fun hl => List.getElem?_set_self (by rw [← r.len]; exact hl)
  refine ⟨⟨by simp [r.len], r.nlen, fun b u e => ?_, fun j d' e => ?_, fun j n e => ?_, fun l m' e => ?_, fun l k m' m2 a e1 e2 e3 e4 => ?_⟩, Le.refl S.hp, fun _ _ h => h, fun b h => .inl h, fun b u e _ _ => ?_, fun j m' h => ?_, fun j m' h => ?_, fun a h => ?_, by simp, fun _ h => h⟩
  · have e' := r.sub b u e
    rw [upd_ne (ne_of_none e' hp)]; exact e'
  · rcases set_get e with ⟨rfl, e, hl⟩ | ⟨n, e⟩
    · cases e
    · rw [List.getElem?_set_ne (fun z => n z.symm)]
      exact r.val j d' e
  · rcases set_get e with ⟨rfl, e, hl⟩ | ⟨n, e⟩
    · cases e
    · rw [List.getElem?_set_ne (fun z => n z.symm)]
      exact r.hnd j _ e
  · rcases old l m' e with ⟨rfl, rfl, hl⟩ | ⟨n, h⟩
    · exact ⟨p, o, self hl, upd_same, hS, ho⟩
    · obtain ⟨a, u, e1, e2, e3, e4⟩ := r.obj l m' h
      exact ⟨a, u, (adr_set n).mpr e1, by rw [upd_ne (ne_of_none e2 hp)]; exact e2, e3, e4⟩
  · rcases old l m' e1 with ⟨rfl, rfl, hl⟩ | ⟨n1, h1⟩ <;> rcases old k m2 e2 with ⟨rfl, rfl, hl2⟩ | ⟨n2, h2⟩
    · rfl
    · exfalso
      have e5 : a = p := Adr.inj (S := S) (l := .s i) e3 (self hl)
      subst e5
      exact nep k m2 h2 ((adr_set n2).mp e4)
    · exfalso
      have e5 : a = p := Adr.inj (S := S) (l := .s i) e4 (self hl2)
      subst e5
      exact nep l m' h1 ((adr_set n1).mp e3)
    · exact r.dis l k m' m2 a h1 h2 ((adr_set n1).mp e3) ((adr_set n2).mp e4)
  · rw [upd_ne (ne_of_none e hp)]; exact e
  · have hj : i ≠ j := fun z => nb m' (by rw [z]; exact h)
    rw [List.getElem?_set_ne hj, List.getElem?_set_ne hj]
    exact ⟨⟨m', h⟩, rfl⟩
  · rcases set_get h with ⟨rfl, e, hl⟩ | ⟨n, e⟩
    · cases e
    · exact ⟨m', e⟩
  · obtain ⟨l, m', e1, e2⟩ := h
    rcases at_set e1 with ⟨rfl, e, hl⟩ | ⟨n, e⟩
    · have e5 : a = p := Adr.inj (S := S) (l := .s i) e2 (self hl)
      subst e5
      exact .inr hp
    · exact .inl ⟨l, m', e, (adr_set n).mp e2⟩
/-! ### a cell more -/
theorem push_c {e : ME} {m : MO} {l : Plc} {s : Sl} (h : (e.push m).at l = some s) : (l = .c e.ce.length ∧ s = .o m) ∨ (l ≠ .c e.ce.length ∧ e.at l = some s) := by
  cases l with
  | s i => exact .inr ⟨(fun z => nomatch z), h⟩
  | c n =>
    obtain ⟨m', rfl, q⟩ := at_c.mp h
    by_cases hn : n < e.ce.length
    · have q : (e.ce ++ [some m])[n]? = some (some m') := q
      rw [List.getElem?_append_left hn] at q
      exact .inr ⟨fun z => by cases z; omega, at_c.mpr ⟨m', rfl, q⟩⟩
    · have q : (e.ce ++ [some m])[n]? = some (some m') := q
      rw [List.getElem?_append_right (by omega)] at q
      have h0 : n = e.ce.length := by
        have := lt_of_at q
        simp at this
        omega
      subst h0
      simp at q
      subst q
      exact .inl ⟨rfl, rfl⟩
theorem Adr.add {l : Plc} {a p : Addr} (h : Adr σ S l a) : Adr σ (S.add p) l a := by
  cases l with
  | s i => exact h
  | c n =>
    have h : S.nm[n]? = some a := h
    show (S.nm ++ [p])[n]? = some a
    rw [List.getElem?_append_left (lt_of_at h)]
    exact h
theorem Adr.sub {l : Plc} {a p : Addr} (h : Adr σ (S.add p) l a) (n : l ≠ .c S.nm.length) : Adr σ S l a := by
  cases l with
  | s i => exact h
  | c k =>
    have h : (S.nm ++ [p])[k]? = some a := h
    by_cases hk : k < S.nm.length
    · rw [List.getElem?_append_left hk] at h
      exact h
    · rw [List.getElem?_append_right (by omega)] at h
      have := lt_of_at h
      simp at this
      have : k = S.nm.length := by omega
      subst this
      exact absurd rfl n
theorem adr_last {p : Addr} : Adr σ (S.add p) (.c S.nm.length) p := by
  show (S.nm ++ [p])[S.nm.length]? = some p
  simp
theorem lenN_add {p : Addr} : LeN S (S.add p) := ⟨Le.refl S.hp, fun n a h => Adr.add (σ := []) (l := .c n) h⟩
/-- a new object, laid at p, in a new cell -/
theorem Rel.push (r : Rel K S env σ H) {m : MO} {p : Addr} {o : HO} (hp : H p = none) (ho : RepO K S m o) : Step K S env σ H (S.add p) (env.push m) σ (upd H p o) := by
  have hS := r.noS hp
  have ln : LeN S (S.add p) := lenN_add
  have old : ∀ (l : Plc) (m' : MO), Has (env.push m) l m' → (l = .c S.nm.length ∧ m' = m) ∨ (l ≠ .c S.nm.length ∧ Has env l m') := fun l m' ⟨s, h, hm⟩ => by
    rw [← r.nlen]
    rcases push_c h with ⟨rfl, rfl⟩ | ⟨n, h⟩
    · cases hm; exact .inl ⟨rfl, rfl⟩
    · exact .inr ⟨n, s, h, hm⟩
  refine ⟨⟨r.len, by simp [r.nlen], fun b u e => ?_, r.val, fun i n e => ?_, fun l m' e => ?_, fun l k m' m2 a e1 e2 e3 e4 => ?_⟩, Le.refl S.hp, ln.nm, fun b h => .inl h, fun b u e _ _ => ?_, fun j m' h => ⟨⟨m', h⟩, rfl⟩, fun j m' h => ⟨m', h⟩, fun a h => ?_, rfl, fun _ h => h⟩
  · have e' := r.sub b u e
    rw [upd_ne (ne_of_none e' hp)]; exact e'
  · obtain ⟨a, e1, e2⟩ := r.hnd i n e
    exact ⟨a, e1, ln.nm _ _ e2⟩
  · rcases old l m' e with ⟨rfl, rfl⟩ | ⟨n, h⟩
    · exact ⟨p, o, adr_last, upd_same, hS, ho.mono ln⟩
    · obtain ⟨a, u, e1, e2, e3, e4⟩ := r.obj l m' h
      exact ⟨a, u, e1.add, by rw [upd_ne (ne_of_none e2 hp)]; exact e2, e3, e4.mono ln⟩
  · rcases old l m' e1 with ⟨rfl, rfl⟩ | ⟨n1, h1⟩ <;> rcases old k m2 e2 with ⟨rfl, rfl⟩ | ⟨n2, h2⟩
    · rfl
    · have e5 : a = p := e3.inj adr_last
      subst e5
      exact absurd (e4.sub n2) (r.noA hp h2)
    · have e5 : a = p := e4.inj adr_last
      subst e5
      exact absurd (e3.sub n1) (r.noA hp h1)
    · exact r.dis l k m' m2 a h1 h2 (e3.sub n1) (e4.sub n2)
  · rw [upd_ne (ne_of_none e hp)]; exact e
  · obtain ⟨l, m', e1, e2⟩ := h
    rcases push_c e1 with ⟨rfl, _⟩ | ⟨n, e⟩
    · rw [r.nlen] at e2
      have e5 : a = p := e2.inj adr_last
      subst e5
      exact .inr hp
    · rw [r.nlen] at n
      exact .inl ⟨l, m', e, e2.sub n⟩
/-! ### an object is changed -/
/-- a slot's object with another content -/
def Sl.put (m : MO) : Sl → Sl
  | .v d => .v d
  | .o _ => .o m
  | .b _ => .b m
  | .h n => .h n
abbrev ME.putL (e : ME) (l : Plc) (s : Sl) (m : MO) : ME := match l with
  | .s i => e.set i (some (s.put m))
  | .c n => e.setC n (some m)
theorem at_setC {e : ME} {n : Nat} {x : Option MO} {l : Plc} {s : Sl} (h : (e.setC n x).at l = some s) : (l = .c n ∧ n < e.ce.length ∧ ∃ m, x = some m ∧ s = .o m) ∨ (l ≠ .c n ∧ e.at l = some s) := by
  cases l with
  | s i => exact .inr ⟨(fun z => nomatch z), h⟩
  | c k =>
    obtain ⟨m, rfl, q⟩ := at_c.mp h
    rcases set_get q with ⟨rfl, e, hl⟩ | ⟨n, e⟩
    · exact .inl ⟨rfl, hl, m, e.symm, rfl⟩
    · exact .inr ⟨fun z => n (by cases z; rfl), at_c.mpr ⟨m, rfl, e⟩⟩
theorem at_setC_ne {e : ME} {n : Nat} {x : Option MO} {l : Plc} (h : l ≠ .c n) : (e.setC n x).at l = e.at l := by
  cases l with
  | s i => rfl
  | c k =>
    unfold ME.at
    dsimp only
    rw [List.getElem?_set_ne (fun z => h (by rw [z]))]
theorem put_mo {s : Sl} {m m' : MO} (h : s.mo = some m) : (s.put m').mo = some m' := by
  cases s with
  | v d => cases h
  | o z => rfl
  | b z => rfl
  | h n => cases h
theorem at_putL {l k : Plc} {s t : Sl} {m m' : MO} (hs : env.at l = some s) (hm : s.mo = some m) (h : (env.putL l s m').at k = some t) : (k = l ∧ t = s.put m') ∨ (k ≠ l ∧ env.at k = some t) := by
  cases l with
  | s i =>
    rcases at_set h with ⟨rfl, e, _⟩ | h
    · exact .inl ⟨rfl, (Option.some.inj e).symm⟩
    · exact .inr h
  | c n =>
    rcases at_setC h with ⟨rfl, _, m2, e, rfl⟩ | h
    · obtain ⟨m3, rfl, _⟩ := at_c.mp hs
      cases e
      exact .inl ⟨rfl, rfl⟩
    · exact .inr h
theorem putL_at {l : Plc} {s : Sl} {m m' : MO} (hs : env.at l = some s) (hm : s.mo = some m) : (env.putL l s m').at l = some (s.put m') := by
  cases l with
  | s i => exact at_s.mpr (List.getElem?_set_self (lt_of_at (at_s.mp hs)))
  | c n =>
    obtain ⟨m3, rfl, q⟩ := at_c.mp hs
    exact at_c.mpr ⟨m', rfl, List.getElem?_set_self (lt_of_at q)⟩
theorem putL_sl {l : Plc} {s : Sl} {m' : MO} (i : Nat) (n : l ≠ .s i) : (env.putL l s m').sl[i]? = env.sl[i]? := by
  cases l with
  | s j => exact List.getElem?_set_ne (fun z => n (by rw [z]))
  | c k => rfl
theorem putL_len {l : Plc} {s : Sl} {m' : MO} : (env.putL l s m').sl.length = env.sl.length ∧ (env.putL l s m').ce.length = env.ce.length := by
  cases l with
  | s j => simp [ME.putL]
  | c k => simp [ME.putL]
theorem Rel.mutL (r : Rel K S env σ H) {l : Plc} {m m' : MO} {s : Sl} {a : Addr} {o' : HO} (hs : env.at l = some s) (hm : s.mo = some m) (ha : Adr σ S l a) (ho : RepO K S m' o') :
    Step K S env σ H S (env.putL l s m') σ (upd H a o') := by
  obtain ⟨a0, u0, x1, x2, x3, x4⟩ := r.obj l m ⟨s, hs, hm⟩
  have e0 := x1.inj ha
  subst e0
  have old : ∀ (k : Plc) (m2 : MO), Has (env.putL l s m') k m2 → (k = l ∧ m2 = m') ∨ (k ≠ l ∧ Has env k m2) := fun k m2 ⟨t, h, hm2⟩ => by
    rcases at_putL hs hm h with ⟨rfl, rfl⟩ | ⟨n, h⟩
    · rw [put_mo hm] at hm2
      exact .inl ⟨rfl, (Option.some.inj hm2).symm⟩
    · exact .inr ⟨n, t, h, hm2⟩
  have ne : ∀ (k : Plc) (m2 : MO) (b : Addr), k ≠ l → Has env k m2 → Adr σ S k b → b ≠ a0 := fun k m2 b n h e z => by
    subst z
    exact n (r.dis k l m2 m b h ⟨s, hs, hm⟩ e ha)
  obtain ⟨hl1, hl2⟩ := putL_len (env := env) (l := l) (s := s) (m' := m')
  refine ⟨⟨hl1.trans r.len, hl2.trans r.nlen, fun b u e => ?_, fun j d' e => ?_, fun j n e => ?_, fun k m2 e => ?_, fun j k m2 m3 b e1 e2 e3 e4 => ?_⟩, Le.refl S.hp, fun _ _ h => h, fun b h => .inl h, fun b u e _ n => ?_, fun j m2 h => ?_, fun j m2 h => ?_, fun b h => ?_, rfl, fun _ h => h⟩
  · have e' := r.sub b u e
    have hb : b ≠ a0 := fun z => by
      subst z
      rw [x3] at e
      cases e
    rw [upd_ne hb]; exact e'
  · rcases at_putL hs hm (at_s.mpr e) with ⟨rfl, e5⟩ | ⟨n, h⟩
    · cases s with
      | v d => cases hm
      | o z => cases e5
      | b z => cases e5
      | h n => cases hm
    · exact r.val j d' (at_s.mp h)
  · rcases at_putL hs hm (at_s.mpr e) with ⟨rfl, e5⟩ | ⟨_, h⟩
    · cases s with
      | v d => cases hm
      | o z => cases e5
      | b z => cases e5
      | h n => cases hm
    · exact r.hnd j n (at_s.mp h)
  · rcases old k m2 e with ⟨rfl, rfl⟩ | ⟨n, h⟩
    · exact ⟨a0, o', ha, upd_same, x3, ho⟩
    · obtain ⟨b, u, e1, e2, e3, e4⟩ := r.obj k m2 h
      exact ⟨b, u, e1, by rw [upd_ne (ne k m2 b n h e1)]; exact e2, e3, e4⟩
  · rcases old j m2 e1 with ⟨rfl, rfl⟩ | ⟨n1, h1⟩ <;> rcases old k m3 e2 with ⟨rfl, rfl⟩ | ⟨n2, h2⟩
    · rfl
    · exact absurd (e3.inj ha) (ne k m3 _ n2 h2 e4)
    · exact absurd (e4.inj ha) (ne j m2 _ n1 h1 e3)
    · exact r.dis j k m2 m3 b h1 h2 e3 e4
  · have hb : b ≠ a0 := fun z => by
      subst z
      exact n ⟨l, m, ⟨s, hs, hm⟩, ha⟩
    rw [upd_ne hb]; exact e
  · refine ⟨?_, rfl⟩
    by_cases hj : l = .s j
    · subst hj
      have h1 := at_s.mp hs
      rw [h] at h1
      cases h1
      exact ⟨m', at_s.mp (putL_at hs hm)⟩
    · exact ⟨m2, by rw [putL_sl j hj]; exact h⟩
  · rcases at_putL hs hm (at_s.mpr h) with ⟨rfl, e⟩ | ⟨n, h⟩
    · cases s with
      | v d => cases hm
      | o z => cases e
      | b z => exact ⟨z, at_s.mp hs⟩
      | h n => cases hm
    · exact ⟨m2, at_s.mp h⟩
  · obtain ⟨j, m2, e1, e2⟩ := h
    rcases at_putL hs hm e1 with ⟨rfl, e⟩ | ⟨n, h⟩
    · cases s with
      | v d => cases hm
      | o z => exact .inl ⟨j, z, hs, e2⟩
      | b z => cases e
      | h n => cases hm
    · exact .inl ⟨j, m2, h, e2⟩
/-- an object of a slot is changed -/
theorem Rel.mut (r : Rel K S env σ H) {i : Nat} {m m' : MO} {s : Sl} {a : Addr} {o' : HO} (hs : env.sl[i]? = some (some s)) (hm : s.mo = some m) (ha : σ[i]? = some (some (.ref a))) (ho : RepO K S m' o') :
    Step K S env σ H S (env.set i (some (s.put m'))) σ (upd H a o') := r.mutL (l := .s i) (at_s.mpr hs) hm ha ho
/-- an object of a cell is changed -/
theorem Rel.mutC (r : Rel K S env σ H) {n : Nat} {m m' : MO} {a : Addr} {o' : HO} (hs : env.ce[n]? = some (some m)) (ha : S.nm[n]? = some a) (ho : RepO K S m' o') :
    Step K S env σ H S (env.setC n (some m')) σ (upd H a o') := r.mutL (l := .c n) (at_c.mpr ⟨m, rfl, hs⟩) (s := .o m) rfl ha ho
/-! ### an own object is left to itself: from now on it is a deep value -/
theorem Rel.frzS (r : Rel K S env σ H) {l : Plc} {m : MO} (hs : env.at l = some (.o m)) {x : Option Sl} (hx : ∀ s, x = some s → s.mo = none) {env' : ME}
    (he : (∃ i, l = .s i ∧ env' = env.set i x) ∨ ∃ n, l = .c n ∧ env' = env.setC n none)
    (hv : ∀ (i : Nat) (d : D) (a : Addr) (o : HO), l = .s i → x = some (.v d) → σ[i]? = some (some (V.ref a)) → RepO K S m o → Le S.hp (upd S.hp a o) → Rep K (upd S.hp a o) d (.ref a)) (hh : ∀ n, x ≠ some (.h n)) :
    ∃ a o, Adr σ S l a ∧ RepO K S m o ∧ H a = some o ∧ S.hp a = none ∧ Step K S env σ H (S.up a o) env' σ H := by
  obtain ⟨a, u, x1, x2, x3, x4⟩ := r.obj l m ⟨_, hs, rfl⟩
  have sm : Same S.hp (upd S.hp a u) := fun b w e => by rw [upd_ne (ne_of_none e x3)]; exact e
  have ln : LeN S (S.up a u) := ⟨Le.of sm, fun _ _ h => h⟩
  have oldS : ∀ (k : Plc) (s : Sl), env'.at k = some s → (k = l ∧ s.mo = none ∧ x = some s ∧ ∃ i, l = .s i) ∨ (k ≠ l ∧ env.at k = some s) := fun k s h => by
    rcases he with ⟨i, rfl, rfl⟩ | ⟨n, rfl, rfl⟩
    · rcases at_set h with ⟨rfl, e, _⟩ | h
      · exact .inl ⟨rfl, hx s e, e, i, rfl⟩
      · exact .inr h
    · rcases at_setC h with ⟨rfl, _, m2, e, _⟩ | h
      · cases e
      · exact .inr h
  have old : ∀ (k : Plc) (m2 : MO), Has env' k m2 → k ≠ l ∧ Has env k m2 := fun k m2 ⟨s, h, hm⟩ => by
    rcases oldS k s h with ⟨_, e, _⟩ | ⟨n, h⟩
    · rw [e] at hm; cases hm
    · exact ⟨n, s, h, hm⟩
  have lens : env'.sl.length = env.sl.length ∧ env'.ce.length = env.ce.length := by
    rcases he with ⟨i, rfl, rfl⟩ | ⟨n, rfl, rfl⟩ <;> simp
  refine ⟨a, u, x1, x4, x2, x3, ⟨lens.1.trans r.len, lens.2.trans r.nlen, fun b w e => ?_, fun j d' e => ?_, fun j n e => ?_, fun k m2 e => ?_, fun j k m2 m3 b e1 e2 e3 e4 => ?_⟩, Le.of sm, fun _ _ h => h, fun b h => ?_, fun b w e _ n => e, fun j m2 h => ?_, fun j m2 h => ?_, fun b h => ?_, rfl, fun b h q => h (by
    have q : upd S.hp a u b = none := q
    cases e : S.hp b with | none => rfl | some w => rw [sm b w e] at q; cases q)⟩
  · have e : upd S.hp a u b = some w := e
    by_cases hb : b = a
    · subst hb; rw [upd_same] at e; cases e; exact x2
    · rw [upd_ne hb] at e; exact r.sub b w e
  · rcases oldS (.s j) _ (at_s.mpr e) with ⟨rfl, _, e, _⟩ | ⟨n, h⟩
    · exact ⟨.ref a, x1, hv j d' a u rfl e x1 x4 (Le.of sm)⟩
    · obtain ⟨v, e1, e2⟩ := r.val j d' (at_s.mp h)
      exact ⟨v, e1, Rep.mono (Le.of sm) _ _ e2⟩
  · rcases oldS (.s j) _ (at_s.mpr e) with ⟨rfl, _, e, _⟩ | ⟨_, h⟩
    · exact absurd e (hh n)
    · exact r.hnd j n (at_s.mp h)
  · obtain ⟨n, h⟩ := old k m2 e
    obtain ⟨b, w, e1, e2, e3, e4⟩ := r.obj k m2 h
    have hb : b ≠ a := fun z => by
      subst z
      exact n (r.dis k l m2 m b h ⟨_, hs, rfl⟩ e1 x1)
    exact ⟨b, w, e1.up, e2, by show upd S.hp a u b = none; rw [upd_ne hb]; exact e3, e4.mono ln⟩
  · exact r.dis j k m2 m3 b (old j m2 e1).2 (old k m3 e2).2 e3.dn e4.dn
  · have h : upd S.hp a u b ≠ none := h
    by_cases hb : b = a
    · subst hb; exact .inr (.inr ⟨l, m, hs, x1⟩)
    · rw [upd_ne hb] at h; exact .inl h
  · have hj : l ≠ .s j := fun z => by
      subst z
      rw [at_s.mp hs] at h
      cases h
    rcases he with ⟨i, rfl, rfl⟩ | ⟨n, rfl, rfl⟩
    · rw [List.getElem?_set_ne (fun z => hj (by rw [z]))]
      exact ⟨⟨m2, h⟩, rfl⟩
    · exact ⟨⟨m2, h⟩, rfl⟩
  · rcases oldS (.s j) _ (at_s.mpr h) with ⟨_, e, _⟩ | ⟨n, h⟩
    · cases e
    · exact ⟨m2, at_s.mp h⟩
  · obtain ⟨j, m2, e1, e2⟩ := h
    rcases oldS j _ e1 with ⟨_, e, _⟩ | ⟨n, h⟩
    · cases e
    · exact .inl ⟨j, m2, h, e2.dn⟩
theorem Rel.frz (r : Rel K S env σ H) {i : Nat} {m : MO} {d : D} (hs : env.sl[i]? = some (some (.o m))) (hd : m.d = some d) : ∃ S', Step K S env σ H S' (env.set i (some (.v d))) σ H := by
  obtain ⟨a, o, _, _, _, _, st⟩ := r.frzS (l := .s i) (at_s.mpr hs) (x := some (.v d)) (fun s e => by cases e; rfl) (.inl ⟨i, rfl, rfl⟩)
    (fun i d' a o _ e _ ho le => by
      cases e
      have := (ho.mono (S2 := S.up a o) ⟨le, fun _ _ h => h⟩).rep hd upd_same
      exact this) (fun n e => nomatch e)
  exact ⟨_, st⟩
theorem Rel.frzC (r : Rel K S env σ H) {n : Nat} {m : MO} {d : D} (hs : env.ce[n]? = some (some m)) (hd : m.d = some d) : ∃ S' a, S.nm[n]? = some a ∧ Step K S env σ H S' (env.setC n none) σ H ∧ Rep K S'.hp d (.ref a) := by
  obtain ⟨a, o, h1, h2, h3, h4, st⟩ := r.frzS (l := .c n) (at_c.mpr ⟨m, rfl, hs⟩) (x := none) (fun s e => by cases e) (.inr ⟨n, rfl, rfl⟩)
    (fun i d' a o e _ _ ho le => by cases e) (fun n e => nomatch e)
  exact ⟨_, a, h1, st, (h2.mono st.nle).rep hd upd_same⟩
end
end Mir

namespace Mir
open PySem PySem.Spec PyProof.Rows L2

/-! ## what a piece of the text computes -/
inductive Ex where
  | own (C : Str) (fs : List (Str × D)) | bi (n : String)
def RepX (K : PySem.W.Frag) (S : Hp) : Ex → Value → Option Addr → Hp → Prop
  | .own C fs, cls, dd, _ => ∃ Ca, ClsN K C Ca ∧ cls = .ref Ca ∧ ∃ d kvs, dd = some d ∧ S d = some (.xd kvs) ∧ RepF K S fs kvs
  | .bi n, cls, _, _ => cls = .type n
inductive Res (α : Type) where
  | ok (a : α) | ex (x : Ex)
abbrev EF (α : Type) := ME → Option (Res α × ME)
section
variable {α β γ : Type}
def eRet (a : α) : EF α := fun e => some (.ok a, e)
def eLift (o : Option (Res α)) : EF α := fun e => match o with
  | some r => some (r, e)
  | none => none
def eBind (f : EF α) (g : α → EF β) : EF β := fun e => match f e with
  | some (.ok a, e1) => g a e1
  | some (.ex x, e1) => some (.ex x, e1)
  | none => none
end
/-- what is handed on: a deep value, or the object of a slot -/
inductive AV where
  | d (d : D) | own (i : Nat) | hd (n : Nat)
def RA (K : PySem.W.Frag) (σ : St) (S : SS) : AV → V → Prop
  | .d d, v => Rep K S.hp d v
  | .own i, v => σ[i]? = some (some v)
  | .hd n, v => ∃ a, S.nm[n]? = some a ∧ v = .ref a
def RAs (K : PySem.W.Frag) (σ : St) (S : SS) : List AV → List V → Prop
  | [], vs => vs = []
  | a :: as, vs => ∃ v r, vs = v :: r ∧ RA K σ S a v ∧ RAs K σ S as r
theorem RA.mono {K : PySem.W.Frag} {σ : St} {S S2 : SS} (x : LeN S S2) {a : AV} {v : V} (h : RA K σ S a v) : RA K σ S2 a v := by
  cases a with
  | d d => exact Rep.mono x.le d v h
  | own i => exact h
  | hd n =>
    obtain ⟨a, e, q⟩ := h
    exact ⟨a, x.nm _ _ e, q⟩
theorem RAs.mono {K : PySem.W.Frag} {σ : St} {S S2 : SS} (x : LeN S S2) : ∀ {as : List AV} {vs : List V}, RAs K σ S as vs → RAs K σ S2 as vs
  | [], _, h => h
  | a :: as, _, h => by
    obtain ⟨v, r, e, p, q⟩ := h
    exact ⟨v, r, e, p.mono x, RAs.mono x q⟩

abbrev RR (α β : Type) := St → SS → α → β → Prop
def RD (K : PySem.W.Frag) : RR D V := fun _ S d v => Rep K S.hp d v
def RAv (K : PySem.W.Frag) : RR AV V := fun σ S d v => RA K σ S d v
def RAl (K : PySem.W.Frag) : RR (List AV) (List V) := fun σ S d v => RAs K σ S d v
def RB : RR Bool Bool := fun _ _ a b => a = b

def Post {α β : Type} (K : PySem.W.Frag) (W : WX) (R : RR α β) (σ : St) (Q : β → Hp → Prop) : Res α → SS → Hp → Prop
  | .ok a, S', H' => ∀ b, R σ S' a b → Q b H'
  | .ex x, S', H' => ∀ cls dd, RepX K S' x cls dd H' → W cls dd σ H'
def At {α β : Type} (K : PySem.W.Frag) (W : WX) (R : RR α β) (f : EF α) (S : SS) (env : ME) (σ : St) (H : Hp) (Q : β → Hp → Prop) : Prop :=
  ∃ r env', Rel K S env σ H ∧ f env = some (r, env') ∧ ∀ S' H', Step K S env σ H S' env' σ H' → Post K W R σ Q r S' H'
def tr {α β : Type} (K : PySem.W.Frag) (W : WX) (R : RR α β) (f : EF α) : St → Hp → (β → Hp → Prop) → Prop := fun σ H Q => ∃ S env, At K W R f S env σ H Q

section
variable {α β α' β' : Type} {K : PySem.W.Frag} {W : WX} {R : RR α β} {R' : RR α' β'} {S S1 : SS} {env env1 : ME} {σ : St} {H H1 : Hp} {f : EF α} {g : α → EF α'} {Q : β → Hp → Prop} {Q' : β' → Hp → Prop}
theorem At.rel (h : At K W R f S env σ H Q) : Rel K S env σ H := h.elim fun _ h => h.elim fun _ h => h.1
theorem At.bind (h : At K W R' (eBind f g) S env σ H Q') :
    At K W R f S env σ H (fun b H1 => ∃ a S1 env1, R σ S1 a b ∧ Step K S env σ H S1 env1 σ H1 ∧ At K W R' (g a) S1 env1 σ H1 Q') := by
  obtain ⟨r, env', rel, e, q⟩ := h
  unfold eBind at e
  cases ef : f env with
  | none => rw [ef] at e; cases e
  | some p =>
    obtain ⟨r1, e1⟩ := p
    rw [ef] at e
    cases r1 with
    | ex x =>
      have e' : some (Res.ex x, e1) = some (r, env') := e
      cases e'
      exact ⟨.ex x, _, rel, ef, fun S' H' st => q S' H' st⟩
    | ok a =>
      have e' : g a e1 = some (r, env') := e
      refine ⟨.ok a, e1, rel, ef, fun S1 H1 st b rb => ⟨a, S1, e1, rb, st, r, env', st.rel, e', fun S' H' st' => q S' H' (st.trans st')⟩⟩
theorem At.ret {a : α} (h : At K W R (eRet a) S env σ H Q) {b : β} (rb : R σ S a b) : Q b H := by
  obtain ⟨r, env', rel, e, q⟩ := h
  cases e
  exact q S H rel.step b rb
/-- a step of the heap ahead of the end -/
theorem At.ret' {a : α} (h : At K W R (eRet a) S env σ H Q) {b : β} (st : Step K S env σ H S1 env σ H1) (rb : R σ S1 a b) : Q b H1 := by
  obtain ⟨r, env', rel, e, q⟩ := h
  cases e
  exact q S1 H1 st b rb
theorem At.lift {o : Option (Res α)} (h : At K W R (eLift o) S env σ H Q) : ∃ r, o = some r ∧ ∀ S' H', Step K S env σ H S' env σ H' → Post K W R σ Q r S' H' := by
  obtain ⟨r, env', rel, e, q⟩ := h
  unfold eLift at e
  cases o with
  | none => cases e
  | some r' => cases e; exact ⟨r, rfl, q⟩
theorem At.imp (h : At K W R f S env σ H Q) {Q2 : β → Hp → Prop} (hq : ∀ b H', Q b H' → Q2 b H') : At K W R f S env σ H Q2 := by
  obtain ⟨r, env', rel, e, q⟩ := h
  refine ⟨r, env', rel, e, fun S' H' st => ?_⟩
  have := q S' H' st
  cases r with
  | ok a => exact fun b rb => hq b H' (this b rb)
  | ex x => exact this
end

/-! ## the judgements -/
section
variable {X : Cx}
theorem pe_imp {e : Expr} {t t' : TE} (h : PE X e t) (w : ∀ σ H Q, t' σ H Q → t σ H Q) : PE X e t' := ⟨fun pins s σ H Q I q => h.run pins s σ H Q I (w σ H Q q)⟩
theorem pt_imp {e : Expr} {t t' : TT} (h : PT X e t) (w : ∀ σ H Q, t' σ H Q → t σ H Q) : PT X e t' := ⟨fun pins s σ H Q I q => h.run pins s σ H Q I (w σ H Q q)⟩
theorem pw_imp {e : Expr} {t t' : TT} (h : PW X e t) (w : ∀ σ H Q, t' σ H Q → t σ H Q) : PW X e t' := ⟨fun wh pins s σ H Q I q => h.run wh pins s σ H Q I (w σ H Q q)⟩
theorem pa_imp {e : List Expr} {t t' : TA} (h : PA X e t) (w : ∀ σ H Q, t' σ H Q → t σ H Q) : PA X e t' := ⟨fun pos pins s σ H Q I q => h.run pos pins s σ H Q I (w σ H Q q)⟩
theorem ps_imp {e : Stmt} {t t' : TS} (h : PS X e t) (w : ∀ D σ H, t' D σ H → t D σ H) : PS X e t' := ⟨fun pins s σ H D I q => h.run pins s σ H D I (w D σ H q)⟩
theorem pss_imp {e : List Stmt} {t t' : TS} (h : PSs X e t) (w : ∀ D σ H, t' D σ H → t D σ H) : PSs X e t' := ⟨fun pins s σ H D I q => h.run pins s σ H D I (w D σ H q)⟩
end
/-- an expression: its deep value -/
def DE (X : Cx) (W : WX) (e : Expr) (f : EF D) : Prop := PE X e (tr X.K W (RD X.K) f)
/-- .. what may be handed on -/
def DV (X : Cx) (W : WX) (e : Expr) (f : EF AV) : Prop := PE X e (tr X.K W (RAv X.K) f)
def DT (X : Cx) (W : WX) (e : Expr) (f : EF Bool) : Prop := PT X e (tr X.K W RB f)
def DW (X : Cx) (W : WX) (e : Expr) (f : EF Bool) : Prop := PW X e (tr X.K W RB f)
def DA (X : Cx) (W : WX) (es : List Expr) (f : EF (List AV)) : Prop := PA X es (tr X.K W (RAl X.K) f)

section
variable {X : Cx} {W : WX}
/-! ### names, constants -/
def eVar (i : Nat) : EF D := fun e => match e.sl[i]? with
  | some (some (.v d)) => some (.ok d, e)
  | _ => none
def eName (i : Nat) : EF AV := fun e => match e.sl[i]? with
  | some (some (.v d)) => some (.ok (.d d), e)
  | some (some (.o _)) => some (.ok (.own i), e)
  | some (some (.b _)) => some (.ok (.own i), e)
  | some (some (.h n)) => some (.ok (.hd n), e)
  | _ => none
theorem de_var (i : Nat) {x : Str} {pos : Pos} (hN : X.N[i]? = some x := by rfl) (hv : Vis X.env.scope x := by first | exact Or.inl rfl | exact Or.inr (Or.inl rfl) | exact Or.inr (Or.inr rfl))
    (hd : (x == ("__debug__" : Str)) = false := by decide) (hcd : (x == ("__classdict__" : Str)) = false := by decide) : DE X W (.Name x pos) (eVar i) := by
  refine pe_imp (pe_var hN hv hd hcd) ?_
  rintro σ H Q ⟨S, env, r, env', rel, e, q⟩
  unfold eVar at e
  split at e
  · rename_i d hd
    cases e
    obtain ⟨v, e1, e2⟩ := rel.val i d hd
    exact ⟨v, e1, q S H rel.step v e2⟩
  · cases e
theorem dv_name (i : Nat) {x : Str} {pos : Pos} (hN : X.N[i]? = some x := by rfl) (hv : Vis X.env.scope x := by first | exact Or.inl rfl | exact Or.inr (Or.inl rfl) | exact Or.inr (Or.inr rfl))
    (hd : (x == ("__debug__" : Str)) = false := by decide) (hcd : (x == ("__classdict__" : Str)) = false := by decide) : DV X W (.Name x pos) (eName i) := by
  refine pe_imp (pe_var hN hv hd hcd) ?_
  rintro σ H Q ⟨S, env, r, env', rel, e, q⟩
  unfold eName at e
  split at e
  · rename_i d hd
    cases e
    obtain ⟨v, e1, e2⟩ := rel.val i d hd
    exact ⟨v, e1, q S H rel.step v e2⟩
  · rename_i m hm
    cases e
    obtain ⟨a, o, e1, _⟩ := rel.obj (.s i) m ⟨_, at_s.mpr hm, rfl⟩
    exact ⟨.ref a, e1, q S H rel.step (.ref a) e1⟩
  · rename_i m hm
    cases e
    obtain ⟨a, o, e1, _⟩ := rel.obj (.s i) m ⟨_, at_s.mpr hm, rfl⟩
    exact ⟨.ref a, e1, q S H rel.step (.ref a) e1⟩
  · rename_i n hm
    cases e
    obtain ⟨a, e1, e2⟩ := rel.hnd i n hm
    exact ⟨.ref a, e1, q S H rel.step (.ref a) ⟨a, e2, rfl⟩⟩
  · cases e
theorem de_const {e : Expr} {v : V} {d : D} (h : PE X e (tC v)) (r : ∀ S, Rep X.K S d v) : DE X W e (eRet d) := by
  refine pe_imp h ?_
  rintro σ H Q ⟨S, env, a⟩
  exact a.ret (r S)
theorem de_int {i j pos} : DE X W (.Constant (.int i) j pos) (eRet (.int i)) := de_const pe_int fun _ => rfl
theorem de_bl {b j pos} : DE X W (.Constant (.bool b) j pos) (eRet (.bl b)) := de_const pe_bl fun _ => rfl
theorem de_non {j pos} : DE X W (.Constant .none j pos) (eRet .non) := de_const pe_non fun _ => rfl
theorem de_str {x : Str} {j pos} (h : x.length ≤ sizeLine := by decide) : DE X W (.Constant (.str x) j pos) (eRet (.str x)) := de_const pe_str fun _ => ⟨rfl, h⟩
/-- a constant of the module -/
theorem de_gl {x : Str} {d : D} {v : V} {pos : Pos} (h : ∃ u, X.mg x = some u ∧ RelV v u) (r : ∀ S, Rep X.K S d v) (hg : Gl X x := by rfl) (hd : (x == ("__debug__" : Str)) = false := by decide) : DE X W (.Name x pos) (eRet d) := by
  obtain ⟨u, h1, h2⟩ := h
  exact de_const (pe_glob hg h1 h2 hd) r
theorem de_gint {x : Str} {i : Int} {pos : Pos} (h : ∃ t, X.mg x = some (.int i t)) (hg : Gl X x := by rfl) (hd : (x == ("__debug__" : Str)) = false := by decide) : DE X W (.Name x pos) (eRet (.int i)) :=
  de_gl (v := .int i) (h.elim fun t h => ⟨_, h, t, rfl⟩) (fun _ => rfl) hg hd
theorem de_gstr {x z : Str} {pos : Pos} (h : ∃ t, X.mg x = some (.str z t)) (hz : z.length ≤ sizeLine := by decide) (hg : Gl X x := by rfl) (hd : (x == ("__debug__" : Str)) = false := by decide) : DE X W (.Name x pos) (eRet (.str z)) :=
  de_gl (v := .str z) (h.elim fun t h => ⟨_, h, t, rfl⟩) (fun _ => ⟨rfl, hz⟩) hg hd
/-- a deep value handed on -/
def eD (f : EF D) : EF AV := eBind f fun d => eRet (.d d)
theorem dv_of {e : Expr} {f : EF D} (h : DE X W e f) : DV X W e (eD f) := by
  refine pe_imp h ?_
  rintro σ H Q ⟨S, env, a⟩
  exact ⟨S, env, (At.bind (R := RD X.K) a).imp fun v H' ⟨d, S1, e1, r, st, a1⟩ => a1.ret r⟩
/-! ### two in a row -/
def e2 {α β γ : Type} (fa : EF α) (fb : EF β) (g : α → β → EF γ) : EF γ := eBind fa fun x => eBind fb fun y => g x y
theorem de_op {op : Operator} {r : R2} {a b : Expr} {fa fb : EF AV} {g : AV → AV → EF D} {pos : Pos} (ho : OpR X (binaryOp op) r) (ha : DV X W a fa) (hb : DV X W b fb)
    (h : ∀ S env σ H Q x y vx vy, RA X.K σ S x vx → RA X.K σ S y vy → At X.K W (RD X.K) (g x y) S env σ H Q → r vx vy H Q) : DE X W (.BinOp a op b pos) (e2 fa fb g) := by
  refine pe_imp (pe_op ho ha hb) ?_
  rintro σ H Q ⟨S, env, z⟩
  refine ⟨S, env, (At.bind (R := RAv X.K) z).imp fun vx H1 ⟨x, S1, e1, rx, st, z1⟩ => ?_⟩
  refine ⟨S1, e1, (At.bind (R := RAv X.K) z1).imp fun vy H2 ⟨y, S2, e2, ry, st2, z2⟩ => ?_⟩
  exact h S2 e2 σ H2 Q x y vx vy (rx.mono st2.nle) ry z2
theorem de_cmp {op : CmpOp} {r : R2} {a b : Expr} {fa fb : EF AV} {g : AV → AV → EF D} {pos : Pos} (ho : OpR X (compareOp op) r) (hm : behindInMarks op b = false) (ha : DV X W a fa) (hb : DV X W b fb)
    (h : ∀ S env σ H Q x y vx vy, RA X.K σ S x vx → RA X.K σ S y vy → At X.K W (RD X.K) (g x y) S env σ H Q → r vx vy H Q) : DE X W (.Compare a [op] [b] pos) (e2 fa fb g) := by
  refine pe_imp (pe_cmpR ho ha hb hm) ?_
  rintro σ H Q ⟨S, env, z⟩
  refine ⟨S, env, (At.bind (R := RAv X.K) z).imp fun vx H1 ⟨x, S1, e1, rx, st, z1⟩ => ?_⟩
  refine ⟨S1, e1, (At.bind (R := RAv X.K) z1).imp fun vy H2 ⟨y, S2, e2, ry, st2, z2⟩ => ?_⟩
  exact h S2 e2 σ H2 Q x y vx vy (rx.mono st2.nle) ry z2
/-! ### tests -/
def asB : D → EF Bool
  | .bl b => eRet b
  | _ => fun _ => none
def eT (f : EF D) : EF Bool := eBind f asB
theorem asB_of {K : PySem.W.Frag} {R : RR Bool Bool} {d : D} {v : V} {S : SS} {env : ME} {σ : St} {H : Hp} {Q : Bool → Hp → Prop} (r : Rep K S d v) (z : At K W RB (asB d) S env σ H Q) : ∃ c, v = .bl c ∧ Q c H := by
  cases d with
  | bl b => exact ⟨b, r, At.ret (R := RB) z rfl⟩
  | _ =>
    obtain ⟨_, _, _, e, _⟩ := z
    cases e
theorem dt_val {e : Expr} {f : EF D} (h : DE X W e f) (he : ∀ whole, isTrue e X.env whole = (do let v ← whole; standAt e.pos; holding [v] (truthy v)) := by intro _; rfl) : DT X W e (eT f) := by
  refine pt_imp (pt_val h he) ?_
  rintro σ H Q ⟨S, env, z⟩
  exact ⟨S, env, (At.bind (R := RD X.K) z).imp fun v H1 ⟨d, S1, e1, r, st, z1⟩ => asB_of (R := RB) r z1⟩
theorem dt_cmp {op : CmpOp} {r : R2} {a b : Expr} {fa fb : EF AV} {g : AV → AV → EF D} {pos : Pos} (ho : OpR X (compareOp op) r) (hm : behindInMarks op b = false) (ha : DV X W a fa) (hb : DV X W b fb)
    (h : ∀ S env σ H Q x y vx vy, RA X.K σ S x vx → RA X.K σ S y vy → At X.K W (RD X.K) (g x y) S env σ H Q → r vx vy H Q) : DT X W (.Compare a [op] [b] pos) (eT (e2 fa fb g)) := by
  refine pt_imp (pt_cmpR ho ha hb hm) ?_
  rintro σ H Q ⟨S, env, z⟩
  have z0 := At.bind (R := RD X.K) z
  refine ⟨S, env, (At.bind (R := RAv X.K) z0).imp fun vx H1 ⟨x, S1, e1, rx, st, z1⟩ => ?_⟩
  refine ⟨S1, e1, (At.bind (R := RAv X.K) z1).imp fun vy H2 ⟨y, S2, e2, ry, st2, z2⟩ => ?_⟩
  exact h S2 e2 σ H2 _ x y vx vy (rx.mono st2.nle) ry (z2.imp fun v H' ⟨d, S1, e1, r, st, z1⟩ => asB_of (R := RB) r z1)
def eAnd (f g : EF Bool) : EF Bool := eBind f fun b => match b with
  | true => g
  | false => eRet false
def eOr (f g : EF Bool) : EF Bool := eBind f fun b => match b with
  | true => eRet true
  | false => g
def eNot (f : EF Bool) : EF Bool := eBind f fun b => eRet (!b)
theorem dt_not {a : Expr} {f : EF Bool} {pos : Pos} (h : DT X W a f) : DT X W (.UnaryOp .Not a pos) (eNot f) := by
  refine pt_imp (pt_not h) ?_
  rintro σ H Q ⟨S, env, z⟩
  exact ⟨S, env, (At.bind (R := RB) z).imp fun v H1 ⟨d, S1, e1, r, st, z1⟩ => by
    have r' : d = v := r
    subst r'
    exact z1.ret rfl⟩
theorem dw_and1 {a : Expr} {f : EF Bool} {pos : Pos} (h : DT X W a f) : DW X W (.BoolOp .And [a] pos) f := pw_and1 h
theorem dw_or1 {a : Expr} {f : EF Bool} {pos : Pos} (h : DT X W a f) : DW X W (.BoolOp .Or [a] pos) f := pw_or1 h
theorem dw_and {a b : Expr} {rest : List Expr} {f g : EF Bool} {pos : Pos} (ha : DT X W a f) (hb : DW X W (.BoolOp .And (b :: rest) pos) g) : DW X W (.BoolOp .And (a :: b :: rest) pos) (eAnd f g) := by
  refine pw_imp (pw_and ha hb) ?_
  rintro σ H Q ⟨S, env, z⟩
  refine ⟨S, env, (At.bind (R := RB) z).imp fun v H1 ⟨d, S1, e1, r, st, z1⟩ => ?_⟩
  have r' : d = v := r
  subst r'
  cases d with
  | true => exact ⟨S1, e1, z1⟩
  | false => exact z1.ret rfl
theorem dw_or {a b : Expr} {rest : List Expr} {f g : EF Bool} {pos : Pos} (ha : DT X W a f) (hb : DW X W (.BoolOp .Or (b :: rest) pos) g) : DW X W (.BoolOp .Or (a :: b :: rest) pos) (eOr f g) := by
  refine pw_imp (pw_or ha hb) ?_
  rintro σ H Q ⟨S, env, z⟩
  refine ⟨S, env, (At.bind (R := RB) z).imp fun v H1 ⟨d, S1, e1, r, st, z1⟩ => ?_⟩
  have r' : d = v := r
  subst r'
  cases d with
  | true => exact z1.ret rfl
  | false => exact ⟨S1, e1, z1⟩
theorem dt_w {e : Expr} {f : EF Bool} (h : DW X W e f) : DT X W e f := PW.pt h
/-! .. as values -/
def eAndV (f g : EF D) : EF D := eBind f fun d => match d with
  | .bl true => g
  | .bl false => eRet (.bl false)
  | _ => fun _ => none
def eOrV (f g : EF D) : EF D := eBind f fun d => match d with
  | .bl true => eRet (.bl true)
  | .bl false => g
  | _ => fun _ => none
def eNotV (f : EF D) : EF D := eBind f fun d => match d with
  | .bl b => eRet (.bl (!b))
  | _ => fun _ => none
theorem de_one {op} {a : Expr} {f : EF D} {pos : Pos} (h : DE X W a f) : DE X W (.BoolOp op [a] pos) f := pe_one h
theorem de_and {a b : Expr} {rest : List Expr} {f g : EF D} {pos : Pos} (ha : DE X W a f) (hb : DE X W (.BoolOp .And (b :: rest) pos) g) : DE X W (.BoolOp .And (a :: b :: rest) pos) (eAndV f g) := by
  refine pe_imp (pe_and ha hb) ?_
  rintro σ H Q ⟨S, env, z⟩
  refine ⟨S, env, (At.bind (R := RD X.K) z).imp fun v H1 ⟨d, S1, e1, r, st, z1⟩ => ?_⟩
  cases d with
  | bl c =>
    refine ⟨c, r, ?_⟩
    cases c with
    | true => exact ⟨S1, e1, z1⟩
    | false => exact z1.ret rfl
  | _ =>
    obtain ⟨_, _, _, e, _⟩ := z1
    cases e
theorem de_or {a b : Expr} {rest : List Expr} {f g : EF D} {pos : Pos} (ha : DE X W a f) (hb : DE X W (.BoolOp .Or (b :: rest) pos) g) : DE X W (.BoolOp .Or (a :: b :: rest) pos) (eOrV f g) := by
  refine pe_imp (pe_or ha hb) ?_
  rintro σ H Q ⟨S, env, z⟩
  refine ⟨S, env, (At.bind (R := RD X.K) z).imp fun v H1 ⟨d, S1, e1, r, st, z1⟩ => ?_⟩
  cases d with
  | bl c =>
    refine ⟨c, r, ?_⟩
    cases c with
    | true => exact z1.ret rfl
    | false => exact ⟨S1, e1, z1⟩
  | _ =>
    obtain ⟨_, _, _, e, _⟩ := z1
    cases e
theorem de_not {a : Expr} {f : EF D} {pos : Pos} (h : DE X W a f) : DE X W (.UnaryOp .Not a pos) (eNotV f) := by
  refine pe_imp (pe_not h) ?_
  rintro σ H Q ⟨S, env, z⟩
  refine ⟨S, env, (At.bind (R := RD X.K) z).imp fun v H1 ⟨d, S1, e1, r, st, z1⟩ => ?_⟩
  cases d with
  | bl c => exact ⟨c, r, z1.ret rfl⟩
  | _ =>
    obtain ⟨_, _, _, e, _⟩ := z1
    cases e
def eIf {α : Type} (t : EF Bool) (f g : EF α) : EF α := eBind t fun b => match b with
  | true => f
  | false => g
theorem de_if {c a b : Expr} {t : EF Bool} {f g : EF D} {pos : Pos} (hc : DT X W c t) (ha : DE X W a f) (hb : DE X W b g) : DE X W (.IfExp c a b pos) (eIf t f g) := by
  refine pe_imp (pe_ifExp hc ha hb) ?_
  rintro σ H Q ⟨S, env, z⟩
  refine ⟨S, env, (At.bind (R := RB) z).imp fun v H1 ⟨d, S1, e1, r, st, z1⟩ => ?_⟩
  have r' : d = v := r
  subst r'
  cases d with
  | true => exact iteT ⟨S1, e1, z1⟩
  | false => exact iteF ⟨S1, e1, z1⟩
/-! ### arguments -/
def eCons (f : EF AV) (g : EF (List AV)) : EF (List AV) := eBind f fun x => eBind g fun y => eRet (x :: y)
end
end Mir

namespace Mir
open PySem PySem.Spec PyProof.Rows L2
abbrev SLs := List (Option Sl)
abbrev CEs := List (Option MO)

/-! ## objects lent to a callee -/
def ixs : List AV → List Nat
  | [] => []
  | .d _ :: r => ixs r
  | .own i :: r => i :: ixs r
  | .hd _ :: r => ixs r
def lend (env : SLs) : List AV → Option (List Sl)
  | [] => some []
  | .d d :: r => match lend env r with
    | some q => some (.v d :: q)
    | none => none
  | .own i :: r => match env[i]? with
    | some (some s) => match s.mo with
      | some m => match lend env r with
        | some q => some (.b m :: q)
        | none => none
      | none => none
    | _ => none
  | .hd n :: r => match lend env r with
    | some q => some (.h n :: q)
    | none => none
def putB (env : SLs) : List AV → List Sl → SLs
  | [], _ => env
  | .d _ :: r, _ :: q => putB env r q
  | .hd _ :: r, _ :: q => putB env r q
  | .own i :: r, .b m :: q => match env[i]? with
    | some (some s) => (putB env r q).set i (some (s.put m))
    | _ => putB env r q
  | .own _ :: r, _ :: q => putB env r q
  | _ :: _, [] => env
theorem putB_len (env : SLs) : ∀ (as : List AV) (q : List Sl), (putB env as q).length = env.length
  | [], q => rfl
  | .d _ :: r, [] => rfl
  | .hd _ :: r, [] => rfl
  | .own _ :: r, [] => rfl
  | .d _ :: r, _ :: q => putB_len env r q
  | .hd _ :: r, _ :: q => putB_len env r q
  | .own i :: r, .b m :: q => by
    unfold putB
    split
    · rw [List.length_set]; exact putB_len env r q
    · exact putB_len env r q
  | .own i :: r, .v _ :: q => putB_len env r q
  | .own i :: r, .o _ :: q => putB_len env r q
  | .own i :: r, .h _ :: q => putB_len env r q
theorem putB_ne {env : SLs} {i : Nat} : ∀ {as : List AV} {q : List Sl}, i ∉ ixs as → (putB env as q)[i]? = env[i]?
  | [], q, h => rfl
  | .d _ :: r, [], h => rfl
  | .hd _ :: r, [], h => rfl
  | .own _ :: r, [], h => rfl
  | .d _ :: r, _ :: q, h => putB_ne (as := r) (q := q) h
  | .hd _ :: r, _ :: q, h => putB_ne (as := r) (q := q) h
  | .own j :: r, .b m :: q, h => by
    have h1 : i ≠ j := fun e => h (by unfold ixs; rw [e]; exact List.mem_cons_self)
    have h2 : i ∉ ixs r := fun e => h (by unfold ixs; exact List.mem_cons_of_mem _ e)
    unfold putB
    split
    · rw [List.getElem?_set_ne (Ne.symm h1)]; exact putB_ne h2
    · exact putB_ne h2
  | .own j :: r, .v _ :: q, h => putB_ne (as := r) (q := q) fun e => h (by unfold ixs; exact List.mem_cons_of_mem _ e)
  | .own j :: r, .o _ :: q, h => putB_ne (as := r) (q := q) fun e => h (by unfold ixs; exact List.mem_cons_of_mem _ e)
  | .own j :: r, .h _ :: q, h => putB_ne (as := r) (q := q) fun e => h (by unfold ixs; exact List.mem_cons_of_mem _ e)
theorem ixs_mem {i : Nat} : ∀ {l : List AV} {n : Nat}, l[n]? = some (.own i) → i ∈ ixs l := by
  intro l
  induction l with
  | nil => intro n h; simp at h
  | cons y l ihl =>
    intro n h
    cases n with
    | zero => simp at h; subst h; unfold ixs; exact List.mem_cons_self
    | succ n =>
      simp only [List.getElem?_cons_succ] at h
      have := ihl h
      cases y with
      | d d => exact this
      | hd d => exact this
      | own z => unfold ixs; exact List.mem_cons_of_mem _ this
theorem putB_at {env : SLs} {i : Nat} {s : Sl} {m : MO} (hs : env[i]? = some (some s)) : ∀ {as : List AV} {q : List Sl} {j : Nat}, (ixs as).Nodup → as[j]? = some (.own i) → q[j]? = some (.b m) → (putB env as q)[i]? = some (some (s.put m))
  | [], q, j, h, h1, h2 => by simp at h1
  | _ :: r, [], j, h, h1, h2 => by simp at h2
  | a :: r, x :: q, 0, h, h1, h2 => by
    simp at h1 h2
    subst h1
    subst h2
    unfold putB
    rw [hs]
    exact List.getElem?_set_self (by rw [putB_len]; exact lt_of_at hs)
  | a :: r, x :: q, j + 1, h, h1, h2 => by
    simp only [List.getElem?_cons_succ] at h1 h2
    have hr : (ixs r).Nodup := by
      cases a with
      | d d => exact h
      | hd d => exact h
      | own k => exact (List.nodup_cons.mp h).2
    have ih := putB_at hs (as := r) (q := q) (j := j) hr h1 h2
    cases a with
    | d d => exact ih
    | hd d => exact ih
    | own k =>
      have hk : k ≠ i := fun e => (List.nodup_cons.mp h).1 (e ▸ ixs_mem h1)
      cases x with
      | v d => exact ih
      | o z => exact ih
      | h z => exact ih
      | b z =>
        unfold putB
        split
        · rw [List.getElem?_set_ne hk]; exact ih
        · exact ih
theorem mem_ixs {i : Nat} : ∀ {l : List AV}, i ∈ ixs l → ∃ n : Nat, l[n]? = some (AV.own i)
  | [], h => by cases h
  | .d d :: l, h => by
    obtain ⟨n, e⟩ := mem_ixs (l := l) h
    exact ⟨n + 1, by simpa using e⟩
  | .hd d :: l, h => by
    obtain ⟨n, e⟩ := mem_ixs (l := l) h
    exact ⟨n + 1, by simpa using e⟩
  | .own k :: l, h => by
    unfold ixs at h
    rcases List.mem_cons.mp h with e | h
    · exact ⟨0, by simp [e]⟩
    · obtain ⟨n, e⟩ := mem_ixs (l := l) h
      exact ⟨n + 1, by simpa using e⟩
theorem nodup_ixs {i : Nat} : ∀ {l : List AV} {j k : Nat}, (ixs l).Nodup → l[j]? = some (.own i) → l[k]? = some (.own i) → j = k := by
  intro l
  induction l with
  | nil => intro j k _ h; simp at h
  | cons a l ih =>
    intro j k hn h1 h2
    have nx : ∀ (hn : (ixs l).Nodup) (ha : ∀ z, a = .own z → z ≠ i), j = k := fun hn ha => by
      cases j with
      | zero => simp at h1; exact absurd rfl (ha i h1)
      | succ j =>
        cases k with
        | zero => simp at h2; exact absurd rfl (ha i h2)
        | succ k =>
          simp only [List.getElem?_cons_succ] at h1 h2
          rw [ih hn h1 h2]
    cases a with
    | d d => exact nx hn fun z e => nomatch e
    | hd d => exact nx hn fun z e => nomatch e
    | own z =>
      have hn' := List.nodup_cons.mp hn
      by_cases hz : z = i
      · subst hz
        cases j with
        | zero =>
          cases k with
          | zero => rfl
          | succ k =>
            simp only [List.getElem?_cons_succ] at h2
            exact absurd (ixs_mem h2) hn'.1
        | succ j =>
          simp only [List.getElem?_cons_succ] at h1
          exact absurd (ixs_mem h1) hn'.1
      · exact nx hn'.2 fun w e => by cases e; exact hz
/-- what a lent list says of its places -/
theorem lend_at {env : SLs} : ∀ {as : List AV} {sl : List Sl}, lend env as = some sl → sl.length = as.length ∧ ∀ (j : Nat) (s : Sl), sl[j]? = some s → (∃ d, s = .v d ∧ as[j]? = some (.d d)) ∨ (∃ i m s', s = .b m ∧ as[j]? = some (.own i) ∧ env[i]? = some (some s') ∧ s'.mo = some m) ∨ ∃ n, s = .h n ∧ as[j]? = some (.hd n)
  | [], sl, h => by
    cases h
    exact ⟨rfl, fun j s h => by simp at h⟩
  | .d d :: r, sl, h => by
    unfold lend at h
    cases e : lend env r with
    | none => rw [e] at h; cases h
    | some q =>
      rw [e] at h
      cases h
      obtain ⟨h1, h2⟩ := lend_at e
      refine ⟨by simp [h1], fun j s hs => ?_⟩
      cases j with
      | zero => simp at hs; exact .inl ⟨d, hs.symm, rfl⟩
      | succ j => simp only [List.getElem?_cons_succ] at hs ⊢; exact h2 j s hs
  | .hd d :: r, sl, h => by
    unfold lend at h
    cases e : lend env r with
    | none => rw [e] at h; cases h
    | some q =>
      rw [e] at h
      cases h
      obtain ⟨h1, h2⟩ := lend_at e
      refine ⟨by simp [h1], fun j s hs => ?_⟩
      cases j with
      | zero => simp at hs; exact .inr (.inr ⟨d, hs.symm, rfl⟩)
      | succ j => simp only [List.getElem?_cons_succ] at hs ⊢; exact h2 j s hs
  | .own i :: r, sl, h => by
    unfold lend at h
    split at h
    · rename_i s hs
      split at h
      · rename_i m hm
        cases e : lend env r with
        | none => rw [e] at h; cases h
        | some q =>
          rw [e] at h
          cases h
          obtain ⟨h1, h2⟩ := lend_at e
          refine ⟨by simp [h1], fun j s' hs' => ?_⟩
          cases j with
          | zero => simp at hs'; exact .inr (.inl ⟨i, m, s, hs'.symm, rfl, hs, hm⟩)
          | succ j => simp only [List.getElem?_cons_succ] at hs' ⊢; exact h2 j s' hs'
      · cases h
    · cases h
theorem RAs.len {K : PySem.W.Frag} {σ : St} {S : SS} : ∀ {as : List AV} {vs : List V}, RAs K σ S as vs → as.length = vs.length
  | [], _, h => by cases h; rfl
  | a :: as, _, h => by
    obtain ⟨v, r, e, p, q⟩ := h
    subst e
    simp [RAs.len q]
theorem RAs.at {K : PySem.W.Frag} {σ : St} {S : SS} : ∀ {as : List AV} {vs : List V} {j : Nat} {a : AV}, RAs K σ S as vs → as[j]? = some a → ∃ v, vs[j]? = some v ∧ RA K σ S a v
  | [], _, j, a, h, e => by simp at e
  | x :: as, _, 0, a, h, e => by
    obtain ⟨v, r, e1, p, q⟩ := h
    subst e1
    simp at e
    subst e
    exact ⟨v, rfl, p⟩
  | x :: as, _, j + 1, a, h, e => by
    obtain ⟨v, r, e1, p, q⟩ := h
    subst e1
    simp only [List.getElem?_cons_succ] at e ⊢
    exact RAs.at q e
theorem map_at {α : Type} {l : List α} {j : Nat} {x : Option α} (h : (l.map some)[j]? = some x) : ∃ y, x = some y ∧ l[j]? = some y := by
  rw [List.getElem?_map] at h
  cases e : l[j]? with
  | none => rw [e] at h; cases h
  | some y => rw [e] at h; cases h; exact ⟨y, rfl, rfl⟩
theorem map_at' {α : Type} {l : List α} {j : Nat} {y : α} (h : l[j]? = some y) : (l.map some)[j]? = some (some y) := by
  rw [List.getElem?_map, h]; rfl
/-- no cell is named -/
def Sl.flat : Sl → Bool
  | .v _ => true
  | .o m => m.flat
  | .b m => m.flat
  | .h _ => false
/-- the cells that a callee sees: all, or none; and behind it -/
def celS : Bool → SS → SS
  | true, S => S
  | false, S => S.nam []
def celC : Bool → CEs → CEs
  | true, ce => ce
  | false, _ => []
def menS : Bool → SS → SS → SS
  | true, _, S' => S'
  | false, S, S' => S'.nam S.nm
def menC : Bool → CEs → CEs → CEs
  | true, _, ce' => ce'
  | false, ce, _ => ce
section
variable {K : PySem.W.Frag} {S S' : SS} {env : ME} {σ : St} {H H' : Hp} {as : List AV} {vs : List V} {sl sl' : List Sl} {ce' : CEs} {sh : Bool}
theorem cut_hp : (celS sh S).hp = S.hp := by
  cases sh <;> rfl
theorem flat_mo {s : Sl} {m : MO} (h : (sl.all Sl.flat) = true) {j : Nat} (e : sl[j]? = some s) (em : s.mo = some m) : m.flat = true := by
  have := List.all_eq_true.mp h s (List.mem_of_getElem? e)
  cases s with
  | v d => cases em
  | h n => cases em
  | o z => cases em; exact this
  | b z => cases em; exact this
theorem cut_rep (c : sh = true ∨ (sl.all Sl.flat) = true) {j : Nat} {s : Sl} {m : MO} {o : HO} (e : sl[j]? = some s) (em : s.mo = some m) (h : RepO K S m o) : RepO K (celS sh S) m o := by
  cases sh with
  | true => exact h
  | false =>
    rcases c with c | c
    · cases c
    · exact h.nam (S2 := S.nam []) (Le.refl S.hp) (flat_mo c e em)
theorem cut_cell {ce : CEs} {n : Nat} {m : MO} (e : (celC sh ce)[n]? = some (some m)) : ce[n]? = some (some m) ∧ sh = true := by
  cases sh with
  | true => exact ⟨e, rfl⟩
  | false => simp [celC] at e
theorem cut_adr {n : Nat} {b : Addr} (e : sh = true) (h : Adr σ (celS sh S) (.c n) b) : S.nm[n]? = some b := by
  subst e
  exact h
theorem men_adr {l : Plc} {b : Addr} (e : sh = true) (h : Adr σ (menS sh S S') l b) : Adr σ S' l b := by
  subst e
  exact h
/-- the callee's state at its entry -/
theorem Rel.lent (r : Rel K S env σ H) (ra : RAs K σ S as vs) (hl : lend env.sl as = some sl) (hn : (ixs as).Nodup) (c : sh = true ∨ (sl.all Sl.flat) = true) : Rel K (celS sh S) ⟨sl.map some, celC sh env.ce⟩ (vs.map some) H := by
  obtain ⟨h1, h2⟩ := lend_at hl
  -- where an object of the callee stands at the caller
  have key : ∀ (l : Plc) (m : MO), Has ⟨sl.map some, celC sh env.ce⟩ l m → ∃ l', Has env l' m ∧ (∀ a, Adr (vs.map some) (celS sh S) l a ↔ Adr σ S l' a) ∧ (∀ o, RepO K S m o → RepO K (celS sh S) m o) ∧ ((∃ j i, l = .s j ∧ l' = .s i ∧ as[j]? = some (.own i)) ∨ ∃ n, l = .c n ∧ l' = .c n) := fun l m ⟨s, e, em⟩ => by
    cases l with
    | s j =>
      obtain ⟨s', es, e⟩ := map_at (at_s.mp e)
      cases es
      rcases h2 j _ e with ⟨d', ed, ea⟩ | ⟨i, m', s', ed, ea, hs, hm⟩ | ⟨n, ed, ea⟩
      · subst ed; cases em
      · subst ed
        cases em
        refine ⟨.s i, ⟨s', at_s.mpr hs, hm⟩, fun a => ?_, fun o ho => cut_rep c e rfl ho, .inl ⟨j, i, rfl, rfl, ea⟩⟩
        obtain ⟨v, ev, rv⟩ := ra.at ea
        have rv' : σ[i]? = some (some v) := rv
        show (vs.map some)[j]? = _ ↔ σ[i]? = _
        rw [map_at' ev, rv']
      · subst ed; cases em
    | c n =>
      obtain ⟨m', es, e5⟩ := at_c.mp e
      cases es
      cases em
      obtain ⟨q, eh⟩ := cut_cell (sh := sh) e5
      exact ⟨.c n, ⟨_, at_c.mpr ⟨_, rfl, q⟩, rfl⟩, fun a => by subst eh; exact Iff.rfl, fun o ho => by subst eh; exact ho, .inr ⟨n, rfl, rfl⟩⟩
  refine ⟨by simp [h1, ra.len], by cases sh with | true => exact r.nlen | false => rfl, by rw [cut_hp]; exact r.sub, fun j d e => ?_, fun j n e => ?_, fun l m e => ?_, fun l l' m m' a e1 e2 e3 e4 => ?_⟩
  · obtain ⟨s, es, e⟩ := map_at e
    cases es
    rcases h2 j _ e with ⟨d', ed, ea⟩ | ⟨i, m, s', ed, _⟩ | ⟨n, ed, ea⟩
    · cases ed
      obtain ⟨v, ev, rv⟩ := ra.at ea
      exact ⟨v, map_at' ev, by rw [cut_hp]; exact rv⟩
    · cases ed
    · cases ed
  · obtain ⟨s, es, e5⟩ := map_at e
    cases es
    rcases h2 j _ e5 with ⟨d', ed, ea⟩ | ⟨i, m, s', ed, _⟩ | ⟨n', ed, ea⟩
    · cases ed
    · cases ed
    · cases ed
      obtain ⟨v, ev, a, q, rfl⟩ := ra.at ea
      cases sh with
      | true => exact ⟨a, map_at' ev, q⟩
      | false =>
        rcases c with c | c
        · cases c
        · have := List.all_eq_true.mp c _ (List.mem_of_getElem? e5)
          cases this
  · obtain ⟨l', h, ad, ro, _⟩ := key l m e
    obtain ⟨a, o, x1, x2, x3, x4⟩ := r.obj l' m h
    exact ⟨a, o, (ad a).mpr x1, x2, by rw [cut_hp]; exact x3, ro o x4⟩
  · obtain ⟨k1, q1, ad1, _, w1⟩ := key l m e1
    obtain ⟨k2, q2, ad2, _, w2⟩ := key l' m' e2
    have := r.dis k1 k2 m m' a q1 q2 ((ad1 a).mp e3) ((ad2 a).mp e4)
    subst this
    rcases w1 with ⟨j, i, rfl, rfl, ea⟩ | ⟨n, rfl, rfl⟩
    · rcases w2 with ⟨j2, i2, rfl, e, ea2⟩ | ⟨n, _, e⟩
      · cases e
        rw [nodup_ixs hn ea ea2]
      · cases e
    · rcases w2 with ⟨j2, i2, _, e, ea2⟩ | ⟨n, rfl, e⟩
      · cases e
      · cases e
        rfl
/-- behind the callee -/
theorem Rel.back (r : Rel K S env σ H) (ra : RAs K σ S as vs) (hl : lend env.sl as = some sl) (hn : (ixs as).Nodup) (d : sh = true ∨ (sl'.all Sl.flat) = true)
    (st : Step K (celS sh S) ⟨sl.map some, celC sh env.ce⟩ (vs.map some) H S' ⟨sl'.map some, ce'⟩ (vs.map some) H') : Step K S env σ H (menS sh S S') ⟨putB env.sl as sl', menC sh env.ce ce'⟩ σ H' := by
  obtain ⟨h1, h2⟩ := lend_at hl
  have shp : (celS sh S).hp = S.hp := cut_hp
  have rhp : (menS sh S S').hp = S'.hp := by cases sh <;> rfl
  have le : Le S.hp (menS sh S S').hp := by rw [rhp, ← shp]; exact st.le
  have nmm : ∀ (n : Nat) (a : Addr), S.nm[n]? = some a → (menS sh S S').nm[n]? = some a := by
    cases sh with
    | true => exact st.nm
    | false => exact fun n a h => h
  have ln : LeN S (menS sh S S') := ⟨le, nmm⟩
  -- an own object of the callee: a cell's
  have oO : ∀ b, OwnO ⟨sl.map some, celC sh env.ce⟩ (vs.map some) (celS sh S) b → ∃ n m, env.ce[n]? = some (some m) ∧ S.nm[n]? = some b := fun b ⟨l, m, e, ea⟩ => by
    cases l with
    | s j =>
      obtain ⟨s, es, e⟩ := map_at (at_s.mp e)
      cases es
      rcases h2 j _ e with ⟨d', ed, _⟩ | ⟨i, m', s', ed, _⟩ | ⟨n, ed, _⟩ <;> cases ed
    | c n =>
      obtain ⟨m', es, e5⟩ := at_c.mp e
      cases es
      obtain ⟨q, e2⟩ := cut_cell (sh := sh) e5
      exact ⟨n, m, q, cut_adr e2 ea⟩
  have oO2 : ∀ b, OwnO ⟨sl.map some, celC sh env.ce⟩ (vs.map some) (celS sh S) b → OwnO env σ S b := fun b h => by
    obtain ⟨n, m, q, ea⟩ := oO b h
    exact ⟨.c n, m, at_c.mpr ⟨m, rfl, q⟩, ea⟩
  -- a lent place behind the call
  have lentP : ∀ (j i : Nat), as[j]? = some (.own i) → ∃ s m m', env.sl[i]? = some (some s) ∧ s.mo = some m ∧ sl[j]? = some (.b m) ∧ sl'[j]? = some (.b m') := fun j i e => by
    have hj : j < sl.length := by rw [h1]; exact lt_of_at e
    have es : sl[j]? = some sl[j] := List.getElem?_eq_getElem hj
    rcases h2 j _ es with ⟨d', ed, ea⟩ | ⟨i', m, s, ed, ea, hs, hm⟩ | ⟨n, ed, ea⟩
    · rw [e] at ea; cases ea
    · rw [e] at ea
      cases ea
      rw [ed] at es
      obtain ⟨⟨m', q1⟩, q2⟩ := st.bor j m (map_at' es)
      obtain ⟨z, ez, q1⟩ := map_at q1
      cases ez
      exact ⟨s, m, m', hs, hm, es, q1⟩
    · rw [e] at ea; cases ea
  have at' : ∀ (i : Nat), i ∈ ixs as → ∃ (j : Nat) (s : Sl) (m m' : MO), as[j]? = some (AV.own i) ∧ env.sl[i]? = some (some s) ∧ s.mo = some m ∧ sl[j]? = some (Sl.b m) ∧ sl'[j]? = some (Sl.b m') ∧ (putB env.sl as sl')[i]? = some (some (s.put m')) := fun i hi => by
    obtain ⟨j, e⟩ := mem_ixs hi
    obtain ⟨s, m, m', x1, x2, x3, x4⟩ := lentP j i e
    exact ⟨j, s, m, m', e, x1, x2, x3, x4, putB_at x1 hn e x4⟩
  have ownL : ∀ b, Own ⟨sl.map some, celC sh env.ce⟩ (vs.map some) (celS sh S) b → (∃ i, i ∈ ixs as ∧ (∃ m, Has env (.s i) m) ∧ σ[i]? = some (some (.ref b))) ∨ ∃ n m, sh = true ∧ env.ce[n]? = some (some m) ∧ S.nm[n]? = some b := fun b ⟨l, m, ⟨s, e, em⟩, ev⟩ => by
    cases l with
    | s j =>
      obtain ⟨s', es, e⟩ := map_at (at_s.mp e)
      cases es
      rcases h2 j _ e with ⟨d', ed, ea⟩ | ⟨i, m', s', ed, ea, hs, hm⟩ | ⟨n, ed, ea⟩
      · subst ed; cases em
      · obtain ⟨v, ev', rv⟩ := ra.at ea
        have z := map_at' ev'
        have ev : (vs.map some)[j]? = some (some (.ref b)) := ev
        rw [ev] at z
        cases z
        exact .inl ⟨i, ixs_mem ea, ⟨m', s', at_s.mpr hs, hm⟩, rv⟩
      · subst ed; cases em
    | c n =>
      obtain ⟨m', es, e5⟩ := at_c.mp e
      obtain ⟨q, e2⟩ := cut_cell (sh := sh) e5
      exact .inr ⟨n, m', e2, q, cut_adr e2 ev⟩
  have ownC : ∀ b, ¬ Own env σ S b → ¬ Own ⟨sl.map some, celC sh env.ce⟩ (vs.map some) (celS sh S) b := fun b n h => by
    rcases ownL b h with ⟨i, _, ⟨m, hm⟩, e⟩ | ⟨k, m, _, q, e⟩
    · exact n ⟨.s i, m, hm, e⟩
    · exact n ⟨.c k, m, ⟨_, at_c.mpr ⟨m, rfl, q⟩, rfl⟩, e⟩
  -- an object that is not the callee's stands
  have stays : ∀ {a : Addr} {o : HO}, H a = some o → S.hp a = none → ¬ Own ⟨sl.map some, celC sh env.ce⟩ (vs.map some) (celS sh S) a → H' a = some o ∧ (menS sh S S').hp a = none := fun {a o} e1 e2 no => by
    refine ⟨st.frame a o e1 (by rw [shp]; exact e2) no, ?_⟩
    rw [rhp]
    cases q : S'.hp a with
    | none => rfl
    | some u =>
      exfalso
      rcases st.fresh a (by rw [q]; exact fun z => nomatch z) with z | z | z
      · rw [shp] at z; exact z e2
      · rw [z] at e1; cases e1
      · exact no z.own
  -- an object behind the call: of a lent slot; of a cell that the callee saw; left alone
  have back : ∀ (l : Plc) (m : MO), Has ⟨putB env.sl as sl', menC sh env.ce ce'⟩ l m → (∃ i j m0, l = .s i ∧ i ∈ ixs as ∧ as[j]? = some (.own i) ∧ Has env (.s i) m0 ∧ sl'[j]? = some (.b m) ∧ (∀ a, Adr (vs.map some) S' (.s j) a ↔ Adr σ (menS sh S S') l a)) ∨
      (∃ n, l = .c n ∧ ce'[n]? = some (some m) ∧ sh = true) ∨ (Has env l m ∧ (∀ a, Adr σ S l a → Adr σ (menS sh S S') l a) ∧ (∀ a, Adr σ (menS sh S S') l a → Adr σ S l a) ∧ ∀ a, Adr σ S l a → ¬ Own ⟨sl.map some, celC sh env.ce⟩ (vs.map some) (celS sh S) a) := fun l m ⟨s, e, em⟩ => by
    cases l with
    | s i =>
      have e := at_s.mp e
      by_cases hi : i ∈ ixs as
      · obtain ⟨j, s0, m0, m', x0, x1, x2, x3, x4, x5⟩ := at' i hi
        have e : (putB env.sl as sl')[i]? = some (some s) := e
        rw [x5] at e
        cases e
        rw [put_mo x2] at em
        cases em
        refine .inl ⟨i, j, m0, rfl, hi, x0, ⟨s0, at_s.mpr x1, x2⟩, x4, fun a => ?_⟩
        obtain ⟨v, ev, rv⟩ := ra.at x0
        have rv' : σ[i]? = some (some v) := rv
        show (vs.map some)[j]? = _ ↔ σ[i]? = _
        rw [map_at' ev, rv']
      · have e : (putB env.sl as sl')[i]? = some (some s) := e
        rw [putB_ne hi] at e
        have hh : Has env (.s i) m := ⟨s, at_s.mpr e, em⟩
        refine .inr (.inr ⟨hh, fun a h => h, fun a h => h, fun a ea ow => ?_⟩)
        rcases ownL a ow with ⟨i', hi', ⟨m', hm'⟩, e'⟩ | ⟨k, m', _, q, e'⟩
        · have := r.dis (.s i) (.s i') m m' a hh hm' ea e'
          cases this
          exact hi hi'
        · have := r.dis (.s i) (.c k) m m' a hh ⟨_, at_c.mpr ⟨m', rfl, q⟩, rfl⟩ ea e'
          cases this
    | c n =>
      obtain ⟨m', es, e5⟩ := at_c.mp e
      subst es
      have em' : some m' = some m := em
      cases em'
      cases sh with
      | true => exact .inr (.inl ⟨n, rfl, e5, rfl⟩)
      | false =>
        have hh : Has env (.c n) m := ⟨_, at_c.mpr ⟨m, rfl, e5⟩, rfl⟩
        refine .inr (.inr ⟨hh, fun a h => h, fun a h => h, fun a ea ow => ?_⟩)
        rcases ownL a ow with ⟨i', hi', ⟨m2, hm2⟩, e'⟩ | ⟨k, m2, q0, q, e'⟩
        · have := r.dis (.c n) (.s i') m m2 a hh hm2 ea e'
          cases this
        · cases q0
  refine ⟨⟨by show (putB env.sl as sl').length = _; rw [putB_len]; exact r.len, ?_, by rw [rhp]; exact st.rel.sub, fun i d e => ?_, fun i n e => ?_, fun l m e => ?_, fun l l' m m' a e1 e2 e3 e4 => ?_⟩, le, nmm, fun b h => ?_, fun b o h hS n => st.frame b o h (by rw [shp]; exact hS) (ownC b n), fun i m h => ?_, fun i m h => ?_, fun a h => ?_, rfl, fun b h => by rw [rhp]; exact st.keep b (by rw [shp]; exact h)⟩
  · cases sh with
    | true => exact st.rel.nlen
    | false => exact r.nlen
  · have e : (putB env.sl as sl')[i]? = some (some (.v d)) := e
    by_cases hi : i ∈ ixs as
    · obtain ⟨j, s, m0, m', _, x1, x2, _, _, x5⟩ := at' i hi
      rw [x5] at e
      cases s with
      | v d => cases x2
      | h d => cases x2
      | o z => cases e
      | b z => cases e
    · rw [putB_ne hi] at e
      obtain ⟨v, e1, e2⟩ := r.val i d e
      exact ⟨v, e1, Rep.mono le _ _ e2⟩
  · have e : (putB env.sl as sl')[i]? = some (some (.h n)) := e
    by_cases hi : i ∈ ixs as
    · obtain ⟨j, s, m0, m', _, x1, x2, _, _, x5⟩ := at' i hi
      rw [x5] at e
      cases s with
      | v d => cases x2
      | h d => cases x2
      | o z => cases e
      | b z => cases e
    · rw [putB_ne hi] at e
      obtain ⟨v, e1, e2⟩ := r.hnd i n e
      exact ⟨v, e1, nmm _ _ e2⟩
  · rcases back l m e with ⟨i, j, m0, rfl, hi, x0, hh, x4, ad⟩ | ⟨n, rfl, e5, es⟩ | ⟨hh, ad, _, no⟩
    · obtain ⟨a, o, y1, y2, y3, y4⟩ := st.rel.obj (.s j) m ⟨_, at_s.mpr (map_at' x4), rfl⟩
      refine ⟨a, o, (ad a).mp y1, y2, by rw [rhp]; exact y3, ?_⟩
      cases sh with
      | true => exact y4
      | false =>
        rcases d with d | d
        · cases d
        · exact y4.nam (S2 := S'.nam S.nm) (Le.refl S'.hp) (flat_mo d x4 rfl)
    · subst es
      obtain ⟨a, o, y1, y2, y3, y4⟩ := st.rel.obj (.c n) m ⟨_, at_c.mpr ⟨m, rfl, e5⟩, rfl⟩
      exact ⟨a, o, y1, y2, y3, y4⟩
    · obtain ⟨a, o, y1, y2, y3, y4⟩ := r.obj l m hh
      obtain ⟨z1, z2⟩ := stays y2 y3 (no a y1)
      exact ⟨a, o, ad a y1, z1, z2, y4.mono ln⟩
  · -- two objects at one place
    have inC : ∀ (l : Plc) (m m2 : MO), Has env l m → Adr σ S l a → (¬ Own ⟨sl.map some, celC sh env.ce⟩ (vs.map some) (celS sh S) a) → ∀ n, ce'[n]? = some (some m2) → Adr (vs.map some) S' (.c n) a → False := fun l m m2 hh ea no n hx en => by
      obtain ⟨b, o, q1, q2, q3, q4⟩ := r.obj l m hh
      have := q1.inj ea
      subst this
      rcases st.own b ⟨.c n, m2, at_c.mpr ⟨m2, rfl, hx⟩, en⟩ with z | z
      · exact no z.own
      · rw [z] at q2; cases q2
    rcases back l m e1 with ⟨i, j, m0, rfl, hi, x0, hh, x4, ad⟩ | ⟨n, rfl, e, es⟩ | ⟨hh, ad, ad', no⟩ <;>
      rcases back l' m' e2 with ⟨i2, j2, m02, rfl, hi2, x02, hh2, x42, ad2⟩ | ⟨n2, rfl, e', es2⟩ | ⟨hh2, ad2, ad2', no2⟩
    · exact r.dis (.s i) (.s i2) m0 m02 a hh hh2 e3 e4
    · have := st.rel.dis (.s j) (.c n2) m m' a ⟨_, at_s.mpr (map_at' x4), rfl⟩ ⟨_, at_c.mpr ⟨m', rfl, e'⟩, rfl⟩ ((ad a).mpr e3) (men_adr (σ := vs.map some) es2 e4)
      cases this
    · exact r.dis (.s i) l' m0 m' a hh hh2 e3 (ad2' a e4)
    · have := st.rel.dis (.c n) (.s j2) m m' a ⟨_, at_c.mpr ⟨m, rfl, e⟩, rfl⟩ ⟨_, at_s.mpr (map_at' x42), rfl⟩ (men_adr (σ := vs.map some) es e3) ((ad2 a).mpr e4)
      cases this
    · have := st.rel.dis (.c n) (.c n2) m m' a ⟨_, at_c.mpr ⟨m, rfl, e⟩, rfl⟩ ⟨_, at_c.mpr ⟨m', rfl, e'⟩, rfl⟩ (men_adr (σ := vs.map some) es e3) (men_adr (σ := vs.map some) es e4)
      cases this
      rfl
    · exact (inC l' m' m hh2 (ad2' a e4) (no2 a (ad2' a e4)) n e (men_adr (σ := vs.map some) es e3)).elim
    · exact r.dis l (.s i2) m m02 a hh hh2 (ad' a e3) e4
    · exact (inC l m m' hh (ad' a e3) (no a (ad' a e3)) n2 e' (men_adr (σ := vs.map some) es2 e4)).elim
    · exact r.dis l l' m m' a hh hh2 (ad' a e3) (ad2' a e4)
  · rw [rhp] at h
    rcases st.fresh b h with z | z | z
    · rw [shp] at z; exact .inl z
    · exact .inr (.inl z)
    · exact .inr (.inr (oO2 b z))
  · refine ⟨?_, rfl⟩
    show ∃ m', (putB env.sl as sl')[i]? = _
    by_cases hi : i ∈ ixs as
    · obtain ⟨j, s, m0, m', x0, x1, x2, x3, x4, x5⟩ := at' i hi
      rw [h] at x1
      cases x1
      exact ⟨m', x5⟩
    · exact ⟨m, by rw [putB_ne hi]; exact h⟩
  · have h : (putB env.sl as sl')[i]? = some (some (.b m)) := h
    by_cases hi : i ∈ ixs as
    · obtain ⟨j, s, m0, m', x0, x1, x2, x3, x4, x5⟩ := at' i hi
      rw [x5] at h
      cases s with
      | v d => cases x2
      | h d => cases x2
      | o z => cases h
      | b z => exact ⟨z, x1⟩
    · rw [putB_ne hi] at h
      exact ⟨m, h⟩
  · obtain ⟨l, m, e1, e2⟩ := h
    rcases back l m ⟨_, e1, rfl⟩ with ⟨i, j, m0, rfl, hi, x0, hh, x4, ad⟩ | ⟨n, rfl, e, es⟩ | ⟨hh, ad, ad', no⟩
    · obtain ⟨j2, s, m02, m', y0, y1, y2, y3, y4, y5⟩ := at' i hi
      have e1 := at_s.mp e1
      have e1 : (putB env.sl as sl')[i]? = some (some (.o m)) := e1
      rw [y5] at e1
      cases s with
      | v d => cases y2
      | h d => cases y2
      | o z => exact .inl ⟨.s i, z, at_s.mpr y1, e2⟩
      | b z => cases e1
    · rcases st.own a ⟨.c n, m, at_c.mpr ⟨m, rfl, e⟩, men_adr (σ := vs.map some) es e2⟩ with z | z
      · exact .inl (oO2 a z)
      · exact .inr z
    · cases l with
      | s i =>
        by_cases hi : i ∈ ixs as
        · obtain ⟨j2, s, m02, m', y0, y1, y2, y3, y4, y5⟩ := at' i hi
          have e1 := at_s.mp e1
          have e1 : (putB env.sl as sl')[i]? = some (some (.o m)) := e1
          rw [y5] at e1
          cases s with
          | v d => cases y2
          | h d => cases y2
          | o z => exact .inl ⟨.s i, z, at_s.mpr y1, e2⟩
          | b z => cases e1
        · have e1 := at_s.mp e1
          have e1 : (putB env.sl as sl')[i]? = some (some (.o m)) := e1
          rw [putB_ne hi] at e1
          exact .inl ⟨.s i, m, at_s.mpr e1, e2⟩
      | c n =>
        obtain ⟨s, q, qm⟩ := hh
        obtain ⟨m2, es, q5⟩ := at_c.mp q
        exact .inl ⟨.c n, m2, at_c.mpr ⟨m2, rfl, q5⟩, ad' a e2⟩
end
end Mir

namespace Mir
open PySem PySem.Spec PyProof.Rows L2
section
variable {X : Cx} {W : WX}
/-! ### arguments -/
theorem da_nil : DA X W [] (eRet []) := by
  refine pa_imp pa_nil ?_
  rintro σ H Q ⟨S, env, z⟩
  exact z.ret rfl
theorem da_cons {e : Expr} {es : List Expr} {f : EF AV} {g : EF (List AV)} (ha : DV X W e f) (hr : DA X W es g) (hs : starEach (e :: es) X.env = (false, eval e X.env) :: starEach es X.env := by rfl) : DA X W (e :: es) (eCons f g) := by
  refine pa_imp (pa_cons ha hr hs) ?_
  rintro σ H Q ⟨S, env, z⟩
  refine ⟨S, env, (At.bind (R := RAv X.K) z).imp fun v H1 ⟨x, S1, e1, r1, st1, z1⟩ => ?_⟩
  refine ⟨S1, e1, (At.bind (R := RAl X.K) z1).imp fun vs H2 ⟨xs, S2, e2, r2, st2, z2⟩ => ?_⟩
  exact z2.ret ⟨v, vs, rfl, r1.mono st2.nle, r2⟩
end

/-! ### the promise of a def -/
inductive FR where
  | d (d : D) | o (m : MO) | h (n : Nat)
abbrev MF := List Sl → CEs → Option (Res FR × List Sl × CEs)
def PostF (K : PySem.W.Frag) (Q : VK) (E : XK) : Res FR → SS → Hp → Prop
  | .ok (.d d), S', H' => ∀ v, Rep K S' d v → Q v H'
  | .ok (.o m), S', H' => ∀ p o, H' p = none → RepO K S' m o → Q (.ref p) (upd H' p o)
  | .ok (.h n), S', H' => ∀ a, S'.nm[n]? = some a → Q (.ref a) H'
  | .ex x, S', H' => ∀ cls dd, RepX K S' x cls dd H' → E cls dd H'
def NoO (as : List Sl) : Prop := ∀ m, Sl.o m ∉ as
def spM (K : PySem.W.Frag) (n : Nat) (mf : MF) : Sp := fun vs H Q E => ∃ S as ce r as' ce', as.length = n ∧ NoO as ∧ Rel K S ⟨as.map some, ce⟩ (vs.map some) H ∧ mf as ce = some (r, as', ce') ∧
  ∀ S' H', Step K S ⟨as.map some, ce⟩ (vs.map some) H S' ⟨as'.map some, ce'⟩ (vs.map some) H' → PostF K Q E r S' H'

/-! ### a call: sh: the callee sees the cells -/
def FR.flat : FR → Bool
  | .d _ => true
  | .o m => m.flat
  | .h _ => false
def rFlat : Res FR → Bool
  | .ok r => r.flat
  | .ex _ => true
def kCallG (sh : Bool) (mf : MF) (as : List AV) : EF FR := fun env => if (ixs as).Nodup then match lend env.sl as with
  | some sl => if sh || sl.all Sl.flat then match mf sl (celC sh env.ce) with
    | some (r, sl', ce') => if sh || (sl'.all Sl.flat && rFlat r) then some (r, ⟨putB env.sl as sl', menC sh env.ce ce'⟩) else none
    | none => none
    else none
  | none => none
  else none
def eCallG (sh : Bool) (mf : MF) (fas : EF (List AV)) : EF FR := eBind fas (kCallG sh mf)
abbrev eCall (mf : MF) (fas : EF (List AV)) : EF FR := eCallG false mf fas
abbrev eCallS (mf : MF) (fas : EF (List AV)) : EF FR := eCallG true mf fas
def eFD (f : EF FR) : EF D := eBind f fun r => match r with
  | .d d => eRet d
  | _ => fun _ => none
theorem lend_noO {env : SLs} {as : List AV} {sl : List Sl} (h : lend env as = some sl) : NoO sl := fun m hm => by
  obtain ⟨j, e⟩ := List.mem_iff_getElem?.mp hm
  rcases (lend_at h).2 j _ e with ⟨d, ed, _⟩ | ⟨i, m', s', ed, _⟩ | ⟨n, ed, _⟩ <;> cases ed
/-- what is wanted of a call's value -/
def PostR (K : PySem.W.Frag) (W : WX) (σ : St) (Q : VK) : Res FR → SS → Hp → Prop := PostF K Q fun cls dd H => W cls dd σ H
theorem PostF.men {K : PySem.W.Frag} {S S' : SS} {Q : VK} {E : XK} {r : Res FR} {H' : Hp} {sh : Bool} (f : (sh || rFlat r) = true) (h : PostF K Q E r (menS sh S S') H') : PostF K Q E r S' H' := by
  cases sh with
  | true => exact h
  | false =>
    match r, f, h with
    | .ok (.d d), f, h => exact h
    | .ok (.o m), f, h => exact fun p o hp ho => h p o hp (ho.nam (S2 := S'.nam S.nm) (Le.refl S'.hp) f)
    | .ok (.h n), f, h => cases f
    | .ex x, f, h => exact h
theorem call_sp {K : PySem.W.Frag} {n : Nat} {mf : MF} {sh : Bool} {S : SS} {env : ME} {σ : St} {H : Hp} {as : List AV} {vs : List V} {sl sl' : List Sl} {ce' : CEs} {r : Res FR} {Q : VK} {E : XK} (rel : Rel K S env σ H) (ra : RAs K σ S as vs)
    (hn : (ixs as).Nodup) (hl : lend env.sl as = some sl) (hlen : as.length = n) (f1 : (sh || sl.all Sl.flat) = true) (hm : mf sl (celC sh env.ce) = some (r, sl', ce')) (f2 : (sh || (sl'.all Sl.flat && rFlat r)) = true)
    (q : ∀ S' H', Step K S env σ H S' ⟨putB env.sl as sl', menC sh env.ce ce'⟩ σ H' → PostF K Q E r S' H') : spM K n mf vs H Q E := by
  have f2' : sh = true ∨ ((sl'.all Sl.flat) = true ∧ rFlat r = true) := by simpa using f2
  refine ⟨celS sh S, sl, celC sh env.ce, r, sl', ce', by rw [(lend_at hl).1]; exact hlen, lend_noO hl, rel.lent ra hl hn (by simpa using f1), hm, fun S' H' st => ?_⟩
  exact (q _ H' (rel.back ra hl hn (f2'.imp id And.left) st)).men (by rcases f2' with h | h <;> simp [h])
/-- a reading whose value may be a new object -/
def AtF (K : PySem.W.Frag) (W : WX) (f : EF FR) (S : SS) (env : ME) (σ : St) (H : Hp) (Q : VK) : Prop :=
  ∃ r env', Rel K S env σ H ∧ f env = some (r, env') ∧ ∀ S' H', Step K S env σ H S' env' σ H' → PostR K W σ Q r S' H'
def trF (K : PySem.W.Frag) (W : WX) (f : EF FR) : TE := fun σ H Q => ∃ S env, AtF K W f S env σ H Q
/-- an expression that gives a deep value or a new object -/
def DF (X : Cx) (W : WX) (e : Expr) (f : EF FR) : Prop := PE X e (trF X.K W f)
section
variable {K : PySem.W.Frag} {W : WX} {S : SS} {env : ME} {σ : St} {H : Hp} {Q : VK}
theorem AtF.bind {α β : Type} {R : RR α β} {f : EF α} {g : α → EF FR} (h : AtF K W (eBind f g) S env σ H Q) :
    At K W R f S env σ H (fun b H1 => ∃ a S1 env1, R σ S1 a b ∧ Step K S env σ H S1 env1 σ H1 ∧ AtF K W (g a) S1 env1 σ H1 Q) := by
  obtain ⟨r, env', rel, e, q⟩ := h
  unfold eBind at e
  cases ef : f env with
  | none => rw [ef] at e; cases e
  | some p =>
    obtain ⟨r1, e1⟩ := p
    rw [ef] at e
    cases r1 with
    | ex x =>
      have e' : some (Res.ex x, e1) = some (r, env') := e
      cases e'
      exact ⟨.ex x, _, rel, ef, fun S' H' st => q S' H' st⟩
    | ok a =>
      have e' : g a e1 = some (r, env') := e
      exact ⟨.ok a, e1, rel, ef, fun S1 H1 st b rb => ⟨a, S1, e1, rb, st, r, env', st.rel, e', fun S' H' st' => q S' H' (st.trans st')⟩⟩
theorem AtF.kcall {n : Nat} {mf : MF} {sh : Bool} {as : List AV} {vs : List V} (h : AtF K W (kCallG sh mf as) S env σ H Q) (ra : RAs K σ S as vs) (hlen : as.length = n) : spM K n mf vs H Q fun cls dd H2 => W cls dd σ H2 := by
  obtain ⟨r, env', rel, e, q⟩ := h
  unfold kCallG at e
  split at e
  · rename_i hn
    split at e
    · rename_i sl hsl
      split at e
      · rename_i f1
        split at e
        · rename_i r0 sl' ce' hm
          split at e
          · rename_i f2
            cases e
            exact call_sp rel ra hn hsl hlen f1 hm f2 fun S' H' st' => q S' H' st'
          · cases e
        · cases e
      · cases e
    · cases e
  · cases e
/-- what a call's reading asks -/
theorem AtF.call {n : Nat} {mf : MF} {sh : Bool} {fas : EF (List AV)} (h : AtF K W (eCallG sh mf fas) S env σ H Q) (hlen : ∀ e as e', fas e = some (.ok as, e') → as.length = n) :
    At K W (RAl K) fas S env σ H fun vs H1 => spM K n mf vs H1 Q fun cls dd H2 => W cls dd σ H2 := by
  obtain ⟨r, env', rel, e, q⟩ := h
  unfold eCallG eBind at e
  cases ef : fas env with
  | none => rw [ef] at e; cases e
  | some p =>
    obtain ⟨r1, e1⟩ := p
    rw [ef] at e
    cases r1 with
    | ex x =>
      have e' : some (Res.ex x, e1) = some (r, env') := e
      cases e'
      exact ⟨.ex x, _, rel, ef, fun S' H' st => q S' H' st⟩
    | ok as =>
      refine ⟨.ok as, e1, rel, ef, fun S1 H1 st vs rv => ?_⟩
      exact AtF.kcall (sh := sh) ⟨r, env', st.rel, e, fun S' H' st' => q S' H' (st.trans st')⟩ rv (hlen _ _ _ ef)
end
/-- the number of arguments -/
def Len (fas : EF (List AV)) (n : Nat) : Prop := ∀ e as e', fas e = some (.ok as, e') → as.length = n
theorem Len.nil : Len (eRet []) 0 := fun e as e' h => by cases h; rfl
theorem Len.cons {f : EF AV} {g : EF (List AV)} {n : Nat} (h : Len g n) : Len (eCons f g) (n + 1) := fun e as e' z => by
  unfold eCons eBind at z
  split at z
  · rename_i a e1 h1
    dsimp only at z
    split at z
    · rename_i b e2 h2
      cases z
      rw [List.length_cons, h _ _ _ h2]
    · cases z
    · cases z
  · cases z
  · cases z
section
variable {X : Cx} {W : WX}
theorem df_call {sh : Bool} {k j n : Nat} {f : Addr} {fd : FuncData} {ps : List Str} {mf : MF} {x : Str} {p pos : Pos} {e : Expr} {es : List Expr} {fas : EF (List AV)} (tk : TkC X W) (F : FnOk X.prog X.w X.K X.mg X.base (L2.CX X.prog X.w) k f fd ps (spM X.K n mf)) (hm : X.mg x = some (.ref f)) (hk : PySem.W.keepIn X.K (.ref f) = true) (hb : Binds X.K fd ps [])
    (hr : Room j X.A) (hj : k ≤ j) (ha : DA X W (e :: es) fas) (hlen : Len fas n)
    (hg : Gl X x := by rfl) (hdb : (x == ("__debug__" : Str)) = false := by decide) (he : starEach (e :: es) X.env = (false, eval e X.env) :: starEach es X.env := by rfl) (hpl : (backTo pos (starEach es X.env)).any (·.1) = false := by rfl) :
    DF X W (.Call (.Name x p) (e :: es) [] pos) (eCallG sh mf fas) := by
  refine pe_imp (pe_callS F (hr.mono hj) hg hm hk hb (fun σ => tk σ) ha hdb he hpl) ?_
  rintro σ H Q ⟨S, env, z⟩
  exact ⟨S, env, z.call hlen⟩
/-- its deep value -/
theorem de_df {e : Expr} {f : EF FR} (h : DF X W e f) : DE X W e (eFD f) := by
  refine pe_imp h ?_
  rintro σ H Q ⟨S, env, r, env', rel, ef, q⟩
  unfold eFD eBind at ef
  refine ⟨S, env, ?_⟩
  split at ef
  · rename_i a e1 h1
    cases a with
    | d d =>
      cases ef
      exact ⟨_, _, rel, h1, q⟩
    | o m => cases ef
    | h n => cases ef
  · rename_i x e1 h1
    cases ef
    exact ⟨_, _, rel, h1, q⟩
  · cases ef
/-- a new object, left to itself at once -/
def eFz (f : EF FR) : EF D := eBind f fun r => match r with
  | .d d => eRet d
  | .o m => match m.d with
    | some d => eRet d
    | none => fun _ => none
  | .h _ => fun _ => none
theorem de_fz {e : Expr} {f : EF FR} (h : DF X W e f) : DE X W e (eFz f) := by
  refine pe_imp h ?_
  rintro σ H Q ⟨S, env, r, env', rel, ef, q⟩
  unfold eFz eBind at ef
  refine ⟨S, env, ?_⟩
  split at ef
  · rename_i a e1 h1
    cases a with
    | d d =>
      cases ef
      exact ⟨_, _, rel, h1, q⟩
    | o m =>
      dsimp only at ef
      cases hd : m.d with
      | none => rw [hd] at ef; cases ef
      | some d =>
        rw [hd] at ef
        cases ef
        refine ⟨_, _, rel, h1, fun S' H' st p o hp ho => ?_⟩
        have al := st.rel.alloc (o := o) hp
        exact q _ _ (st.trans al) _ ((ho.mono al.nle).rep hd upd_same)
    | h n => cases ef
  · rename_i x e1 h1
    cases ef
    exact ⟨_, _, rel, h1, q⟩
  · cases ef
/-! ### displays -/
def ds : List AV → Option (List D)
  | [] => some []
  | .d d :: r => match ds r with
    | some q => some (d :: q)
    | none => none
  | _ :: _ => none
theorem reps_of {K : PySem.W.Frag} {σ : St} {S : SS} : ∀ {as : List AV} {vs : List V} {l : List D}, RAs K σ S as vs → ds as = some l → Reps K S l vs ∧ l.length = as.length
  | [], _, l, h, e => by cases e; exact ⟨h, rfl⟩
  | .d d :: r, _, l, h, e => by
    obtain ⟨v, vs, ev, h1, h2⟩ := h
    unfold ds at e
    cases q : ds r with
    | none => rw [q] at e; cases e
    | some z =>
      rw [q] at e
      cases e
      obtain ⟨y1, y2⟩ := reps_of h2 q
      exact ⟨⟨v, vs, ev, h1, y1⟩, by simp [y2]⟩
  | .own i :: r, _, l, h, e => by cases e
  | .hd i :: r, _, l, h, e => by cases e
def eLst (fas : EF (List AV)) : EF FR := eBind fas fun as => match ds as with
  | some l => if l.length ≤ sizeLine then eRet (.o (.lst l)) else fun _ => none
  | none => fun _ => none
def eTup (fas : EF (List AV)) : EF D := eBind fas fun as => match ds as with
  | some l => if l.length ≤ sizeLine then eRet (.tup l) else fun _ => none
  | none => fun _ => none
theorem Reps.len {K : PySem.W.Frag} {S : Hp} : ∀ {l : List D} {vs : List V}, Reps K S l vs → l.length = vs.length
  | [], _, h => by cases h; rfl
  | a :: as, _, h => by
    obtain ⟨v, r, e, p, q⟩ := h
    subst e
    simp [Reps.len q]
theorem df_lst {es : List Expr} {fas : EF (List AV)} {pos : Pos} (h : DA X W es fas) : DF X W (.List es pos) (eLst fas) := by
  refine pe_imp (pe_lst h) ?_
  rintro σ H Q ⟨S, env, r, env', rel, ef, q⟩
  unfold eLst eBind at ef
  refine ⟨S, env, ?_⟩
  cases ea : fas env with
  | none => rw [ea] at ef; cases ef
  | some p =>
    obtain ⟨r1, e1⟩ := p
    rw [ea] at ef
    cases r1 with
    | ex x =>
      have ef' : some (Res.ex x, e1) = some (r, env') := ef
      cases ef'
      exact ⟨_, _, rel, ea, q⟩
    | ok as =>
      refine ⟨_, _, rel, ea, fun S1 H1 st vs rv => ?_⟩
      have ef' : (match ds as with
        | some l => if l.length ≤ sizeLine then eRet (FR.o (.lst l)) else fun _ => none
        | none => fun _ => none) e1 = some (r, env') := ef
      cases hl : ds as with
      | none => rw [hl] at ef'; cases ef'
      | some l =>
        rw [hl] at ef'
        dsimp only at ef'
        split at ef'
        · rename_i hz
          cases ef'
          obtain ⟨h1, h2⟩ := reps_of rv hl
          exact ⟨by rw [← h1.len]; exact hz, fun p hp => q S1 H1 st p _ hp ⟨vs, rfl, hz, h1⟩⟩
        · cases ef'
theorem de_tup {es : List Expr} {fas : EF (List AV)} {k : Nat} {pos : Pos} (h : DA X W es fas) : DE X W (.Tuple es k pos) (eTup fas) := by
  refine pe_imp (pe_tup h) ?_
  rintro σ H Q ⟨S, env, z⟩
  refine ⟨S, env, (At.bind (R := RAl X.K) z).imp fun vs H1 ⟨as, S1, e1, rv, st, z1⟩ => ?_⟩
  cases hl : ds as with
  | none =>
    rw [hl] at z1
    obtain ⟨_, _, _, e, _⟩ := z1
    cases e
  | some l =>
    rw [hl] at z1
    dsimp only at z1
    split at z1
    · rename_i hz
      obtain ⟨h1, h2⟩ := reps_of rv hl
      refine ⟨by rw [← h1.len]; exact hz, fun p hp => ?_⟩
      have al := z1.rel.alloc (o := .tup vs) hp
      exact z1.ret' al ⟨p, vs, rfl, .inl upd_same, hz, Reps.mono al.le _ _ h1⟩
    · obtain ⟨_, _, _, e, _⟩ := z1
      cases e
end
end Mir

namespace Mir
open PySem PySem.Spec PyProof.Rows L2

/-! ## statements -/
inductive Out where
  | nx | ret (r : FR) | brk | cnt | ex (x : Ex)
abbrev SF := ME → Option (Out × ME)
def PostS (K : PySem.W.Frag) (W : WX) (Dn : Ends) : Out → SS → St → Hp → Prop
  | .nx, _, σ', H' => Dn.nx σ' H'
  | .brk, _, σ', H' => Dn.bk σ' H'
  | .cnt, _, σ', H' => Dn.ct σ' H'
  | .ret r, S', _, H' => PostF K Dn.rt (fun _ _ _ => False) (.ok r) S' H'
  | .ex x, S', σ', H' => ∀ cls dd, RepX K S' x cls dd H' → W cls dd σ' H'
def AtS (K : PySem.W.Frag) (W : WX) (f : SF) (S : SS) (env : ME) (σ : St) (H : Hp) (Dn : Ends) : Prop :=
  ∃ o env', Rel K S env σ H ∧ f env = some (o, env') ∧ ∀ S' σ' H', Step K S env σ H S' env' σ' H' → PostS K W Dn o S' σ' H'
def trS (K : PySem.W.Frag) (W : WX) (f : SF) : TS := fun Dn σ H => ∃ S env, AtS K W f S env σ H Dn
def DS (X : Cx) (W : WX) (st : Stmt) (f : SF) : Prop := PS X st (trS X.K W f)
def DB (X : Cx) (W : WX) (st : List Stmt) (f : SF) : Prop := PSs X st (trS X.K W f)

def sNx : SF := fun e => some (.nx, e)
def sSeq (f g : SF) : SF := fun e => match f e with
  | some (.nx, e1) => g e1
  | r => r
section
variable {K : PySem.W.Frag} {W : WX} {S : SS} {env : ME} {σ : St} {H : Hp} {f g : SF} {Dn : Ends}
theorem AtS.seq (h : AtS K W (sSeq f g) S env σ H Dn) : AtS K W f S env σ H { Dn with nx := trS K W g Dn } := by
  obtain ⟨o, env', rel, e, q⟩ := h
  unfold sSeq at e
  cases ef : f env with
  | none => rw [ef] at e; cases e
  | some p =>
    obtain ⟨o1, e1⟩ := p
    rw [ef] at e
    refine ⟨o1, e1, rel, ef, fun S1 σ1 H1 st => ?_⟩
    cases o1 with
    | nx =>
      have e' : g e1 = some (o, env') := e
      exact ⟨S1, e1, o, env', st.rel, e', fun S' σ' H' st' => q S' σ' H' (st.trans st')⟩
    | ret r =>
      have e' : some (Out.ret r, e1) = some (o, env') := e
      cases e'
      exact q S1 σ1 H1 st
    | brk =>
      have e' : some (Out.brk, e1) = some (o, env') := e
      cases e'
      exact q S1 σ1 H1 st
    | cnt =>
      have e' : some (Out.cnt, e1) = some (o, env') := e
      cases e'
      exact q S1 σ1 H1 st
    | ex x =>
      have e' : some (Out.ex x, e1) = some (o, env') := e
      cases e'
      exact q S1 σ1 H1 st
/-- an expression, then a statement's end -/
def sBind {α : Type} (f : EF α) (g : α → SF) : SF := fun e => match f e with
  | some (.ok a, e1) => g a e1
  | some (.ex x, e1) => some (.ex x, e1)
  | none => none
theorem AtS.bind {α β : Type} {R : RR α β} {f : EF α} {g : α → SF} (h : AtS K W (sBind f g) S env σ H Dn) :
    At K W R f S env σ H (fun b H1 => ∃ a S1 env1, R σ S1 a b ∧ Step K S env σ H S1 env1 σ H1 ∧ AtS K W (g a) S1 env1 σ H1 Dn) := by
  obtain ⟨o, env', rel, e, q⟩ := h
  unfold sBind at e
  cases ef : f env with
  | none => rw [ef] at e; cases e
  | some p =>
    obtain ⟨r1, e1⟩ := p
    rw [ef] at e
    cases r1 with
    | ex x =>
      have e' : some (Out.ex x, e1) = some (o, env') := e
      cases e'
      exact ⟨.ex x, _, rel, ef, fun S' H' st => q S' σ H' st⟩
    | ok a =>
      have e' : g a e1 = some (o, env') := e
      exact ⟨.ok a, e1, rel, ef, fun S1 H1 st b rb => ⟨a, S1, e1, rb, st, o, env', st.rel, e', fun S' σ' H' st' => q S' σ' H' (st.trans st')⟩⟩
theorem AtS.end {f : SF} {o : Out} {env' : ME} (h : AtS K W f S env σ H Dn) (hf : f env = some (o, env')) {S' : SS} {σ' : St} {H' : Hp} (st : Step K S env σ H S' env' σ' H') : PostS K W Dn o S' σ' H' := by
  obtain ⟨o', e', rel, e, q⟩ := h
  rw [hf] at e
  cases e
  exact q S' σ' H' st
end
section
variable {X : Cx} {W : WX}
theorem db_nil : DB X W [] sNx := by
  refine pss_imp pss_nil ?_
  rintro Dn σ H ⟨S, env, z⟩
  exact z.end rfl z.choose_spec.choose_spec.1.step
theorem db_cons {st : Stmt} {rest : List Stmt} {f g : SF} (h1 : DS X W st f) (h2 : DB X W rest g) : DB X W (st :: rest) (sSeq f g) := by
  refine pss_imp (pss_cons h1 h2) ?_
  rintro Dn σ H ⟨S, env, z⟩
  exact ⟨S, env, z.seq⟩
theorem db_one {st : Stmt} {f : SF} (h1 : DS X W st f) : DB X W [st] f := pss_one h1
theorem ds_pass {pos : Pos} : DS X W (.Pass pos) sNx := by
  refine ps_imp ps_pass ?_
  rintro Dn σ H ⟨S, env, z⟩
  exact z.end rfl z.choose_spec.choose_spec.1.step
theorem ds_doc {x j pos pos'} : DS X W (.Expr (.Constant (.str x) j pos) pos') sNx := by
  refine ps_imp ps_doc ?_
  rintro Dn σ H ⟨S, env, z⟩
  exact z.end rfl z.choose_spec.choose_spec.1.step
def sCnt : SF := fun e => some (.cnt, e)
def sBrk : SF := fun e => some (.brk, e)
theorem ds_continue {pos : Pos} : DS X W (.Continue pos) sCnt := by
  refine ps_imp ps_continue ?_
  rintro Dn σ H ⟨S, env, z⟩
  exact z.end rfl z.choose_spec.choose_spec.1.step
theorem ds_break {pos : Pos} : DS X W (.Break pos) sBrk := by
  refine ps_imp ps_break ?_
  rintro Dn σ H ⟨S, env, z⟩
  exact z.end rfl z.choose_spec.choose_spec.1.step
/-- an expression whose value is dropped -/
def sDo (f : EF D) : SF := sBind f fun _ => sNx
theorem ds_do {e : Expr} {f : EF D} {pos : Pos} (h : DE X W e f) (hs : swapsWith e none pos.line X.env = pure false := by rfl) : DS X W (.Expr e pos) (sDo f) := by
  refine ps_imp (ps_expr h hs) ?_
  rintro Dn σ H ⟨S, env, z⟩
  exact ⟨S, env, (AtS.bind (R := RD X.K) z).imp fun v H1 ⟨a, S1, e1, _, st, z1⟩ => z1.end rfl z1.choose_spec.choose_spec.1.step⟩
def isB (env : ME) (i : Nat) : Bool := match env.sl[i]? with
  | some (some (.b _)) => true
  | _ => false
theorem notB_of {env : ME} {i : Nat} (h : isB env i = false) : NotB env i := fun m e => by
  unfold isB at h
  rw [e] at h
  cases h
/-- name = value -/
def putV (i : Nat) (d : D) : SF := fun e => if isB e i then none else some (.nx, e.set i (some (.v d)))
def sSet (i : Nat) (f : EF D) : SF := sBind f (putV i)
theorem putV_end {K : PySem.W.Frag} {W : WX} {S : SS} {env : ME} {σ : St} {H : Hp} {Dn : Ends} {i : Nat} {d : D} {v : V} (z : AtS K W (putV i d) S env σ H Dn) (r : Rep K S d v) : Dn.nx (σ.set i (some v)) H := by
  obtain ⟨o, e', rel, e, q⟩ := z
  unfold putV at e
  cases hb : isB env i with
  | true => rw [hb] at e; cases e
  | false =>
    rw [hb] at e
    cases e
    exact q _ _ _ (rel.setV (notB_of hb) r)
theorem ds_set (i : Nat) {x : Str} {e : Expr} {f : EF D} {pos pos' : Pos} (hN : X.N.Nodup) (he : DE X W e f) (hi : X.N[i]? = some x := by rfl) (hx : Loc X.env.scope x := by first | exact Or.inl rfl | exact Or.inr rfl)
    (hs : swapsWith e (some (.Name x pos')) pos.line X.env = pure false := by rfl) (hf : X.fn x = true ∨ X.env.scope.names.lookup x = some .local := by first | exact .inl rfl | exact .inr rfl | assumption) : DS X W (.Assign [.Name x pos'] e pos) (sSet i f) := by
  refine ps_imp (ps_set hN hi hx he hs hf) ?_
  rintro Dn σ H ⟨S, env, z⟩
  exact ⟨S, env, (AtS.bind (R := RD X.K) z).imp fun v H1 ⟨a, S1, e1, r, st, z1⟩ => putV_end z1 r⟩
/-- name = value or a new object, which the name then owns -/
def putF (i : Nat) : FR → SF
  | .d d => putV i d
  | .o m => fun e => if isB e i then none else some (.nx, e.set i (some (.o m)))
  | .h n => fun e => if isB e i then none else some (.nx, e.set i (some (.h n)))
def sSetF (i : Nat) (f : EF FR) : SF := sBind f (putF i)
/-- .. an end whose value is told as PostF tells it -/
theorem trF_bind {K : PySem.W.Frag} {W : WX} {S : SS} {env : ME} {σ : St} {H : Hp} {Dn : Ends} {f : EF FR} {g : FR → SF} {Q : VK} (z : AtS K W (sBind f g) S env σ H Dn)
    (h : ∀ r S1 e1 H1, AtS K W (g r) S1 e1 σ H1 Dn → PostF K Q (fun _ _ _ => False) (.ok r) S1 H1) : trF K W f σ H Q := by
  obtain ⟨o, env', rel, e, q⟩ := z
  unfold sBind at e
  refine ⟨S, env, ?_⟩
  cases ef : f env with
  | none => rw [ef] at e; cases e
  | some p =>
    obtain ⟨r1, e1⟩ := p
    rw [ef] at e
    cases r1 with
    | ex x =>
      have e' : some (Out.ex x, e1) = some (o, env') := e
      cases e'
      exact ⟨.ex x, _, rel, ef, fun S' H' st => q S' σ H' st⟩
    | ok a =>
      have e' : g a e1 = some (o, env') := e
      refine ⟨.ok a, e1, rel, ef, fun S1 H1 st => ?_⟩
      have := h a S1 e1 H1 ⟨o, env', st.rel, e', fun S' σ' H' st' => q S' σ' H' (st.trans st')⟩
      cases a with
      | d d => exact this
      | o m => exact this
      | h n => exact this
theorem putF_end {K : PySem.W.Frag} {W : WX} {S : SS} {env : ME} {σ : St} {H : Hp} {Dn : Ends} {i : Nat} {r : FR} (z : AtS K W (putF i r) S env σ H Dn) : PostF K (fun v H' => Dn.nx (σ.set i (some v)) H') (fun _ _ _ => False) (.ok r) S H := by
  cases r with
  | d d => exact fun v r => putV_end z r
  | o m =>
    intro p o hp ho
    obtain ⟨o', e', rel, e, q⟩ := z
    unfold putF at e
    dsimp only at e
    cases hb : isB env i with
    | true => rw [hb] at e; cases e
    | false =>
      rw [hb] at e
      cases e
      exact q _ _ _ (rel.setO (notB_of hb) hp ho)
  | h n =>
    intro a ha
    obtain ⟨o', e', rel, e, q⟩ := z
    unfold putF at e
    dsimp only at e
    cases hb : isB env i with
    | true => rw [hb] at e; cases e
    | false =>
      rw [hb] at e
      cases e
      exact q _ _ _ (rel.setH (notB_of hb) ha)
theorem ds_setF (i : Nat) {x : Str} {e : Expr} {f : EF FR} {pos pos' : Pos} (hN : X.N.Nodup) (he : DF X W e f) (hi : X.N[i]? = some x := by rfl) (hx : Loc X.env.scope x := by first | exact Or.inl rfl | exact Or.inr rfl)
    (hs : swapsWith e (some (.Name x pos')) pos.line X.env = pure false := by rfl) (hf : X.fn x = true ∨ X.env.scope.names.lookup x = some .local := by first | exact .inl rfl | exact .inr rfl | assumption) : DS X W (.Assign [.Name x pos'] e pos) (sSetF i f) := by
  refine ps_imp (ps_set hN hi hx he hs hf) ?_
  rintro Dn σ H ⟨S, env, z⟩
  exact trF_bind z fun r S1 e1 H1 z1 => putF_end z1
/-- return e -/
def sRet (f : EF FR) : SF := sBind f fun r e => some (.ret r, e)
theorem ds_ret {e : Expr} {f : EF FR} {pos : Pos} (he : DF X W e f) : DS X W (.Return (some e) pos) (sRet f) := by
  refine ps_imp (ps_ret he) ?_
  rintro Dn σ H ⟨S, env, z⟩
  exact trF_bind z fun r S1 e1 H1 z1 => z1.end rfl z1.choose_spec.choose_spec.1.step
def eDF (f : EF D) : EF FR := eBind f fun d => eRet (.d d)
theorem df_of {e : Expr} {f : EF D} (h : DE X W e f) : DF X W e (eDF f) := by
  refine pe_imp h ?_
  rintro σ H Q ⟨S, env, r, env', rel, ef, q⟩
  unfold eDF eBind at ef
  refine ⟨S, env, ?_⟩
  cases ea : f env with
  | none => rw [ea] at ef; cases ef
  | some p =>
    obtain ⟨r1, e1⟩ := p
    rw [ea] at ef
    cases r1 with
    | ok a =>
      have ef' : some (Res.ok (FR.d a), e1) = some (r, env') := ef
      cases ef'
      exact ⟨_, _, rel, ea, q⟩
    | ex x =>
      have ef' : some (Res.ex x, e1) = some (r, env') := ef
      cases ef'
      exact ⟨_, _, rel, ea, q⟩
/-- return of a name: its value, or the object that it owns -/
def eOut (i : Nat) : EF FR := fun e => match e.sl[i]? with
  | some (some (.v d)) => some (.ok (.d d), e)
  | some (some (.o m)) => some (.ok (.o m), e.set i none)
  | some (some (.h n)) => some (.ok (.h n), e)
  | _ => none
def less (H : Hp) (p : Addr) : Hp := fun b => if b = p then none else H b
theorem less_same {H : Hp} {p : Addr} : less H p p = none := by unfold less; rw [if_pos rfl]
theorem less_ne {H : Hp} {p b : Addr} (h : b ≠ p) : less H p b = H b := by unfold less; rw [if_neg h]
theorem upd_less {H : Hp} {p : Addr} {o : HO} (h : H p = some o) : upd (less H p) p o = H := by
  funext b
  unfold upd less
  by_cases e : b = p
  · subst e; simp [h]
  · simp [e]
/-- an object of one's own is let go -/
theorem Rel.out {K : PySem.W.Frag} {S : SS} {env : ME} {σ : St} {H : Hp} {i : Nat} {m : MO} {p : Addr} (r : Rel K S env σ H) (hs : env.sl[i]? = some (some (.o m))) (hp : σ[i]? = some (some (.ref p))) :
    Step K S env σ H S (env.set i none) σ (less H p) := by
  obtain ⟨a, o, x1, x2, x3, x4⟩ := r.obj (.s i) m ⟨_, at_s.mpr hs, rfl⟩
  have x1 : σ[i]? = some (some (V.ref a)) := x1
  rw [hp] at x1
  cases x1
  have old : ∀ l m, Has (env.set i none) l m → l ≠ .s i ∧ Has env l m := fun l m h => by
    rcases has_set h with ⟨_, _, q, e1, e2⟩ | h
    · cases e1
    · exact h
  have ne : ∀ (l : Plc) (m2 : MO) (b : Addr), l ≠ .s i → Has env l m2 → Adr σ S l b → b ≠ p := fun l m2 b n h e z => by
    subst z
    exact n (r.dis l (.s i) m2 m b h ⟨_, at_s.mpr hs, rfl⟩ e hp)
  refine ⟨⟨by simp [r.len], r.nlen, fun b u e => ?_, fun j d' e => ?_, fun j n e => ?_, fun l m e => ?_, fun l k m m' a e1 e2 e3 e4 => ?_⟩, Le.refl S.hp, fun _ _ h => h, fun b h => .inl h, fun b u e _ n => ?_, fun j m h => ?_, fun j m h => ?_, fun a h => ?_, rfl, fun _ h => h⟩
  · have hb : b ≠ p := fun z => by subst z; rw [x3] at e; cases e
    rw [less_ne hb]; exact r.sub b u e
  · rcases set_get e with ⟨rfl, e, _⟩ | ⟨n, e⟩
    · cases e
    · exact r.val j d' e
  · rcases set_get e with ⟨rfl, e, _⟩ | ⟨_, e⟩
    · cases e
    · exact r.hnd j n e
  · obtain ⟨n, h⟩ := old l m e
    obtain ⟨b, u, e1, e2, e3, e4⟩ := r.obj l m h
    exact ⟨b, u, e1, by rw [less_ne (ne l m b n h e1)]; exact e2, e3, e4⟩
  · exact r.dis l k m m' a (old l m e1).2 (old k m' e2).2 e3 e4
  · have hb : b ≠ p := fun z => by
      subst z
      exact n ⟨.s i, m, ⟨_, at_s.mpr hs, rfl⟩, hp⟩
    rw [less_ne hb]; exact e
  · have hj : i ≠ j := fun z => by
      subst z
      rw [hs] at h
      cases h
    rw [List.getElem?_set_ne hj]
    exact ⟨⟨m, h⟩, rfl⟩
  · rcases set_get h with ⟨rfl, e, _⟩ | ⟨_, e⟩
    · cases e
    · exact ⟨m, e⟩
  · obtain ⟨l, m, e1, e2⟩ := h
    obtain ⟨n, _⟩ := old l m ⟨_, e1, rfl⟩
    rw [at_set_ne n] at e1
    exact .inl ⟨l, m, e1, e2⟩
theorem df_out (i : Nat) {x : Str} {pos : Pos} (hN : X.N[i]? = some x := by rfl) (hv : Vis X.env.scope x := by first | exact Or.inl rfl | exact Or.inr (Or.inl rfl) | exact Or.inr (Or.inr rfl))
    (hd : (x == ("__debug__" : Str)) = false := by decide) (hcd : (x == ("__classdict__" : Str)) = false := by decide) : DF X W (.Name x pos) (eOut i) := by
  refine pe_imp (pe_var hN hv hd hcd) ?_
  rintro σ H Q ⟨S, env, r, env', rel, e, q⟩
  unfold eOut at e
  split at e
  · rename_i d hd
    cases e
    obtain ⟨v, e1, e2⟩ := rel.val i d hd
    exact ⟨v, e1, q S H rel.step v e2⟩
  · rename_i m hm
    cases e
    obtain ⟨a, o, e1, e2, e3, e4⟩ := rel.obj (.s i) m ⟨_, at_s.mpr hm, rfl⟩
    refine ⟨.ref a, e1, ?_⟩
    have z : ∀ p o, less H a p = none → RepO X.K S m o → Q (.ref p) (upd (less H a) p o) := q S (less H a) (rel.out hm e1)
    have z2 := z a o less_same e4
    rw [upd_less e2] at z2
    exact z2
  · rename_i n hm
    cases e
    obtain ⟨a, e1, e2⟩ := rel.hnd i n hm
    exact ⟨.ref a, e1, q S H rel.step a e2⟩
  · cases e
def sRetN : SF := fun e => some (.ret (.d .non), e)
theorem ds_retN {pos : Pos} : DS X W (.Return none pos) sRetN := by
  refine ps_imp ps_retN ?_
  rintro Dn σ H ⟨S, env, z⟩
  have : PostF X.K Dn.rt (fun _ _ _ => False) (.ok (.d .non)) S H := z.end rfl z.choose_spec.choose_spec.1.step
  exact this .non rfl
def sIf (t : EF Bool) (f g : SF) : SF := sBind t fun b => match b with
  | true => f
  | false => g
theorem ds_if {c : Expr} {a b : List Stmt} {t : EF Bool} {f g : SF} {pos : Pos} (hc : DT X W c t) (ha : DB X W a f) (hb : DB X W b g) : DS X W (.If c a b pos) (sIf t f g) := by
  refine ps_imp (ps_if hc ha hb) ?_
  rintro Dn σ H ⟨S, env, z⟩
  refine ⟨S, env, (AtS.bind (R := RB) z).imp fun v H1 ⟨d, S1, e1, r, st, z1⟩ => ?_⟩
  have r' : d = v := r
  subst r'
  cases d with
  | true => exact iteT ⟨S1, e1, z1⟩
  | false => exact iteF ⟨S1, e1, z1⟩
/-- name op= e -/
def sAug (i : Nat) (f : EF D) (g : D → D → EF D) : SF := sBind (eVar i) fun x => sBind f fun y => sBind (g x y) (putV i)
theorem ds_aug (i : Nat) {x : Str} {e : Expr} {op : Operator} {ti : TIp} {f : EF D} {g : D → D → EF D} {pos pos' : Pos} (hN : X.N.Nodup) (he : DE X W e f) (ho : PIp X op ti)
    (h : ∀ (S : SS) env σ H Q x y vx vy, Rep X.K S x vx → Rep X.K S y vy → At X.K W (RD X.K) (g x y) S env σ H Q → ti vx vy H Q)
    (hi : X.N[i]? = some x := by rfl) (hx : Loc X.env.scope x := by first | exact Or.inl rfl | exact Or.inr rfl) (hf : X.fn x = true ∨ X.env.scope.names.lookup x = some .local := by first | exact .inl rfl | exact .inr rfl | assumption) :
    DS X W (.AugAssign (.Name x pos') op e pos) (sAug i f g) := by
  refine ps_imp (ps_aug hN hi hx he ho hf) ?_
  rintro Dn σ H ⟨S, env, z⟩
  obtain ⟨o, e', rel, ee, q⟩ := id z
  unfold sAug sBind eVar at ee
  have hx : ∃ d, env.sl[i]? = some (some (.v d)) := by
    split at ee
    · rename_i h1
      split at h1
      · exact ⟨_, by assumption⟩
      · cases h1
    · rename_i h1
      split at h1
      · cases h1
      · cases h1
    · cases ee
  obtain ⟨d, hd⟩ := hx
  obtain ⟨v, e1, e2⟩ := rel.val i d hd
  refine ⟨v, e1, ?_⟩
  have z2 : AtS X.K W (sBind f fun y => sBind (g d y) (putV i)) S env σ H Dn := by
    refine ⟨o, e', rel, ?_, q⟩
    rw [← ee]
    simp only [hd]
    rfl
  refine ⟨S, env, (AtS.bind (R := RD X.K) z2).imp fun y H1 ⟨dy, S1, e1, r, st, z1⟩ => ?_⟩
  refine h S1 e1 σ H1 _ d dy v y (Rep.mono st.le _ _ e2) r ((AtS.bind (R := RD X.K) z1).imp fun w H2 ⟨dw, S2, e2, r2, st2, z3⟩ => ?_)
  exact putV_end z3 r2
end

/-! ## a def -/
def backs : List Sl → SLs → List Sl
  | [], _ => []
  | .v d :: r, _ :: e => .v d :: backs r e
  | .h d :: r, _ :: e => .h d :: backs r e
  | .b m :: r, s :: e => (match s with
    | some (.b m') => .b m'
    | _ => .b m) :: backs r e
  | .o m :: r, _ :: e => .o m :: backs r e
  | s :: r, [] => s :: r
/-- the mirror of a def: n parameters, k further slots -/
def mDef (n k : Nat) (g : SF) : MF := fun as ce => if as.length = n then match g ⟨as.map some ++ List.replicate k none, ce⟩ with
  | some (.ret r, e) => some (.ok r, backs as e.sl, e.ce)
  | some (.nx, e) => some (.ok (.d .non), backs as e.sl, e.ce)
  | some (.ex x, e) => some (.ex x, backs as e.sl, e.ce)
  | _ => none
  else none
theorem backs_len : ∀ (as : List Sl) (e : SLs), (backs as e).length = as.length
  | [], _ => rfl
  | .v d :: r, _ :: e => by simp [backs, backs_len r e]
  | .h d :: r, _ :: e => by simp [backs, backs_len r e]
  | .b m :: r, s :: e => by simp [backs, backs_len r e]
  | .o m :: r, _ :: e => by simp [backs, backs_len r e]
  | .v d :: r, [] => rfl
  | .h d :: r, [] => rfl
  | .b d :: r, [] => rfl
  | .o d :: r, [] => rfl
theorem backs_at : ∀ (as : List Sl) (e : SLs) (j : Nat) (s : Sl), (backs as e)[j]? = some s → ((∀ m, s ≠ .b m) ∧ as[j]? = some s) ∨ (∃ m m', s = .b m' ∧ as[j]? = some (.b m) ∧ (e[j]? = some (some (.b m')) ∨ (∀ z, e[j]? ≠ some (some (.b z)))))
  | [], _, j, s, h => by simp [backs] at h
  | .v d :: r, x :: e, 0, s, h => by simp [backs] at h; exact .inl ⟨(fun m z => by rw [← h] at z; cases z), (by simp [h])⟩
  | .h d :: r, x :: e, 0, s, h => by simp [backs] at h; exact .inl ⟨(fun m z => by rw [← h] at z; cases z), (by simp [h])⟩
  | .o d :: r, x :: e, 0, s, h => by simp [backs] at h; exact .inl ⟨(fun m z => by rw [← h] at z; cases z), (by simp [h])⟩
  | .b m :: r, x :: e, 0, s, h => by
    simp [backs] at h
    split at h
    · rename_i m'
      exact .inr ⟨m, m', h.symm, rfl, .inl rfl⟩
    · rename_i hx
      refine .inr ⟨m, m, h.symm, rfl, .inr fun z hz => ?_⟩
      simp at hz
      exact hx z hz
  | .v d :: r, x :: e, j + 1, s, h => by simp [backs] at h ⊢; exact backs_at r e j s h
  | .h d :: r, x :: e, j + 1, s, h => by simp [backs] at h ⊢; exact backs_at r e j s h
  | .o d :: r, x :: e, j + 1, s, h => by simp [backs] at h ⊢; exact backs_at r e j s h
  | .b d :: r, x :: e, j + 1, s, h => by simp [backs] at h ⊢; exact backs_at r e j s h
  | a :: r, [], j, s, h => by
    have h' : (a :: r)[j]? = some s := by
      cases a <;> exact h
    cases s with
    | b m => exact .inr ⟨m, m, rfl, h', .inr fun z hz => by simp at hz⟩
    | v d => exact .inl ⟨fun m z => (nomatch z), h'⟩
    | h d => exact .inl ⟨fun m z => (nomatch z), h'⟩
    | o d => exact .inl ⟨fun m z => (nomatch z), h'⟩
section
variable {K : PySem.W.Frag} {S S' : SS} {H H' : Hp} {as : List Sl} {vs : List V} {e' : ME} {σ' : St} {k : Nat} {ce : CEs}
theorem at_app {α : Type} {l : List (Option α)} {k j : Nat} {x : α} : (l ++ List.replicate k none)[j]? = some (some x) ↔ l[j]? = some (some x) := by
  constructor
  · intro h
    by_cases hj : j < l.length
    · rw [List.getElem?_append_left hj] at h; exact h
    · rw [List.getElem?_append_right (by omega)] at h
      rw [List.getElem?_replicate] at h
      split at h <;> cases h
  · intro h
    rw [List.getElem?_append_left (lt_of_at h)]; exact h
theorem at_ent {l : Plc} {s : Sl} : (ME.mk (as.map some ++ List.replicate k none) ce).at l = some s ↔ (ME.mk (as.map some) ce).at l = some s := by
  cases l with
  | s i => rw [at_s, at_s]; exact at_app
  | c n => exact Iff.rfl
theorem adr_ent {l : Plc} {a : Addr} : Adr (vs.map some ++ List.replicate k none) S l a ↔ Adr (vs.map some) S l a := by
  cases l with
  | s i => exact at_app
  | c n => exact Iff.rfl
/-- the slots at the entry -/
theorem Rel.enter (r : Rel K S ⟨as.map some, ce⟩ (vs.map some) H) : Rel K S ⟨as.map some ++ List.replicate k none, ce⟩ (vs.map some ++ List.replicate k none) H := by
  refine ⟨by simp; have := r.len; simpa using this, r.nlen, r.sub, fun i d e => ?_, fun i n e => ?_, fun i m ⟨s, e, em⟩ => ?_, fun i j m m' a ⟨s, e1, m1⟩ ⟨s', e2, m2⟩ e3 e4 => ?_⟩
  · obtain ⟨v, e1, e2⟩ := r.val i d (at_app.mp e)
    exact ⟨v, at_app.mpr e1, e2⟩
  · obtain ⟨v, e1, e2⟩ := r.hnd i n (at_app.mp e)
    exact ⟨v, at_app.mpr e1, e2⟩
  · obtain ⟨a, o, e1, e2, e3, e4⟩ := r.obj i m ⟨s, at_ent.mp e, em⟩
    exact ⟨a, o, adr_ent.mpr e1, e2, e3, e4⟩
  · exact r.dis i j m m' a ⟨s, at_ent.mp e1, m1⟩ ⟨s', at_ent.mp e2, m2⟩ (adr_ent.mp e3) (adr_ent.mp e4)
/-- behind the body, as the caller sees it -/
theorem Step.leave (no : NoO as) (r : Rel K S ⟨as.map some, ce⟩ (vs.map some) H) (st : Step K S ⟨as.map some ++ List.replicate k none, ce⟩ (vs.map some ++ List.replicate k none) H S' e' σ' H') :
    Step K S ⟨as.map some, ce⟩ (vs.map some) H S' ⟨(backs as e'.sl).map some, e'.ce⟩ (vs.map some) H' := by
  have own0 : ∀ b, ¬ Own ⟨as.map some, ce⟩ (vs.map some) S b → ¬ Own ⟨as.map some ++ List.replicate k none, ce⟩ (vs.map some ++ List.replicate k none) S b := fun b n ⟨i, m, ⟨s, e, em⟩, ev⟩ => n ⟨i, m, ⟨s, at_ent.mp e, em⟩, adr_ent.mp ev⟩
  have ownO0 : ∀ b, OwnO ⟨as.map some ++ List.replicate k none, ce⟩ (vs.map some ++ List.replicate k none) S b → OwnO ⟨as.map some, ce⟩ (vs.map some) S b := fun b ⟨i, m, e, ev⟩ => ⟨i, m, at_ent.mp e, adr_ent.mp ev⟩
  -- a lent place
  have lent : ∀ (j : Nat) (m : MO), as[j]? = some (.b m) → ∃ m' a o, e'.sl[j]? = some (some (.b m')) ∧ (backs as e'.sl)[j]? = some (.b m') ∧ vs[j]? = some (.ref a) ∧ H' a = some o ∧ S'.hp a = none ∧ RepO K S' m' o ∧ σ'[j]? = some (some (.ref a)) := fun j m e => by
    obtain ⟨⟨m', q1⟩, q2⟩ := st.bor j m (at_app.mpr (map_at' e))
    obtain ⟨a, o, x1, x2, x3, x4⟩ := st.rel.obj (.s j) m' ⟨_, at_s.mpr q1, rfl⟩
    have hj : j < (backs as e'.sl).length := by rw [backs_len]; exact lt_of_at e
    have eb : (backs as e'.sl)[j]? = some (backs as e'.sl)[j] := List.getElem?_eq_getElem hj
    have x1 : σ'[j]? = some (some (V.ref a)) := x1
    have vj : vs[j]? = some (.ref a) := by
      rw [x1] at q2
      have := at_app.mp q2.symm
      obtain ⟨y, ey, z⟩ := map_at this
      cases ey
      exact z
    rcases backs_at as e'.sl j _ eb with ⟨nb, ea⟩ | ⟨m1, m2, ed, ea, h | h⟩
    · rw [e] at ea
      exact absurd (Option.some.inj ea).symm (nb m)
    · rw [q1] at h
      cases h
      exact ⟨m', a, o, q1, by rw [eb, ed], vj, x2, x3, x4, x1⟩
    · exact absurd q1 (h m')
  have slot : ∀ (j : Nat) (s : Sl), ((backs as e'.sl).map some)[j]? = some (some s) → ((∀ m, s ≠ .b m) ∧ as[j]? = some s) ∨ ∃ m0, as[j]? = some (.b m0) := fun j s e => by
    obtain ⟨s', es, e⟩ := map_at e
    cases es
    rcases backs_at as e'.sl j _ e with h | ⟨m1, m2, ed, ea, _⟩
    · exact .inl h
    · exact .inr ⟨m1, ea⟩
  -- an object behind: a lent one, a cell's
  have hasB : ∀ (l : Plc) (m : MO), Has ⟨(backs as e'.sl).map some, e'.ce⟩ l m → (∃ j a m0, l = .s j ∧ as[j]? = some (.b m0) ∧ e'.sl[j]? = some (some (.b m)) ∧ vs[j]? = some (.ref a) ∧ σ'[j]? = some (some (.ref a))) ∨ ∃ n, l = .c n ∧ e'.ce[n]? = some (some m) := fun l m ⟨s, e, em⟩ => by
    cases l with
    | s j =>
      rcases slot j s (at_s.mp e) with ⟨nb, ea⟩ | ⟨m0, ea⟩
      · cases s with
        | v d => cases em
        | h d => cases em
        | b d => exact absurd rfl (nb d)
        | o d => exact absurd (List.mem_of_getElem? ea) (no d)
      · obtain ⟨m', a, o, q1, q2, q3, q4, q5, q6, q7⟩ := lent j m0 ea
        have e5 : ((backs as e'.sl).map some)[j]? = some (some s) := at_s.mp e
        rw [map_at' q2] at e5
        cases e5
        cases em
        exact .inl ⟨j, a, m0, rfl, ea, q1, q3, q7⟩
    | c n =>
      obtain ⟨m', es, e5⟩ := at_c.mp e
      subst es
      have em' : some m' = some m := em
      cases em'
      exact .inr ⟨n, rfl, e5⟩
  have adr : ∀ (l : Plc) (m : MO) (a : Addr), Has ⟨(backs as e'.sl).map some, e'.ce⟩ l m → Adr (vs.map some) S' l a → Has e' l m ∧ Adr σ' S' l a := fun l m a h e => by
    rcases hasB l m h with ⟨j, a', m0, rfl, _, q1, q3, q7⟩ | ⟨n, rfl, q⟩
    · have e5 : (vs.map some)[j]? = some (some (.ref a)) := e
      rw [map_at' q3] at e5
      cases e5
      exact ⟨⟨_, at_s.mpr q1, rfl⟩, q7⟩
    · exact ⟨⟨_, at_c.mpr ⟨m, rfl, q⟩, rfl⟩, e⟩
  refine ⟨⟨by simp [backs_len]; have := r.len; simpa using this, st.rel.nlen, st.rel.sub, fun i d e => ?_, fun i n e => ?_, fun l m e => ?_, fun l l' m m' a e1 e2 e3 e4 => ?_⟩, st.le, st.nm, fun b h => ?_, fun b o h hS n => st.frame b o h hS (own0 b n), fun i m h => ?_, fun i m h => ?_, fun a h => ?_, rfl, st.keep⟩
  · rcases slot i _ e with ⟨nb, ea⟩ | ⟨m0, ea⟩
    · obtain ⟨v, e1, e2⟩ := r.val i d (map_at' ea)
      exact ⟨v, e1, Rep.mono st.le _ _ e2⟩
    · obtain ⟨m', a, o, q1, q2, _⟩ := lent i m0 ea
      have e5 : ((backs as e'.sl).map some)[i]? = some (some (.v d)) := e
      rw [map_at' q2] at e5
      cases e5
  · rcases slot i _ e with ⟨nb, ea⟩ | ⟨m0, ea⟩
    · obtain ⟨v, e1, e2⟩ := r.hnd i n (map_at' ea)
      exact ⟨v, e1, st.nm _ _ e2⟩
    · obtain ⟨m', a, o, q1, q2, _⟩ := lent i m0 ea
      have e5 : ((backs as e'.sl).map some)[i]? = some (some (.h n)) := e
      rw [map_at' q2] at e5
      cases e5
  · rcases hasB l m e with ⟨j, a', m0, rfl, ea, q1, q3, q7⟩ | ⟨n, rfl, q⟩
    · obtain ⟨a, o, x1, x2, x3, x4⟩ := st.rel.obj (.s j) m ⟨_, at_s.mpr q1, rfl⟩
      have x1 : σ'[j]? = some (some (V.ref a)) := x1
      rw [q7] at x1
      cases x1
      exact ⟨a', o, map_at' q3, x2, x3, x4⟩
    · exact st.rel.obj (.c n) m ⟨_, at_c.mpr ⟨m, rfl, q⟩, rfl⟩
  · obtain ⟨h1, a1⟩ := adr l m a e1 e3
    obtain ⟨h2, a2⟩ := adr l' m' a e2 e4
    exact st.rel.dis l l' m m' a h1 h2 a1 a2
  · rcases st.fresh b h with z | z | z
    · exact .inl z
    · exact .inr (.inl z)
    · exact .inr (.inr (ownO0 b z))
  · obtain ⟨s, es, e⟩ := map_at h
    cases es
    obtain ⟨m', a, o, q1, q2, _⟩ := lent i m e
    exact ⟨⟨m', map_at' q2⟩, rfl⟩
  · rcases slot i _ h with ⟨nb, ea⟩ | ⟨m0, ea⟩
    · exact absurd rfl (nb m)
    · exact ⟨m0, map_at' ea⟩
  · obtain ⟨l, m, e, ev⟩ := h
    rcases hasB l m ⟨_, e, rfl⟩ with ⟨j, a', m0, rfl, ea, q1, q3, q7⟩ | ⟨n, rfl, q⟩
    · exfalso
      obtain ⟨m', a2, o, y1, y2, _⟩ := lent j m0 ea
      have e5 : ((backs as e'.sl).map some)[j]? = some (some (.o m)) := at_s.mp e
      rw [map_at' y2] at e5
      cases e5
    · rcases st.own a ⟨.c n, m, at_c.mpr ⟨m, rfl, q⟩, ev⟩ with z | z
      · exact .inl (ownO0 a z)
      · exact .inr z
end
section
variable {P : Program} {w : World} {K : PySem.W.Frag} {mg : Str → Option Value} {base : Heap}
/-- THE RULE for a def -/
theorem okM {x qual : Str} {st : Stmt} {f : Addr} {fd : FuncData} {N ps : List Str} {j k n : Nat} {g : SF} (F : Fun K x qual st f fd) (Sc : FnScope N ps (defScope st)) (hn : ps.length = n) (hk : N.length = n + k)
    (hbody : ∀ (cdv : Value) (A : Around) (outer : List PySem.Env) (s : Shared) (H : Hp) (E : XK), Room j (cxOf (L2.CX P w) P w K mg base N qual (defScope st) f cdv A outer s H E).A →
      Takes (cxOf (L2.CX P w) P w K mg base N qual (defScope st) f cdv A outer s H E) (fun cls d _ H => E cls d H) → DB (cxOf (L2.CX P w) P w K mg base N qual (defScope st) f cdv A outer s H E) (fun cls d _ H => E cls d H) (defBody st) g) :
    FnOk P w K mg base (L2.CX P w) (j + 1) f fd ps (spM K n (mDef n k g)) := by
  refine F.okX Sc (fun vs H Q E h => ?_) (fun cdv A outer s H vs Q E hr h => ?_)
  · obtain ⟨S, as, ce, r, as', ce', h1, h2, rel, _⟩ := h
    have := rel.len
    simp at this
    rw [hn, ← h1, this]
  · obtain ⟨S, as, ce, r, as', ce', h1, h2, rel, hm, q⟩ := h
    have hvl : vs.length = n := by
      have := rel.len
      simp at this
      rw [← h1, this]
    have tk : Takes (cxOf (L2.CX P w) P w K mg base N qual (defScope st) f cdv A outer s H E) (fun cls d _ H => E cls d H) := takes_of rfl rfl rfl rfl
    refine ⟨_, hbody cdv A outer s H E hr tk, ?_⟩
    unfold mDef at hm
    rw [if_pos h1] at hm
    have hst : L2.start N vs = vs.map some ++ List.replicate k none := by
      unfold L2.start
      rw [hk, hvl, Nat.add_sub_cancel_left]
    rw [hst]
    cases eg : g ⟨as.map some ++ List.replicate k none, ce⟩ with
    | none => rw [eg] at hm; cases hm
    | some p =>
      obtain ⟨o, e'⟩ := p
      rw [eg] at hm
      refine ⟨S, _, o, e', rel.enter, eg, fun S' σ' H' stp => ?_⟩
      have lv := stp.leave h2 rel
      cases o with
      | nx =>
        cases hm
        exact q S' H' lv .non rfl
      | ret r' =>
        cases hm
        have := q S' H' lv
        cases r' with
        | d d => exact this
        | o m => exact this
        | h n => exact this
      | ex x =>
        cases hm
        exact q S' H' lv
      | brk => cases hm
      | cnt => cases hm
end
end Mir

namespace Mir
open PySem PySem.Spec PyProof.Rows L2

/-! ## reading what is handed on -/
def viewS : Option (Option Sl) → Option D
  | some (some (.o m)) => m.d
  | some (some (.b m)) => m.d
  | _ => none
def viewC : Option (Option MO) → Option D
  | some (some m) => m.d
  | _ => none
def viewA : AV → ME → Option D
  | .d d, _ => some d
  | .own i, env => viewS env.sl[i]?
  | .hd n, env => viewC env.ce[n]?
theorem view_loc {K : PySem.W.Frag} {S : SS} {env : ME} {σ : St} {H : Hp} {a : AV} {v : V} {d : D} (r : Rel K S env σ H) (ra : RA K σ S a v) (h : viewA a env = some d) : (a = .d d) ∨ ∃ l m b o, Has env l m ∧ m.d = some d ∧ v = .ref b ∧ Adr σ S l b ∧ H b = some o ∧ S.hp b = none ∧ RepO K S m o := by
  cases a with
  | d d' =>
    cases h
    exact .inl rfl
  | own i =>
    have key : ∀ m, Has env (.s i) m → m.d = some d → ∃ l m b o, Has env l m ∧ m.d = some d ∧ v = .ref b ∧ Adr σ S l b ∧ H b = some o ∧ S.hp b = none ∧ RepO K S m o := fun m hm hd => by
      obtain ⟨b, o, e1, e2, e3, e4⟩ := r.obj (.s i) m hm
      have ra' : σ[i]? = some (some v) := ra
      have e1' : σ[i]? = some (some (V.ref b)) := e1
      rw [e1'] at ra'
      cases ra'
      exact ⟨.s i, m, b, o, hm, hd, rfl, e1, e2, e3, e4⟩
    unfold viewA at h
    dsimp only at h
    cases hs : env.sl[i]? with
    | none => rw [hs] at h; cases h
    | some s =>
      rw [hs] at h
      cases s with
      | none => cases h
      | some s =>
        cases s with
        | v d => cases h
        | h d => cases h
        | o m => exact .inr (key m ⟨_, at_s.mpr hs, rfl⟩ h)
        | b m => exact .inr (key m ⟨_, at_s.mpr hs, rfl⟩ h)
  | hd n =>
    unfold viewA at h
    dsimp only at h
    cases hs : env.ce[n]? with
    | none => rw [hs] at h; cases h
    | some s =>
      rw [hs] at h
      cases s with
      | none => cases h
      | some m =>
        have hm : Has env (.c n) m := ⟨_, at_c.mpr ⟨m, rfl, hs⟩, rfl⟩
        obtain ⟨b, o, e1, e2, e3, e4⟩ := r.obj (.c n) m hm
        obtain ⟨a', q1, q2⟩ := ra
        have e1' : S.nm[n]? = some b := e1
        rw [e1'] at q1
        cases q1
        exact .inr ⟨.c n, m, b, o, hm, h, q2, e1, e2, e3, e4⟩
/-- the value is d: its top read off H, its parts stable -/
def Rep1 (K : PySem.W.Frag) (S H : Hp) : D → V → Prop
  | .tup ds, v => ∃ a vs, v = .ref a ∧ TupAt K H a vs ∧ ds.length ≤ sizeLine ∧ ds.length = vs.length ∧ Reps K S ds vs ∧ TupAt K S a vs
  | .lst ds, v => ∃ a vs, v = .ref a ∧ H a = some (.lst vs) ∧ ds.length ≤ sizeLine ∧ ds.length = vs.length ∧ Reps K S ds vs
  | .frl ds, v => ∃ a vs, v = .ref a ∧ SqL K H a vs ∧ ds.length ≤ sizeLine ∧ ds.length = vs.length ∧ Reps K S ds vs
  | .dK kds, v => ∃ a kvs, v = .ref a ∧ Rd H a (.dK kvs) ∧ kds.length ≤ sizeLine ∧ RepK K S kds kvs
  | .ins C gs, v => ∃ Ca a dx fs, ClsN K C Ca ∧ v = .ref a ∧ H a = some (.ins Ca dx fs) ∧ RepF K S gs fs
  | .exc C gs, v => ∃ Ca a d fs, ClsN K C Ca ∧ v = .ref a ∧ H a = some (ExH (.ref Ca) (some d) a) ∧ H d = some (.xd fs) ∧ RepF K S gs fs
  | .str x, v => v = .str x ∧ x.length ≤ sizeLine
  | .non, v => v = .non
  | .bl b, v => v = .bl b
  | .int i, v => v = .int i
  | .ty n, v => v = .ty n
  | .ref a, v => v = .ref a
theorem same_rd {S H : Hp} (sm : Same S H) {a : Addr} {u : HO} (h : Rd S a u) : Rd H a u := by
  rcases h with h | ⟨o, h⟩
  · exact .inl (sm _ _ h)
  · exact .inr ⟨o, sm _ _ h⟩
theorem Rep.one {K : PySem.W.Frag} {S H : Hp} (sm : Same S H) {d : D} {v : V} (h : Rep K S d v) : Rep1 K S H d v := by
  cases d with
  | tup ds =>
    obtain ⟨a, vs, e, q, l, r⟩ := h
    exact ⟨a, vs, e, (Le.of sm).tupAt q, l, Reps.len r, r, q⟩
  | lst ds =>
    obtain ⟨a, vs, e, q, l, r⟩ := h
    exact ⟨a, vs, e, sm _ _ q, l, Reps.len r, r⟩
  | frl ds =>
    obtain ⟨a, vs, e, q, l, r⟩ := h
    exact ⟨a, vs, e, (Le.of sm).sqL q, l, Reps.len r, r⟩
  | dK ds =>
    obtain ⟨a, vs, e, q, l, r⟩ := h
    exact ⟨a, vs, e, same_rd sm q, l, r⟩
  | ins C gs =>
    obtain ⟨Ca, a, dx, fs, c, e, q, r⟩ := h
    exact ⟨Ca, a, dx, fs, c, e, sm _ _ q, r⟩
  | exc C gs =>
    obtain ⟨Ca, a, d, fs, c, e, q, q2, r⟩ := h
    exact ⟨Ca, a, d, fs, c, e, sm _ _ q, sm _ _ q2, r⟩
  | str x => exact h
  | non => exact h
  | bl b => exact h
  | int i => exact h
  | ty n => exact h
  | ref a => exact h
theorem RepO.one {K : PySem.W.Frag} {S : SS} {H : Hp} {m : MO} {d : D} {o : HO} {a : Addr} (h : RepO K S m o) (hd : m.d = some d) (e : H a = some o) : Rep1 K S H d (.ref a) := by
  cases m with
  | lst ds =>
    cases hd
    obtain ⟨vs, rfl, l, r⟩ := h
    exact ⟨a, vs, rfl, e, l, Reps.len r, r⟩
  | dK ds =>
    cases hd
    obtain ⟨vs, rfl, l, r⟩ := h
    exact ⟨a, vs, rfl, .inl e, l, r⟩
  | ins C gs =>
    cases hd
    obtain ⟨Ca, dx, fs, c, rfl, r⟩ := h
    exact ⟨Ca, a, dx, fs, c, rfl, e, r⟩
  | lsA ds => cases hd
  | dA ds => cases hd
  | insA C gs => cases hd
theorem view_one {K : PySem.W.Frag} {S : SS} {env : ME} {σ : St} {H : Hp} {a : AV} {v : V} {d : D} (r : Rel K S env σ H) (ra : RA K σ S a v) (h : viewA a env = some d) : Rep1 K S H d v := by
  rcases view_loc r ra h with rfl | ⟨l, m, b, o, hm, hd, rfl, e1, e2, e3, e4⟩
  · exact Rep.one r.sub ra
  · exact e4.one hd e2
/-- an operation on what is handed on, that changes nothing -/
def eOn {α : Type} (a : AV) (op : D → Option α) : EF α := fun env => match viewA a env with
  | some d => match op d with
    | some r => some (.ok r, env)
    | none => none
  | none => none
theorem At.on {α β : Type} {K : PySem.W.Frag} {W : WX} {R : RR α β} {a : AV} {op : D → Option α} {S : SS} {env : ME} {σ : St} {H : Hp} {Q : β → Hp → Prop} {v : V} (z : At K W R (eOn a op) S env σ H Q) (ra : RA K σ S a v) :
    ∃ d x, Rep1 K S H d v ∧ op d = some x ∧ Rel K S env σ H ∧ ∀ (S' : SS) H', Step K S env σ H S' env σ H' → ∀ b, R σ S' x b → Q b H' := by
  obtain ⟨r, env', rel, e, q⟩ := z
  unfold eOn at e
  split at e
  · rename_i d hd
    split at e
    · rename_i x hx
      cases e
      exact ⟨d, x, view_one rel ra hd, hx, rel, fun S' H' st => q S' H' st⟩
    · cases e
  · cases e
/-- two of them -/
def eOn2 {α : Type} (a b : AV) (op : D → D → Option α) : EF α := fun env => match viewA a env, viewA b env with
  | some d, some d' => match op d d' with
    | some r => some (.ok r, env)
    | none => none
  | _, _ => none
theorem At.on2 {α β : Type} {K : PySem.W.Frag} {W : WX} {R : RR α β} {a b : AV} {op : D → D → Option α} {S : SS} {env : ME} {σ : St} {H : Hp} {Q : β → Hp → Prop} {v u : V} (z : At K W R (eOn2 a b op) S env σ H Q) (ra : RA K σ S a v) (rb : RA K σ S b u) :
    ∃ d d' x, Rep1 K S H d v ∧ Rep1 K S H d' u ∧ op d d' = some x ∧ Rel K S env σ H ∧ ∀ (S' : SS) H', Step K S env σ H S' env σ H' → ∀ b, R σ S' x b → Q b H' := by
  obtain ⟨r, env', rel, e, q⟩ := z
  unfold eOn2 at e
  split at e
  · rename_i d d' hd hd'
    split at e
    · rename_i x hx
      cases e
      exact ⟨d, d', x, view_one rel ra hd, view_one rel rb hd', hx, rel, fun S' H' st => q S' H' st⟩
    · cases e
  · cases e
/-! ## built-in functions by name -/
section
variable {X : Cx} {W : WX}
theorem de_callB {x : Str} {id : String} {r : List V → Hp → VK → Prop} {p pos : Pos} {e : Expr} {es : List Expr} {fas : EF (List AV)} {g : List AV → EF D} (hc : CallR X (.builtin id) r) (hm : X.mg x = none) (hv : bootBuiltins x = some (.builtin id)) (ha : DA X W (e :: es) fas)
    (h : ∀ (S : SS) env σ H Q as vs, RAs X.K σ S as vs → At X.K W (RD X.K) (g as) S env σ H Q → r vs H Q)
    (hg : Gl X x := by rfl) (hn : x ≠ "__name__" := by decide) (hd : (x == ("__debug__" : Str)) = false := by decide) (he : starEach (e :: es) X.env = (false, eval e X.env) :: starEach es X.env := by rfl) (hpl : (backTo pos (starEach es X.env)).any (·.1) = false := by rfl) :
    DE X W (.Call (.Name x p) (e :: es) [] pos) (eBind fas g) := by
  refine pe_imp (pe_callB hc hg hm hv ha hn hd he hpl) ?_
  rintro σ H Q ⟨S, env, z⟩
  exact ⟨S, env, (At.bind (R := RAl X.K) z).imp fun vs H1 ⟨as, S1, e1, rv, st, z1⟩ => h S1 e1 σ H1 Q as vs rv z1⟩
theorem de_callTy {x : Str} {T : String} {r : List V → Hp → VK → Prop} {p pos : Pos} {e : Expr} {es : List Expr} {fas : EF (List AV)} {g : List AV → EF D} (hc : CallR X (.type T) r) (hm : X.mg x = none) (hv : bootBuiltins x = some (.type T)) (ha : DA X W (e :: es) fas)
    (h : ∀ (S : SS) env σ H Q as vs, RAs X.K σ S as vs → At X.K W (RD X.K) (g as) S env σ H Q → r vs H Q)
    (hg : Gl X x := by rfl) (hn : x ≠ "__name__" := by decide) (hd : (x == ("__debug__" : Str)) = false := by decide) (he : starEach (e :: es) X.env = (false, eval e X.env) :: starEach es X.env := by rfl) (hpl : (backTo pos (starEach es X.env)).any (·.1) = false := by rfl) :
    DE X W (.Call (.Name x p) (e :: es) [] pos) (eBind fas g) := by
  refine pe_imp (pe_callTy hc hg hm hv ha hn hd he hpl) ?_
  rintro σ H Q ⟨S, env, z⟩
  exact ⟨S, env, (At.bind (R := RAl X.K) z).imp fun vs H1 ⟨as, S1, e1, rv, st, z1⟩ => h S1 e1 σ H1 Q as vs rv z1⟩
end
/-- one argument, two -/
def g1 {α : Type} (g : AV → EF α) : List AV → EF α
  | [a] => g a
  | _ => fun _ => none
def g2 {α : Type} (g : AV → AV → EF α) : List AV → EF α
  | [a, b] => g a b
  | _ => fun _ => none
section
variable {α β : Type} {K : PySem.W.Frag} {W : WX} {R : RR α β} {S : SS} {env : ME} {σ : St} {H : Hp} {Q : β → Hp → Prop} {as : List AV} {vs : List V}
theorem no_at {P : Prop} (z : At K W R (fun _ => none) S env σ H Q) : P := by
  obtain ⟨_, _, _, e, _⟩ := z
  cases e
theorem At.g1 {g : AV → EF α} (z : At K W R (g1 g as) S env σ H Q) (r : RAs K σ S as vs) : ∃ a v, vs = [v] ∧ RA K σ S a v ∧ At K W R (g a) S env σ H Q := by
  match as, z, r with
  | [], z, r => exact no_at z
  | [a], z, r =>
    obtain ⟨v, rs, e, h1, h2⟩ := r
    cases h2
    exact ⟨a, v, e, h1, z⟩
  | _ :: _ :: _, z, r => exact no_at z
theorem At.g2 {g : AV → AV → EF α} (z : At K W R (g2 g as) S env σ H Q) (r : RAs K σ S as vs) : ∃ a b v u, vs = [v, u] ∧ RA K σ S a v ∧ RA K σ S b u ∧ At K W R (g a b) S env σ H Q := by
  match as, z, r with
  | [], z, r => exact no_at z
  | [a], z, r => exact no_at z
  | [a, b], z, r =>
    obtain ⟨v, rs, e, h1, u, rs', e', h2, h3⟩ := r
    cases h3
    subst e'
    exact ⟨a, b, v, u, e, h1, h2, z⟩
  | _ :: _ :: _ :: _, z, r => exact no_at z
end
/-! ### scalar kinds -/
theorem rep_int {K : PySem.W.Frag} {S : Hp} {i : Int} {v : V} (h : Rep K S (.int i) v) : v = .int i := h
def dInts : List D → Option (List Int)
  | [] => some []
  | .int i :: r => match dInts r with
    | some q => some (i :: q)
    | none => none
  | _ :: _ => none
theorem dInts_v {K : PySem.W.Frag} {S : Hp} : ∀ {ds : List D} {ns : List Int} {vs : List V}, dInts ds = some ns → Reps K S ds vs → vs = ns.map V.int
  | [], ns, vs, h, r => by cases h; exact r
  | .int i :: ds, ns, vs, h, r => by
    unfold dInts at h
    cases q : dInts ds with
    | none => rw [q] at h; cases h
    | some z =>
      rw [q] at h
      cases h
      obtain ⟨v, rs, e, h1, h2⟩ := r
      rw [e, dInts_v q h2, rep_int h1]
      rfl
  | .non :: _, _, _, h, _ | .bl _ :: _, _, _, h, _ | .str _ :: _, _, _, h, _ | .ty _ :: _, _, _, h, _ | .ref _ :: _, _, _, h, _ | .tup _ :: _, _, _, h, _ | .lst _ :: _, _, _, h, _ | .frl _ :: _, _, _, h, _ | .dK _ :: _, _, _, h, _ | .ins _ _ :: _, _, _, h, _ | .exc _ _ :: _, _, _, h, _ => by cases h
def dBls : List D → Option (List Bool)
  | [] => some []
  | .bl i :: r => match dBls r with
    | some q => some (i :: q)
    | none => none
  | _ :: _ => none
theorem dBls_v {K : PySem.W.Frag} {S : Hp} : ∀ {ds : List D} {ns : List Bool} {vs : List V}, dBls ds = some ns → Reps K S ds vs → vs = ns.map V.bl
  | [], ns, vs, h, r => by cases h; exact r
  | .bl i :: ds, ns, vs, h, r => by
    unfold dBls at h
    cases q : dBls ds with
    | none => rw [q] at h; cases h
    | some z =>
      rw [q] at h
      cases h
      obtain ⟨v, rs, e, h1, h2⟩ := r
      have h1' : v = .bl i := h1
      rw [e, dBls_v q h2, h1']
      rfl
  | .non :: _, _, _, h, _ | .int _ :: _, _, _, h, _ | .str _ :: _, _, _, h, _ | .ty _ :: _, _, _, h, _ | .ref _ :: _, _, _, h, _ | .tup _ :: _, _, _, h, _ | .lst _ :: _, _, _, h, _ | .frl _ :: _, _, _, h, _ | .dK _ :: _, _, _, h, _ | .ins _ _ :: _, _, _, h, _ | .exc _ _ :: _, _, _, h, _ => by cases h
def dStrs : List D → Option (List Str)
  | [] => some []
  | .str i :: r => match dStrs r with
    | some q => some (i :: q)
    | none => none
  | _ :: _ => none
theorem dStrs_v {K : PySem.W.Frag} {S : Hp} : ∀ {ds : List D} {ns : List Str} {vs : List V}, dStrs ds = some ns → Reps K S ds vs → vs = ns.map V.str ∧ ns.length = ds.length ∧ ∀ x ∈ ns, x.length ≤ sizeLine
  | [], ns, vs, h, r => by cases h; exact ⟨r, rfl, fun x hx => by cases hx⟩
  | .str i :: ds, ns, vs, h, r => by
    unfold dStrs at h
    cases q : dStrs ds with
    | none => rw [q] at h; cases h
    | some z =>
      rw [q] at h
      cases h
      obtain ⟨v, rs, e, h1, h2⟩ := r
      obtain ⟨h1', hl⟩ := h1
      obtain ⟨e2, l2, b2⟩ := dStrs_v q h2
      rw [e, e2, h1']
      refine ⟨rfl, by simp [l2], fun x hx => ?_⟩
      rcases List.mem_cons.mp hx with rfl | hx
      · exact hl
      · exact b2 x hx
  | .non :: _, _, _, h, _ | .int _ :: _, _, _, h, _ | .bl _ :: _, _, _, h, _ | .ty _ :: _, _, _, h, _ | .ref _ :: _, _, _, h, _ | .tup _ :: _, _, _, h, _ | .lst _ :: _, _, _, h, _ | .frl _ :: _, _, _, h, _ | .dK _ :: _, _, _, h, _ | .ins _ _ :: _, _, _, h, _ | .exc _ _ :: _, _, _, h, _ => by cases h

section
variable {X : Cx} {W : WX} {x : Str} {p pos : Pos} {e : Expr} {es : List Expr} {fas : EF (List AV)}
/-! ### len, sum, all, any, abs, min, max, int, repr -/
def oLen : D → Option D
  | .str z => some (.int z.length)
  | .lst ds => some (.int ds.length)
  | .frl ds => some (.int ds.length)
  | .tup ds => some (.int ds.length)
  | .dK kds => some (.int kds.length)
  | _ => none
theorem repK_len {K : PySem.W.Frag} {S : Hp} : ∀ {l : List (Key × D)} {vs : List (Key × V)}, RepK K S l vs → l.length = vs.length
  | [], _, h => by cases h; rfl
  | (k, a) :: as, _, h => by
    obtain ⟨v, r, e, p, q⟩ := h
    subst e
    simp [repK_len q]
theorem call_lenR : CallR X (.builtin "len") (fun xs H Q => ∃ a kvs, xs = [V.ref a] ∧ Rd H a (.dK kvs) ∧ Q (.int kvs.length) H) := by
  intro pins s σ H xs us Q I r h
  obtain ⟨a, kvs, rfl, ha, q⟩ := h
  obtain ⟨u, rfl, ru⟩ := vals1 r
  cases ru
  exact d_len I ha fun t s' I' => ⟨.int kvs.length, H, I', ⟨t, rfl⟩, q⟩
theorem de_len (hm : X.mg "len" = none) (ha : DA X W (e :: es) fas) (hg : Gl X "len" := by rfl) (he : starEach (e :: es) X.env = (false, eval e X.env) :: starEach es X.env := by rfl) (hpl : (backTo pos (starEach es X.env)).any (·.1) = false := by rfl) :
    DE X W (.Call (.Name "len" p) (e :: es) [] pos) (eBind fas (g1 fun a => eOn a oLen)) := by
  refine de_callB (CallR.or call_len call_lenR) hm PySem.boot_len ha (fun S env σ H Q as vs rv z => ?_) hg (he := he) (hpl := hpl)
  obtain ⟨a, v, rfl, ra, z⟩ := z.g1 rv
  obtain ⟨d, n, rd, ho, rel, q⟩ := z.on ra
  cases d with
  | str z =>
    cases ho
    obtain ⟨rfl, hl⟩ := rd
    exact .inl ⟨_, z.length, rfl, ⟨hl, rfl⟩, q S H rel.step _ rfl⟩
  | lst ds =>
    cases ho
    obtain ⟨b, vs, rfl, hq, hl, e, _⟩ := rd
    exact .inl ⟨_, ds.length, rfl, .inl ⟨vs, SqL.of hq, e⟩, q S H rel.step _ rfl⟩
  | frl ds =>
    cases ho
    obtain ⟨b, vs, rfl, hq, hl, e, _⟩ := rd
    exact .inl ⟨_, ds.length, rfl, .inl ⟨vs, hq, e⟩, q S H rel.step _ rfl⟩
  | tup ds =>
    cases ho
    obtain ⟨b, vs, rfl, hq, hl, e, _⟩ := rd
    exact .inl ⟨_, ds.length, rfl, .inr ⟨vs, hq.sq, e⟩, q S H rel.step _ rfl⟩
  | dK ds =>
    cases ho
    obtain ⟨b, vs, rfl, hq, hl, r⟩ := rd
    refine .inr ⟨b, vs, rfl, hq, ?_⟩
    have z := q S H rel.step (.int (ds.length : Nat)) rfl
    rw [repK_len r] at z
    exact z
  | _ => cases ho
/-- a built-in on one list (or other) of which the rule asks by its value -/
theorem de_b1 {nm : Str} {id : String} {r : List V → Hp → VK → Prop} {op : D → Option D} (hc : CallR X (.builtin id) r) (hm : X.mg nm = none) (hv : bootBuiltins nm = some (.builtin id)) (ha : DA X W (e :: es) fas)
    (h : ∀ d v S H Q x, Rep1 X.K S H d v → op d = some x → (∀ w, (∀ S, Rep X.K S x w) → Q w H) → r [v] H Q) (hx : ∀ d x, op d = some x → ∀ S S' w, Rep X.K S x w → Rep X.K S' x w)
    (hg : Gl X nm := by rfl) (hn : nm ≠ "__name__" := by decide) (hd : (nm == ("__debug__" : Str)) = false := by decide) (he : starEach (e :: es) X.env = (false, eval e X.env) :: starEach es X.env := by rfl) (hpl : (backTo pos (starEach es X.env)).any (·.1) = false := by rfl) :
    DE X W (.Call (.Name nm p) (e :: es) [] pos) (eBind fas (g1 fun a => eOn a op)) := by
  refine de_callB hc hm hv ha (fun S env σ H Q as vs rv z => ?_) hg hn hd he hpl
  obtain ⟨a, v, rfl, ra, z⟩ := z.g1 rv
  obtain ⟨d, n, rd, ho, rel, q⟩ := z.on ra
  exact h d v S H Q n rd ho fun w rw => q S H rel.step w (rw S)
def oAll : D → Option D
  | .lst ds => match dBls ds with
    | some bs => some (.bl (bs.all id))
    | none => none
  | _ => none
def oAny : D → Option D
  | .lst ds => match dBls ds with
    | some bs => some (.bl (bs.any id))
    | none => none
  | _ => none
def oSum : D → Option D
  | .lst ds => match dInts ds with
    | some bs => some (.int bs.sum)
    | none => none
  | _ => none
def oAbs : D → Option D
  | .int i => some (.int (if i < 0 then -i else i))
  | _ => none
def oRepr : D → Option D
  | .bl true => some (.str "True")
  | .bl false => some (.str "False")
  | .int i => if i.natAbs.log2 < 1920 then some (.str (toString i)) else none
  | .str _ => none
  | _ => none
theorem repB {K : PySem.W.Frag} {S S' : Hp} {b : Bool} {w : V} (h : Rep K S (.bl b) w) : Rep K S' (.bl b) w := h
theorem de_all (hc : X.calm = true) (hm : X.mg "all" = none) (ha : DA X W (e :: es) fas) (hg : Gl X "all" := by rfl) (he : starEach (e :: es) X.env = (false, eval e X.env) :: starEach es X.env := by rfl) (hpl : (backTo pos (starEach es X.env)).any (·.1) = false := by rfl) :
    DE X W (.Call (.Name "all" p) (e :: es) [] pos) (eBind fas (g1 fun a => eOn a oAll)) := by
  refine de_b1 (cr_all hc) hm (by decide +kernel) ha (fun d v S H Q x rd ho q => ?_) (fun d x ho S S' w h => ?_) hg (by decide) (by decide) he hpl
  · cases d with
    | lst ds =>
      unfold oAll at ho
      dsimp only at ho
      split at ho
      · rename_i bs hb
        cases ho
        obtain ⟨a, vs, rfl, hq, hl, e, r⟩ := rd
        have := dBls_v hb r
        subst this
        exact ⟨a, bs, rfl, SqL.of hq, q _ fun _ => rfl⟩
      · cases ho
    | _ => cases ho
  · cases d with
    | lst ds =>
      unfold oAll at ho
      dsimp only at ho
      split at ho
      · cases ho; exact h
      · cases ho
    | _ => cases ho
theorem de_any (hc : X.calm = true) (hm : X.mg "any" = none) (ha : DA X W (e :: es) fas) (hg : Gl X "any" := by rfl) (he : starEach (e :: es) X.env = (false, eval e X.env) :: starEach es X.env := by rfl) (hpl : (backTo pos (starEach es X.env)).any (·.1) = false := by rfl) :
    DE X W (.Call (.Name "any" p) (e :: es) [] pos) (eBind fas (g1 fun a => eOn a oAny)) := by
  refine de_b1 (cr_any hc) hm (by decide +kernel) ha (fun d v S H Q x rd ho q => ?_) (fun d x ho S S' w h => ?_) hg (by decide) (by decide) he hpl
  · cases d with
    | lst ds =>
      unfold oAny at ho
      dsimp only at ho
      split at ho
      · rename_i bs hb
        cases ho
        obtain ⟨a, vs, rfl, hq, hl, e, r⟩ := rd
        have := dBls_v hb r
        subst this
        exact ⟨a, bs, rfl, SqL.of hq, q _ fun _ => rfl⟩
      · cases ho
    | _ => cases ho
  · cases d with
    | lst ds =>
      unfold oAny at ho
      dsimp only at ho
      split at ho
      · cases ho; exact h
      · cases ho
    | _ => cases ho
theorem de_sum (hc : X.calm = true) (hm : X.mg "sum" = none) (ha : DA X W (e :: es) fas) (hg : Gl X "sum" := by rfl) (he : starEach (e :: es) X.env = (false, eval e X.env) :: starEach es X.env := by rfl) (hpl : (backTo pos (starEach es X.env)).any (·.1) = false := by rfl) :
    DE X W (.Call (.Name "sum" p) (e :: es) [] pos) (eBind fas (g1 fun a => eOn a oSum)) := by
  refine de_b1 (cr_sum hc) hm (by decide +kernel) ha (fun d v S H Q x rd ho q => ?_) (fun d x ho S S' w h => ?_) hg (by decide) (by decide) he hpl
  · cases d with
    | lst ds =>
      unfold oSum at ho
      dsimp only at ho
      split at ho
      · rename_i bs hb
        cases ho
        obtain ⟨a, vs, rfl, hq, hl, e, r⟩ := rd
        have := dInts_v hb r
        subst this
        exact ⟨a, bs, rfl, SqL.of hq, q _ fun _ => rfl⟩
      · cases ho
    | _ => cases ho
  · cases d with
    | lst ds =>
      unfold oSum at ho
      dsimp only at ho
      split at ho
      · cases ho; exact h
      · cases ho
    | _ => cases ho
theorem de_abs (hm : X.mg "abs" = none) (ha : DA X W (e :: es) fas) (hg : Gl X "abs" := by rfl) (he : starEach (e :: es) X.env = (false, eval e X.env) :: starEach es X.env := by rfl) (hpl : (backTo pos (starEach es X.env)).any (·.1) = false := by rfl) :
    DE X W (.Call (.Name "abs" p) (e :: es) [] pos) (eBind fas (g1 fun a => eOn a oAbs)) := by
  refine de_b1 call_abs hm (by decide +kernel) ha (fun d v S H Q x rd ho q => ?_) (fun d x ho S S' w h => ?_) hg (by decide) (by decide) he hpl
  · cases d with
    | int i =>
      cases ho
      exact ⟨i, congrArg (fun z => [z]) (show v = V.int i from rd), q _ fun _ => rfl⟩
    | _ => cases ho
  · cases d with
    | int i => cases ho; exact h
    | _ => cases ho
end
end Mir

namespace Mir
open PySem PySem.Spec PyProof.Rows L2
section
variable {X : Cx} {W : WX}
/-! ## operators by values -/
/-- the rule r of an operation does what op says -/
def OpOk (K : PySem.W.Frag) (r : R2) (op : D → D → Option D) : Prop := ∀ (S : SS) env σ H (Q : VK) d d' v u x, Rel K S env σ H → Rep1 K S H d v → Rep1 K S H d' u → op d d' = some x →
  (∀ (S' : SS) H', Step K S env σ H S' env σ H' → ∀ b, Rep K S' x b → Q b H') → r v u H Q
theorem OpOk.or {K : PySem.W.Frag} {r r' : R2} {op op' : D → D → Option D} (h : OpOk K r op) (h' : OpOk K r' op') : OpOk K (fun x y H Q => r x y H Q ∨ r' x y H Q) (fun a b => match op a b with
  | some x => some x
  | none => op' a b) := by
  intro S env σ H Q d d' v u x rel r1 r2 e q
  cases ho : op d d' with
  | some y =>
    simp only [ho] at e
    cases e
    exact .inl (h S env σ H Q d d' v u _ rel r1 r2 ho q)
  | none =>
    simp only [ho] at e
    exact .inr (h' S env σ H Q d d' v u _ rel r1 r2 e q)
theorem de_bin {o : Operator} {r : R2} {op : D → D → Option D} {a b : Expr} {fa fb : EF AV} {pos : Pos} (ho : OpR X (binaryOp o) r) (h : OpOk X.K r op) (ha : DV X W a fa) (hb : DV X W b fb) : DE X W (.BinOp a o b pos) (e2 fa fb fun x y => eOn2 x y op) := by
  refine de_op ho ha hb fun S env σ H Q x y vx vy rx ry z => ?_
  obtain ⟨d, d', w, r1, r2, e, rel, q⟩ := z.on2 rx ry
  exact h S env σ H Q d d' vx vy w rel r1 r2 e q
theorem de_cmpO {o : CmpOp} {r : R2} {op : D → D → Option D} {a b : Expr} {fa fb : EF AV} {pos : Pos} (ho : OpR X (compareOp o) r) (h : OpOk X.K r op) (hm : behindInMarks o b = false) (ha : DV X W a fa) (hb : DV X W b fb) : DE X W (.Compare a [o] [b] pos) (e2 fa fb fun x y => eOn2 x y op) := by
  refine de_cmp ho hm ha hb fun S env σ H Q x y vx vy rx ry z => ?_
  obtain ⟨d, d', w, r1, r2, e, rel, q⟩ := z.on2 rx ry
  exact h S env σ H Q d d' vx vy w rel r1 r2 e q
theorem dt_cmpO {o : CmpOp} {r : R2} {op : D → D → Option D} {a b : Expr} {fa fb : EF AV} {pos : Pos} (ho : OpR X (compareOp o) r) (h : OpOk X.K r op) (hm : behindInMarks o b = false) (ha : DV X W a fa) (hb : DV X W b fb) : DT X W (.Compare a [o] [b] pos) (eT (e2 fa fb fun x y => eOn2 x y op)) := by
  refine dt_cmp ho hm ha hb fun S env σ H Q x y vx vy rx ry z => ?_
  obtain ⟨d, d', w, r1, r2, e, rel, q⟩ := z.on2 rx ry
  exact h S env σ H Q d d' vx vy w rel r1 r2 e q
/-! ### ints -/
def oI (f : Int → Int → Option D) : D → D → Option D
  | .int i, .int j => f i j
  | _, _ => none
theorem oI_inv {f : Int → Int → Option D} {d d' x : D} (h : oI f d d' = some x) : ∃ i j, d = .int i ∧ d' = .int j ∧ f i j = some x := by
  cases d with
  | int i =>
    cases d' with
    | int j => exact ⟨i, j, rfl, rfl, h⟩
    | _ => cases h
  | _ => cases h
theorem ok_rI0 {K : PySem.W.Frag} {g : Int → Int → V} {f : Int → Int → D} (h : ∀ i j S, Rep K S (f i j) (g i j)) : OpOk K (rI0 g) (oI fun i j => some (f i j)) := by
  intro S env σ H Q d d' v u x rel r1 r2 e q
  obtain ⟨i, j, rfl, rfl, e⟩ := oI_inv e
  cases e
  exact ⟨i, j, r1, r2, q S H rel.step _ (h i j S)⟩
theorem ok_rI {K : PySem.W.Frag} {C : Int → Int → Prop} {g : Int → Int → V} {f : Int → Int → Option D} (hC : ∀ i j x, f i j = some x → C i j) (h : ∀ i j x S, f i j = some x → Rep K S x (g i j)) : OpOk K (rI C g) (oI f) := by
  intro S env σ H Q d d' v u x rel r1 r2 e q
  obtain ⟨i, j, rfl, rfl, e⟩ := oI_inv e
  exact ⟨i, j, r1, r2, hC i j x e, q S H rel.step _ (h i j x S e)⟩
def oLt := oI fun i j => some (.bl (decide (i < j)))
def oLe := oI fun i j => some (.bl (decide (i ≤ j)))
def oGt := oI fun i j => some (.bl (decide (j < i)))
def oGe := oI fun i j => some (.bl (decide (j ≤ i)))
theorem ok_lt {K : PySem.W.Frag} : OpOk K (rI0 fun i j => .bl (decide (i < j))) oLt := ok_rI0 fun _ _ _ => rfl
theorem ok_le {K : PySem.W.Frag} : OpOk K (rI0 fun i j => .bl (decide (i ≤ j))) oLe := ok_rI0 fun _ _ _ => rfl
theorem ok_gt {K : PySem.W.Frag} : OpOk K (rI0 fun i j => .bl (decide (j < i))) oGt := ok_rI0 fun _ _ _ => rfl
theorem ok_ge {K : PySem.W.Frag} : OpOk K (rI0 fun i j => .bl (decide (j ≤ i))) oGe := ok_rI0 fun _ _ _ => rfl
def oSub := oI fun i j => some (.int (i - j))
theorem ok_sub {K : PySem.W.Frag} : OpOk K (rI0 fun i j => .int (i - j)) oSub := ok_rI0 fun _ _ _ => rfl
def oMul := oI fun i j => if i.natAbs.log2 + j.natAbs.log2 < 1000000 then some (.int (i * j)) else if (-(2 ^ 64) < i ∧ i < 2 ^ 64) ∨ (-(2 ^ 64) < j ∧ j < 2 ^ 64) then some (.int (i * j)) else none
theorem ok_mul {K : PySem.W.Frag} : OpOk K (fun x y H Q => rI CMulW (fun i j => .int (i * j)) x y H Q ∨ rI CMul (fun i j => .int (i * j)) x y H Q) oMul := by
  intro S env σ H Q d d' v u x rel r1 r2 e q
  obtain ⟨i, j, rfl, rfl, e'⟩ := oI_inv e
  clear e
  split at e'
  · rename_i h
    cases e'
    exact .inl ⟨i, j, r1, r2, h, q S H rel.step _ rfl⟩
  · split at e'
    · rename_i h
      cases e'
      exact .inr ⟨i, j, r1, r2, h, q S H rel.step _ rfl⟩
    · cases e'
def oFdiv := oI fun i j => if 0 < j ∧ j.natAbs.log2 < 9000 then some (.int (i / j)) else none
theorem ok_fdiv {K : PySem.W.Frag} : OpOk K (rI CDivW fun i j => .int (i / j)) oFdiv := by
  refine ok_rI (fun i j x h => ?_) fun i j x S h => ?_
  · split at h
    · assumption
    · cases h
  · split at h
    · cases h; rfl
    · cases h
def oMod := oI fun i j => if 0 < j then some (.int (i % j)) else none
theorem ok_mod {K : PySem.W.Frag} : OpOk K (rI (fun _ j => 0 < j) fun i j => .int (i % j)) oMod := by
  refine ok_rI (fun i j x h => ?_) fun i j x S h => ?_
  · split at h
    · assumption
    · cases h
  · split at h
    · cases h; rfl
    · cases h
def oPow := oI fun i j => if 0 ≤ j ∧ j ≤ 1000000 ∧ i.natAbs < 2 ^ 64 then some (.int (i ^ j.toNat)) else none
theorem ok_pow {K : PySem.W.Frag} : OpOk K (rI CPow fun i j => .int (i ^ j.toNat)) oPow := by
  refine ok_rI (fun i j x h => ?_) fun i j x S h => ?_
  · split at h
    · assumption
    · cases h
  · split at h
    · cases h; rfl
    · cases h
/-! ### + of ints, texts, lists, tuples -/
def oAdd : D → D → Option D
  | .int i, .int j => some (.int (i + j))
  | .str x, .str y => if x.length + y.length ≤ sizeLine then some (.str (x ++ y)) else none
  | .lst xs, .lst ys => if xs.length + ys.length ≤ sizeLine then some (.lst (xs ++ ys)) else none
  | _, _ => none
theorem reps_app {K : PySem.W.Frag} {S : Hp} : ∀ {a b : List D} {va vb : List V}, Reps K S a va → Reps K S b vb → Reps K S (a ++ b) (va ++ vb)
  | [], b, va, vb, h, h' => by cases h; exact h'
  | d :: a, b, _, vb, h, h' => by
    obtain ⟨v, r, e, p, q⟩ := h
    subst e
    exact ⟨v, r ++ vb, rfl, p, reps_app q h'⟩
theorem str_add_len (x y : Str) : (x ++ y).length = x.length + y.length := by
  show (x.cps ++ y.cps).size = x.cps.size + y.cps.size
  simp
abbrev rAddStr : R2 := fun x y H Q => ∃ i j : Str, x = .str i ∧ y = .str j ∧ i.length + j.length ≤ sizeLine ∧ Q (.str (i ++ j)) H
abbrev rAdd3 : R2 := fun x y H Q => rI0 (fun i j => .int (i + j)) x y H Q ∨ rAddStr x y H Q ∨ rCat x y H Q
theorem op_add3 : OpR X (binaryOp .Add) rAdd3 := OpR.or op_add (OpR.or op_add_str op_cat)
theorem ok_add {K : PySem.W.Frag} : OpOk K rAdd3 oAdd := by
  intro S env σ H Q d d' v u x rel r1 r2 e q
  cases d with
  | int i =>
    cases d' with
    | int j => cases e; exact .inl ⟨i, j, r1, r2, q S H rel.step _ rfl⟩
    | _ => cases e
  | str i =>
    cases d' with
    | str j =>
      unfold oAdd at e
      dsimp only at e
      split at e
      · rename_i h
        cases e
        exact .inr (.inl ⟨i, j, r1.1, r2.1, h, q S H rel.step _ ⟨rfl, by rw [str_add_len]; exact h⟩⟩)
      · cases e
    | _ => cases e
  | lst xs =>
    cases d' with
    | lst ys =>
      unfold oAdd at e
      dsimp only at e
      split at e
      · rename_i h
        cases e
        obtain ⟨a, vs, rfl, hq, hl, el, rr⟩ := r1
        obtain ⟨b, us, rfl, hq', hl', el', rr'⟩ := r2
        refine .inr (.inr ⟨a, b, vs, us, rfl, rfl, hq, hq', by rw [← el, ← el']; exact h, fun p hp => ?_⟩)
        have al := rel.alloc (o := .lst (vs ++ us)) hp
        exact q _ _ al _ ⟨p, vs ++ us, rfl, upd_same, by rw [List.length_append]; exact h, reps_app (Reps.mono al.le _ _ rr) (Reps.mono al.le _ _ rr')⟩
      · cases e
    | _ => cases e
  | _ => cases e
/-! ### ==, != of data -/
mutual
def toPy : D → Option PyData
  | .non => some .none
  | .bl b => some (.bool b)
  | .int i => some (.int i)
  | .str x => some (.str x)
  | .tup ds => match toPys ds with
    | some l => some (.tuple l)
    | none => none
  | .lst ds => match toPys ds with
    | some l => some (.list l)
    | none => none
  | _ => none
def toPys : List D → Option (List PyData)
  | [] => some []
  | d :: ds => match toPy d, toPys ds with
    | some p, some l => some (p :: l)
    | _, _ => none
end
mutual
theorem dp_of {K : PySem.W.Frag} {S H : Hp} (sm : Same S H) : ∀ (d : D) (v : V) (p : PyData), Rep K S d v → toPy d = some p → Dp K H v p
  | .non, v, p, r, e => by cases e; cases r; exact .non
  | .bl b, v, p, r, e => by cases e; cases r; exact .bl b
  | .int i, v, p, r, e => by cases e; cases r; exact .int i
  | .str x, v, p, r, e => by cases e; cases r.1; exact .str x
  | .tup ds, v, p, r, e => by
    unfold toPy at e
    split at e
    · rename_i l hl
      cases e
      obtain ⟨a, vs, rfl, hq, _, rr⟩ := r
      exact .tup ((Le.of sm).tupAt hq).sq (dps_of sm ds vs l rr hl)
    · cases e
  | .lst ds, v, p, r, e => by
    unfold toPy at e
    split at e
    · rename_i l hl
      cases e
      obtain ⟨a, vs, rfl, hq, _, rr⟩ := r
      exact .lst (SqL.of (sm _ _ hq)) (dps_of sm ds vs l rr hl)
    · cases e
  | .frl ds, v, p, r, e => by unfold toPy at e; cases e
  | .dK ds, v, p, r, e => by unfold toPy at e; cases e
  | .ins C ds, v, p, r, e => by unfold toPy at e; cases e
  | .exc C ds, v, p, r, e => by unfold toPy at e; cases e
  | .ty n, v, p, r, e => by unfold toPy at e; cases e
  | .ref n, v, p, r, e => by unfold toPy at e; cases e
theorem dps_of {K : PySem.W.Frag} {S H : Hp} (sm : Same S H) : ∀ (ds : List D) (vs : List V) (l : List PyData), Reps K S ds vs → toPys ds = some l → DpAll K H vs l
  | [], vs, l, r, e => by cases e; cases r; exact .nil
  | d :: ds, vs, l, r, e => by
    unfold toPys at e
    split at e
    · rename_i p l' hp hl
      cases e
      obtain ⟨v, rs, rfl, r1, r2⟩ := r
      exact .cons (dp_of sm d v p r1 hp) (dps_of sm ds rs l' r2 hl)
    · cases e
end
theorem dp_one {K : PySem.W.Frag} {S H : Hp} (sm : Same S H) {d : D} {v : V} {p : PyData} (r : Rep1 K S H d v) (e : toPy d = some p) : Dp K H v p := by
  cases d with
  | tup ds =>
    unfold toPy at e
    split at e
    · rename_i l hl
      cases e
      obtain ⟨a, vs, rfl, hq, _, _, rr, _⟩ := r
      exact .tup hq.sq (dps_of sm ds vs l rr hl)
    · cases e
  | lst ds =>
    unfold toPy at e
    split at e
    · rename_i l hl
      cases e
      obtain ⟨a, vs, rfl, hq, _, _, rr⟩ := r
      exact .lst (SqL.of hq) (dps_of sm ds vs l rr hl)
    · cases e
  | non => exact dp_of (K := K) (S := S) sm .non _ _ r e
  | bl b => exact dp_of (K := K) (S := S) sm (.bl b) _ _ r e
  | int i => exact dp_of (K := K) (S := S) sm (.int i) _ _ r e
  | str x => exact dp_of (K := K) (S := S) sm (.str x) _ _ r e
  | frl ds => unfold toPy at e; cases e
  | dK ds => unfold toPy at e; cases e
  | ins C ds => unfold toPy at e; cases e
  | exc C ds => unfold toPy at e; cases e
  | ty n => unfold toPy at e; cases e
  | ref n => unfold toPy at e; cases e
def eqD (a b : D) : Option Bool := match toPy a, toPy b with
  | some p, some q => if SeqAt.shaped p = true ∧ SeqAt.shaped q = true then some (PyData.eqv p q) else none
  | _, _ => none
def oEq (a b : D) : Option D := match eqD a b with
  | some c => some (.bl c)
  | none => none
def oNe (a b : D) : Option D := match eqD a b with
  | some c => some (.bl (!c))
  | none => none
theorem eqD_inv {a b : D} {c : Bool} (h : eqD a b = some c) : ∃ p q, toPy a = some p ∧ toPy b = some q ∧ SeqAt.shaped p = true ∧ SeqAt.shaped q = true ∧ c = PyData.eqv p q := by
  unfold eqD at h
  split at h
  · rename_i p q hp hq
    split at h
    · rename_i hs
      cases h
      exact ⟨p, q, hp, hq, hs.1, hs.2, rfl⟩
    · cases h
  · cases h
theorem ok_eq {K : PySem.W.Frag} : OpOk K (rEqD K) oEq := by
  intro S env σ H Q d d' v u x rel r1 r2 e q
  unfold oEq at e
  split at e
  · rename_i c hc
    cases e
    obtain ⟨p, p', h1, h2, h3, h4, rfl⟩ := eqD_inv hc
    exact ⟨p, p', dp_one rel.sub r1 h1, dp_one rel.sub r2 h2, h3, h4, q S H rel.step _ rfl⟩
  · cases e
theorem ok_ne {K : PySem.W.Frag} : OpOk K (rNeD K) oNe := by
  intro S env σ H Q d d' v u x rel r1 r2 e q
  unfold oNe at e
  split at e
  · rename_i c hc
    cases e
    obtain ⟨p, p', h1, h2, h3, h4, rfl⟩ := eqD_inv hc
    exact ⟨p, p', dp_one rel.sub r1 h1, dp_one rel.sub r2 h2, h3, h4, q S H rel.step _ rfl⟩
  · cases e
/-! ### is None, is True -/
def isNone : D → Bool
  | .non => true
  | _ => false
/-- x is y, y None, or both truths -/
def oIs : D → D → Option D
  | d, .non => some (.bl (isNone d))
  | .bl a, .bl b => some (.bl (decide (a = b)))
  | _, _ => none
def oIsNot : D → D → Option D
  | d, .non => some (.bl (!isNone d))
  | .bl a, .bl b => some (.bl (!decide (a = b)))
  | _, _ => none
theorem none_iff {K : PySem.W.Frag} {S H : Hp} {d : D} {v : V} (r : Rep1 K S H d v) : decide (v = .non) = isNone d := by
  cases d with
  | non => cases (show v = V.non from r); rfl
  | bl b => cases (show v = V.bl b from r); rfl
  | int b => cases (show v = V.int b from r); rfl
  | str b => cases r.1; rfl
  | ty n => cases (show v = V.ty n from r); rfl
  | ref n => cases (show v = V.ref n from r); rfl
  | tup ds => obtain ⟨a, _, rfl, _⟩ := r; rfl
  | lst ds => obtain ⟨a, _, rfl, _⟩ := r; rfl
  | frl ds => obtain ⟨a, _, rfl, _⟩ := r; rfl
  | dK ds => obtain ⟨a, _, rfl, _⟩ := r; rfl
  | ins C ds => obtain ⟨Ca, a, _, _, _, rfl, _⟩ := r; rfl
  | exc C ds => obtain ⟨Ca, a, _, _, _, rfl, _⟩ := r; rfl
theorem op_is2 : OpR X (compareOp .Is) (fun x y H Q => (y = .non ∧ Q (.bl (decide (x = .non))) H) ∨ rIsB x y H Q) := OpR.or op_isN op_isBl
theorem op_isnot2 : OpR X (compareOp .IsNot) (fun x y H Q => (y = .non ∧ Q (.bl (!decide (x = .non))) H) ∨ rNotB x y H Q) := OpR.or op_notN op_notBl
theorem ok_is {K : PySem.W.Frag} : OpOk K (fun x y H Q => (y = .non ∧ Q (.bl (decide (x = .non))) H) ∨ rIsB x y H Q) oIs := by
  intro S env σ H Q d d' v u x rel r1 r2 e q
  cases d' with
  | non =>
    have e' : some (D.bl (isNone d)) = some x := by
      cases d <;> exact e
    cases e'
    exact .inl ⟨r2, by rw [none_iff r1]; exact q S H rel.step _ rfl⟩
  | bl b =>
    cases d with
    | bl a => cases e; exact .inr ⟨a, b, r1, r2, q S H rel.step _ rfl⟩
    | _ => cases e
  | _ => cases d <;> cases e
theorem ok_isnot {K : PySem.W.Frag} : OpOk K (fun x y H Q => (y = .non ∧ Q (.bl (!decide (x = .non))) H) ∨ rNotB x y H Q) oIsNot := by
  intro S env σ H Q d d' v u x rel r1 r2 e q
  cases d' with
  | non =>
    have e' : some (D.bl (!isNone d)) = some x := by
      cases d <;> exact e
    cases e'
    exact .inl ⟨r2, by rw [none_iff r1]; exact q S H rel.step _ rfl⟩
  | bl b =>
    cases d with
    | bl a => cases e; exact .inr ⟨a, b, r1, r2, q S H rel.step _ rfl⟩
    | _ => cases e
  | _ => cases d <;> cases e
end
end Mir

namespace Mir
open PySem PySem.Spec PyProof.Rows L2
/-! ## isinstance against built-in classes -/
def tyN : D → Option String
  | .non => some "NoneType"
  | .bl _ => some "bool"
  | .int _ => some "int"
  | .str _ => some "str"
  | .tup _ => some "tuple"
  | .lst _ => some "list"
  | .frl _ => some "list"
  | .dK _ => some "dict"
  | _ => none
def subT (t n : String) : Bool := t == n || (t == "bool" && n == "int")
def okT (n : String) : Bool := n == "str" || n == "int" || n == "bool" || n == "list" || n == "tuple" || n == "dict"
theorem kitB_sub {t n : String} (ht : t = "NoneType" ∨ t = "bool" ∨ t = "int" ∨ t = "str" ∨ t = "tuple" ∨ t = "list" ∨ t = "dict") (hn : okT n = true) : kitB t n = some (subT t n) := by
  have hn' : n = "str" ∨ n = "int" ∨ n = "bool" ∨ n = "list" ∨ n = "tuple" ∨ n = "dict" := by
    unfold okT at hn
    simpa [or_assoc] using hn
  rcases hn' with rfl | rfl | rfl | rfl | rfl | rfl <;> rcases ht with rfl | rfl | rfl | rfl | rfl | rfl | rfl <;> decide +kernel
theorem tyX_of {K : PySem.W.Frag} {S H : Hp} {d : D} {v : V} {t : String} (r : Rep1 K S H d v) (h : tyN d = some t) : TyX K H v (.type t) ∧ (t = "NoneType" ∨ t = "bool" ∨ t = "int" ∨ t = "str" ∨ t = "tuple" ∨ t = "list" ∨ t = "dict") := by
  cases d with
  | non => cases h; cases (show v = V.non from r); exact ⟨.base .non, by simp⟩
  | bl b => cases h; cases (show v = V.bl b from r); exact ⟨.base (.bl b), by simp⟩
  | int b => cases h; cases (show v = V.int b from r); exact ⟨.base (.int b), by simp⟩
  | str b => cases h; cases r.1; exact ⟨.base (.str b), by simp⟩
  | tup ds =>
    cases h
    obtain ⟨a, vs, rfl, hq | ⟨o, its, n, hk, hc, _⟩, _⟩ := r
    · exact ⟨.base (.tup hq), by simp⟩
    · exact ⟨.kTuple hk hc, by simp⟩
  | lst ds =>
    cases h
    obtain ⟨a, vs, rfl, hq, _⟩ := r
    exact ⟨.base (.lst hq), by simp⟩
  | frl ds =>
    cases h
    obtain ⟨a, vs, rfl, (hq | ⟨o, hq⟩) | ⟨o, its, n, hk, hc, _⟩, _⟩ := r
    · exact ⟨.base (.lst hq), by simp⟩
    · exact ⟨.base (.frz hq), by simp⟩
    · exact ⟨.kList hk hc, by simp⟩
  | dK ds =>
    cases h
    obtain ⟨a, vs, rfl, hq | ⟨o, hq⟩, _⟩ := r
    · exact ⟨.base (.dK hq), by simp⟩
    · exact ⟨.fDict hq, by simp⟩
  | ins C ds => cases h
  | exc C ds => cases h
  | ty n => cases h
  | ref n => cases h
/-- the names of built-in classes in a tuple -/
def tysOf : List D → Option (List String)
  | [] => some []
  | .ty n :: r => match tysOf r with
    | some q => if okT n then some (n :: q) else none
    | none => none
  | _ :: _ => none
theorem tysOf_inv {K : PySem.W.Frag} {S : Hp} : ∀ {ds : List D} {ns : List String} {vs : List V}, tysOf ds = some ns → Reps K S ds vs → vs = ns.map V.ty ∧ ∀ n ∈ ns, okT n = true
  | [], ns, vs, h, r => by cases h; exact ⟨r, fun n hn => by cases hn⟩
  | .ty i :: ds, ns, vs, h, r => by
    unfold tysOf at h
    cases q : tysOf ds with
    | none => rw [q] at h; cases h
    | some z =>
      rw [q] at h
      dsimp only at h
      split at h
      · rename_i hi
        cases h
        obtain ⟨v, rs, e, h1, h2⟩ := r
        have h1' : v = .ty i := h1
        obtain ⟨e2, b2⟩ := tysOf_inv q h2
        rw [e, e2, h1']
        refine ⟨rfl, fun n hn => ?_⟩
        rcases List.mem_cons.mp hn with rfl | hn
        · exact hi
        · exact b2 n hn
      · cases h
  | .non :: _, _, _, h, _ | .int _ :: _, _, _, h, _ | .bl _ :: _, _, _, h, _ | .str _ :: _, _, _, h, _ | .ref _ :: _, _, _, h, _ | .tup _ :: _, _, _, h, _ | .lst _ :: _, _, _, h, _ | .frl _ :: _, _, _, h, _ | .dK _ :: _, _, _, h, _ | .ins _ _ :: _, _, _, h, _ | .exc _ _ :: _, _, _, h, _ => by cases h
def oIsi (d c : D) : Option D := match tyN d with
  | some t => match c with
    | .ty n => if okT n then some (.bl (subT t n)) else none
    | .tup cs => match tysOf cs with
      | some ns => some (.bl (ns.any (subT t)))
      | none => none
    | _ => none
  | none => none
theorem clsV_map : ∀ (ns : List String), Paired ClsV (ns.map V.ty) (ns.map Value.type)
  | [] => .nil
  | n :: r => .cons (.ty n) (clsV_map r)
theorem kitAny_ty {K : PySem.W.Frag} {t : String} (ht : t = "NoneType" ∨ t = "bool" ∨ t = "int" ∨ t = "str" ∨ t = "tuple" ∨ t = "list" ∨ t = "dict") : ∀ (ns : List String), (∀ n ∈ ns, okT n = true) → PySem.W.kitAny K (.type t) (ns.map Value.type) = some (ns.any (subT t))
  | [], _ => rfl
  | n :: r, h => by
    have ih := kitAny_ty (K := K) ht r fun m hm => h m (List.mem_cons_of_mem _ hm)
    refine kitAny_cons (b := subT t n) (kit_ty (kitB_sub ht (h n List.mem_cons_self))) (fun e => ?_) fun e => ?_
    · rw [List.any_cons, e, Bool.false_or]; exact ih
    · rw [List.any_cons, e, Bool.true_or]
theorem vals_ty : ∀ {ns : List String} {us : List Value}, Vals (ns.map V.ty) us → us = ns.map Value.type
  | [], us, r => by cases r; rfl
  | n :: ns, us, r => by
    cases r with
    | cons h t =>
      rw [vals_ty t, show _ = Value.type n from h]
      rfl
section
variable {X : Cx} {W : WX} {p pos : Pos} {e : Expr} {es : List Expr} {fas : EF (List AV)}
theorem de_isi (hm : X.mg "isinstance" = none) (ha : DA X W (e :: es) fas) (hg : Gl X "isinstance" := by rfl) (he : starEach (e :: es) X.env = (false, eval e X.env) :: starEach es X.env := by rfl) (hpl : (backTo pos (starEach es X.env)).any (·.1) = false := by rfl) :
    DE X W (.Call (.Name "isinstance" p) (e :: es) [] pos) (eBind fas (g2 fun a b => eOn2 a b oIsi)) := by
  refine de_callB (CallR.or call_isi (CallR.or call_isiT call_isiK)) hm PyProof.Rows.boot_isinstance ha (fun S env σ H Q as vs rv z => ?_) hg (he := he) (hpl := hpl)
  obtain ⟨a, b, v, u, rfl, ra, rb, z⟩ := z.g2 rv
  obtain ⟨d, c, x, r1, r2, ho, rel, q⟩ := z.on2 ra rb
  unfold oIsi at ho
  cases ht : tyN d with
  | none => rw [ht] at ho; cases ho
  | some t =>
    rw [ht] at ho
    dsimp only at ho
    obtain ⟨ty, hts⟩ := tyX_of r1 ht
    cases c with
    | ty n =>
      dsimp only at ho
      split at ho
      · rename_i hn
        cases ho
        cases (show u = V.ty n from r2)
        exact .inl ⟨v, .ty n, .type t, .type n, subT t n, rfl, .ty n, ty, kit_ty (kitB_sub hts hn), q S H rel.step _ rfl⟩
      · cases ho
    | tup cs =>
      dsimp only at ho
      split at ho
      · rename_i ns hns
        cases ho
        obtain ⟨tp, ws, rfl, hT, _, _, rr, _⟩ := r2
        obtain ⟨ew, bn⟩ := tysOf_inv hns rr
        subst ew
        rcases hT with hT | ⟨o, its, n, hk, hc, hd, hz, hv⟩
        · exact .inr (.inl ⟨v, tp, _, .type t, _, _, rfl, hT, clsV_map ns, ty, kitAny_ty hts ns bn, q S H rel.step _ rfl⟩)
        · obtain ⟨oc, od, dt, sl⟩ := o
          dsimp only at hc hd
          subst hc hd
          have e1 := vals_ty hv
          have e2 : its = (ns.map Value.type).toArray := by rw [← e1]
          subst e2
          exact .inr (.inr ⟨v, tp, od, ns.map Value.type, n, sl, .type t, _, rfl, hk, ty, kitAny_ty hts ns bn, q S H rel.step _ rfl⟩)
      · cases ho
    | _ => cases ho
theorem de_ty {x : Str} {n : String} (hm : X.mg x = none) (hv : bootBuiltins x = some (.type n)) (hg : Gl X x := by rfl) (hn : x ≠ "__name__" := by decide) (hd : (x == ("__debug__" : Str)) = false := by decide) : DE X W (.Name x pos) (eRet (.ty n)) :=
  de_const (pe_bltn (v := .ty n) hg hm hv rfl hn hd) fun _ => rfl
/-! ## in: a sign in a text; an item in a list -/
def oInS (d c : D) : Option D := match d, c with
  | .str x, .str z => match x.cps.toList with
    | [k] => some (.bl (decide (k ∈ z.cps.toList)))
    | _ => none
  | _, _ => none
theorem str_one {x : Str} {k : Nat} (h : x.cps.toList = [k]) : x = ⟨#[k]⟩ := by
  obtain ⟨c⟩ := x
  have : c = #[k] := by
    apply Array.toList_inj.mp
    exact h
  rw [this]
theorem ok_inS {K : PySem.W.Frag} : OpOk K (fun x y H Q => ∃ (c : Nat) (z : Str), x = .str ⟨#[c]⟩ ∧ y = .str z ∧ Q (.bl (decide (c ∈ z.cps.toList))) H) oInS := by
  intro S env σ H Q d d' v u x rel r1 r2 e q
  cases d with
  | str y =>
    cases d' with
    | str z =>
      unfold oInS at e
      dsimp only at e
      split at e
      · rename_i k hk
        cases e
        refine ⟨k, z, ?_, r2.1, q S H rel.step _ rfl⟩
        rw [← str_one hk]
        exact r1.1
      · cases e
    | _ => cases e
  | _ => cases d' <;> cases e
/-- x in a list of data -/
def oInL (d c : D) : Option D := match c with
  | .lst ds => match toPy d, toPys ds with
    | some p, some l => if SeqAt.shaped p = true ∧ SeqAt.shaped (.list l) = true then some (.bl (l.any fun z => PyData.eqv z p)) else none
    | _, _ => none
  | _ => none
theorem ok_inL {K : PySem.W.Frag} : OpOk K (rInD K) oInL := by
  intro S env σ H Q d d' v u x rel r1 r2 e q
  cases d' with
  | lst ds =>
    unfold oInL at e
    dsimp only at e
    split at e
    · rename_i p l hp hl
      split at e
      · rename_i hs
        cases e
        refine ⟨p, l, dp_one rel.sub r1 hp, dp_one rel.sub r2 ?_, hs.1, hs.2, q S H rel.step _ rfl⟩
        unfold toPy
        rw [hl]
      · cases e
    · cases e
  | _ => cases e
/-! ## items -/
def oIx (d c : D) : Option D := match d, c with
  | .lst ds, .int i => atI ds i
  | .frl ds, .int i => atI ds i
  | .tup ds, .int i => atI ds i
  | .str z, .int i => match atI z.cps.toList i with
    | some c => some (.str ⟨#[c]⟩)
    | none => none
  | _, _ => none
theorem reps_at {K : PySem.W.Frag} {S : Hp} : ∀ {ds : List D} {vs : List V} {j : Nat} {d : D}, Reps K S ds vs → ds[j]? = some d → ∃ v, vs[j]? = some v ∧ Rep K S d v
  | [], _, j, d, h, e => by simp at e
  | x :: as, _, 0, a, h, e => by
    obtain ⟨v, r, e1, p, q⟩ := h
    subst e1
    simp at e
    subst e
    exact ⟨v, rfl, p⟩
  | x :: as, _, j + 1, a, h, e => by
    obtain ⟨v, r, e1, p, q⟩ := h
    subst e1
    simp only [List.getElem?_cons_succ] at e ⊢
    exact reps_at q e
theorem atI_reps {K : PySem.W.Frag} {S : Hp} {ds : List D} {vs : List V} {i : Int} {d : D} (r : Reps K S ds vs) (h : atI ds i = some d) : ∃ v, atI vs i = some v ∧ Rep K S d v := by
  unfold atI at h ⊢
  rw [← Reps.len r]
  cases e : ixN ds.length i with
  | none => rw [e] at h; cases h
  | some j =>
    rw [e] at h
    exact reps_at r h
abbrev rIx3 (K : PySem.W.Frag) : R2 := fun x y H Q => rIxL K x y H Q ∨ rIxT K x y H Q ∨ rIxS x y H Q
theorem ok_ix {K : PySem.W.Frag} : OpOk K (rIx3 K) oIx := by
  intro S env σ H Q d d' v u x rel r1 r2 e q
  cases d' with
  | int i =>
    cases (show u = V.int i from r2)
    cases d with
    | lst ds =>
      obtain ⟨a, vs, rfl, hq, _, _, rr⟩ := r1
      obtain ⟨w, hw, rw'⟩ := atI_reps rr (show atI ds i = some x from e)
      exact .inl ⟨a, vs, i, w, rfl, rfl, SqL.of hq, hw, q S H rel.step _ rw'⟩
    | frl ds =>
      obtain ⟨a, vs, rfl, hq, _, _, rr⟩ := r1
      obtain ⟨w, hw, rw'⟩ := atI_reps rr (show atI ds i = some x from e)
      exact .inl ⟨a, vs, i, w, rfl, rfl, hq, hw, q S H rel.step _ rw'⟩
    | tup ds =>
      obtain ⟨a, vs, rfl, hq, _, _, rr, _⟩ := r1
      obtain ⟨w, hw, rw'⟩ := atI_reps rr (show atI ds i = some x from e)
      exact .inr (.inl ⟨a, vs, i, w, rfl, rfl, hq.sq, hw, q S H rel.step _ rw'⟩)
    | str z =>
      obtain ⟨rfl, hl⟩ := r1
      unfold oIx at e
      dsimp only at e
      split at e
      · rename_i c hc
        cases e
        exact .inr (.inr ⟨z, i, c, rfl, rfl, hl, hc, q S H rel.step _ ⟨rfl, by show 1 ≤ sizeLine; decide⟩⟩)
      · cases e
    | _ => cases e
  | _ => cases d <;> cases e
theorem ix3 : IxR X (rIx3 X.K) := IxR.or ix_list (IxR.or ix_tup ix_str)
theorem de_ix {a b : Expr} {fa fb : EF AV} (ha : DV X W a fa) (hb : DV X W b fb) (hs : PlainIx b := by exact fun _ _ => rfl) : DE X W (.Subscript a b pos) (e2 fa fb fun x y => eOn2 x y oIx) := by
  refine pe_imp (pe_ix ix3 ha hb hs) ?_
  rintro σ H Q ⟨S, env, z⟩
  refine ⟨S, env, (At.bind (R := RAv X.K) z).imp fun vx H1 ⟨x, S1, e1, rx, st, z1⟩ => ?_⟩
  refine ⟨S1, e1, (At.bind (R := RAv X.K) z1).imp fun vy H2 ⟨y, S2, e2, ry, st2, z2⟩ => ?_⟩
  obtain ⟨d, d', w, r1, r2, e, rel, q⟩ := z2.on2 (rx.mono st2.nle) ry
  exact ok_ix S2 e2 σ H2 Q d d' vx vy w rel r1 r2 e q
end
end Mir

namespace Mir
open PySem PySem.Spec PyProof.Rows L2
section
variable {X : Cx} {W : WX} {p pos : Pos} {e : Expr} {es : List Expr} {fas : EF (List AV)}
/-! ## min, max of two; int(..) -/
def oMin (d c : D) : Option D := match d, c with
  | .int i, .int j => some (.int (if j < i then j else i))
  | _, _ => none
def oMax (d c : D) : Option D := match d, c with
  | .int i, .int j => some (.int (if j > i then j else i))
  | _, _ => none
theorem de_min2 (hc : X.calm = true) (hm : X.mg "min" = none) (ha : DA X W (e :: es) fas) (hg : Gl X "min" := by rfl) (he : starEach (e :: es) X.env = (false, eval e X.env) :: starEach es X.env := by rfl) (hpl : (backTo pos (starEach es X.env)).any (·.1) = false := by rfl) :
    DE X W (.Call (.Name "min" p) (e :: es) [] pos) (eBind fas (g2 fun a b => eOn2 a b oMin)) := by
  refine de_callB (call_min2 hc) hm (by decide +kernel) ha (fun S env σ H Q as vs rv z => ?_) hg (he := he) (hpl := hpl)
  obtain ⟨a, b, v, u, rfl, ra, rb, z⟩ := z.g2 rv
  obtain ⟨d, c, x, r1, r2, ho, rel, q⟩ := z.on2 ra rb
  cases d with
  | int i =>
    cases c with
    | int j =>
      cases ho
      cases (show v = V.int i from r1)
      cases (show u = V.int j from r2)
      exact ⟨i, j, rfl, q S H rel.step _ rfl⟩
    | _ => cases ho
  | _ => cases c <;> cases ho
theorem de_max2 (hc : X.calm = true) (hm : X.mg "max" = none) (ha : DA X W (e :: es) fas) (hg : Gl X "max" := by rfl) (he : starEach (e :: es) X.env = (false, eval e X.env) :: starEach es X.env := by rfl) (hpl : (backTo pos (starEach es X.env)).any (·.1) = false := by rfl) :
    DE X W (.Call (.Name "max" p) (e :: es) [] pos) (eBind fas (g2 fun a b => eOn2 a b oMax)) := by
  refine de_callB (call_max2 hc) hm (by decide +kernel) ha (fun S env σ H Q as vs rv z => ?_) hg (he := he) (hpl := hpl)
  obtain ⟨a, b, v, u, rfl, ra, rb, z⟩ := z.g2 rv
  obtain ⟨d, c, x, r1, r2, ho, rel, q⟩ := z.on2 ra rb
  cases d with
  | int i =>
    cases c with
    | int j =>
      cases ho
      cases (show v = V.int i from r1)
      cases (show u = V.int j from r2)
      exact ⟨i, j, rfl, q S H rel.step _ rfl⟩
    | _ => cases ho
  | _ => cases c <;> cases ho
def oInt : D → Option D
  | .int i => some (.int i)
  | .bl k => some (.int (if k then 1 else 0))
  | .str a => match PySem.intText? a with
    | some n => if a.length ≤ 640 then some (.int n) else none
    | none => none
  | _ => none
theorem de_int1 (hm : X.mg "int" = none) (ha : DA X W (e :: es) fas) (hg : Gl X "int" := by rfl) (he : starEach (e :: es) X.env = (false, eval e X.env) :: starEach es X.env := by rfl) (hpl : (backTo pos (starEach es X.env)).any (·.1) = false := by rfl) :
    DE X W (.Call (.Name "int" p) (e :: es) [] pos) (eBind fas (g1 fun a => eOn a oInt)) := by
  refine de_callTy (CallR.or call_int1 call_int_str) hm (by decide +kernel) ha (fun S env σ H Q as vs rv z => ?_) hg (he := he) (hpl := hpl)
  obtain ⟨a, v, rfl, ra, z⟩ := z.g1 rv
  obtain ⟨d, x, r1, ho, rel, q⟩ := z.on ra
  cases d with
  | int i =>
    cases ho
    cases (show v = V.int i from r1)
    exact .inl (.inl ⟨i, rfl, q S H rel.step _ rfl⟩)
  | bl i =>
    cases ho
    cases (show v = V.bl i from r1)
    exact .inl (.inr ⟨i, rfl, q S H rel.step _ rfl⟩)
  | str y =>
    obtain ⟨rfl, hl⟩ := r1
    unfold oInt at ho
    dsimp only at ho
    split at ho
    · rename_i n hn
      split at ho
      · rename_i hz
        cases ho
        exact .inr ⟨y, n, rfl, hn, hz, q S H rel.step _ rfl⟩
      · cases ho
    · cases ho
  | _ => cases ho
/-! ## list(xs), tuple(xs) -/
def oListOf : D → Option D
  | .lst ds => some (.lst ds)
  | .frl ds => some (.lst ds)
  | .tup ds => some (.lst ds)
  | _ => none
def oTupOf : D → Option D
  | .lst ds => some (.tup ds)
  | .frl ds => some (.tup ds)
  | .tup ds => some (.tup ds)
  | _ => none
theorem de_listOf (hm : X.mg "list" = none) (ha : DA X W (e :: es) fas) (hg : Gl X "list" := by rfl) (he : starEach (e :: es) X.env = (false, eval e X.env) :: starEach es X.env := by rfl) (hpl : (backTo pos (starEach es X.env)).any (·.1) = false := by rfl) :
    DE X W (.Call (.Name "list" p) (e :: es) [] pos) (eBind fas (g1 fun a => eOn a oListOf)) := by
  refine de_callTy call_list_of hm (by decide +kernel) ha (fun S env σ H Q as vs rv z => ?_) hg (he := he) (hpl := hpl)
  obtain ⟨a, v, rfl, ra, z⟩ := z.g1 rv
  obtain ⟨d, x, r1, ho, rel, q⟩ := z.on ra
  have key : ∀ (ds : List D) (vs : List V) (b : Addr), x = .lst ds → v = .ref b → (SqL X.K H b vs ∨ SqT X.K H b vs) → ds.length ≤ sizeLine → Reps X.K S ds vs → ∃ p ys, [v] = [V.ref p] ∧ (SqL X.K H p ys ∨ SqT X.K H p ys) ∧ ∀ l, H l = none → Q (.ref l) (upd H l (.lst ys)) := fun ds vs b ex ev hq hl rr => by
    subst ex
    subst ev
    refine ⟨b, vs, rfl, hq, fun l hl' => ?_⟩
    have al := rel.alloc (o := .lst vs) hl'
    exact q _ _ al _ ⟨l, vs, rfl, upd_same, hl, Reps.mono al.le _ _ rr⟩
  cases d with
  | lst ds =>
    cases ho
    obtain ⟨b, vs, ev, hq, hl, _, rr⟩ := r1
    exact key ds vs b rfl ev (.inl (SqL.of hq)) hl rr
  | frl ds =>
    cases ho
    obtain ⟨b, vs, ev, hq, hl, _, rr⟩ := r1
    exact key ds vs b rfl ev (.inl hq) hl rr
  | tup ds =>
    cases ho
    obtain ⟨b, vs, ev, hq, hl, _, rr, _⟩ := r1
    exact key ds vs b rfl ev (.inr hq.sq) hl rr
  | _ => cases ho
theorem de_tupleOf (hm : X.mg "tuple" = none) (ha : DA X W (e :: es) fas) (hg : Gl X "tuple" := by rfl) (he : starEach (e :: es) X.env = (false, eval e X.env) :: starEach es X.env := by rfl) (hpl : (backTo pos (starEach es X.env)).any (·.1) = false := by rfl) :
    DE X W (.Call (.Name "tuple" p) (e :: es) [] pos) (eBind fas (g1 fun a => eOn a oTupOf)) := by
  refine de_callTy call_tuple_of hm (by decide +kernel) ha (fun S env σ H Q as vs rv z => ?_) hg (he := he) (hpl := hpl)
  obtain ⟨a, v, rfl, ra, z⟩ := z.g1 rv
  obtain ⟨d, x, r1, ho, rel, q⟩ := z.on ra
  have key : ∀ (ds : List D) (vs : List V) (b : Addr), x = .tup ds → v = .ref b → SqL X.K H b vs → ds.length ≤ sizeLine → Reps X.K S ds vs → ∃ p ys, [v] = [V.ref p] ∧ ((SqL X.K H p ys ∧ ∀ l, H l = none → Q (.ref l) (upd H l (.tup ys))) ∨ (SqT X.K H p ys ∧ Q (.ref p) H)) := fun ds vs b ex ev hq hl rr => by
    subst ex
    subst ev
    refine ⟨b, vs, rfl, .inl ⟨hq, fun l hl' => ?_⟩⟩
    have al := rel.alloc (o := .tup vs) hl'
    exact q _ _ al _ ⟨l, vs, rfl, .inl upd_same, hl, Reps.mono al.le _ _ rr⟩
  cases d with
  | lst ds =>
    cases ho
    obtain ⟨b, vs, ev, hq, hl, _, rr⟩ := r1
    exact key ds vs b rfl ev (SqL.of hq) hl rr
  | frl ds =>
    cases ho
    obtain ⟨b, vs, ev, hq, hl, _, rr⟩ := r1
    exact key ds vs b rfl ev hq hl rr
  | tup ds =>
    cases ho
    obtain ⟨b, vs, rfl, hq, hl, _, rr, hs⟩ := r1
    exact ⟨b, vs, rfl, .inr ⟨hq.sq, q S H rel.step _ ⟨b, vs, rfl, hs, hl, rr⟩⟩⟩
  | _ => cases ho
/-! ## slices -/
theorem reps_take {K : PySem.W.Frag} {S : Hp} : ∀ (n : Nat) {ds : List D} {vs : List V}, Reps K S ds vs → Reps K S (ds.take n) (vs.take n)
  | 0, _, _, _ => rfl
  | n + 1, [], _, h => by cases h; rfl
  | n + 1, d :: ds, _, h => by
    obtain ⟨v, r, e, p, q⟩ := h
    subst e
    exact ⟨v, r.take n, rfl, p, reps_take n q⟩
theorem reps_drop {K : PySem.W.Frag} {S : Hp} : ∀ (n : Nat) {ds : List D} {vs : List V}, Reps K S ds vs → Reps K S (ds.drop n) (vs.drop n)
  | 0, _, _, h => h
  | n + 1, [], _, h => by cases h; rfl
  | n + 1, d :: ds, _, h => by
    obtain ⟨v, r, e, p, q⟩ := h
    subst e
    exact reps_drop n q
/-- the items from lo to hi -/
def cutD (xs : List D) (lo hi : Option Int) : List D := (xs.drop (HT.sIx xs.length 0 lo)).take (HT.sIx xs.length xs.length hi - HT.sIx xs.length 0 lo)
theorem reps_cut {K : PySem.W.Frag} {S : Hp} {ds : List D} {vs : List V} (lo hi : Option Int) (h : Reps K S ds vs) : Reps K S (cutD ds lo hi) (cutV vs lo hi) := by
  unfold cutD cutV
  rw [Reps.len h]
  exact reps_take _ (reps_drop _ h)
theorem cutD_len (xs : List D) (lo hi : Option Int) : (cutD xs lo hi).length ≤ xs.length := by
  unfold cutD
  rw [List.length_take, List.length_drop]
  omega
/-- a part of a slice -/
def ePart : Option (EF D) → EF (Option Int)
  | none => eRet none
  | some f => eBind f fun d => match d with
    | .int i => eRet (some i)
    | _ => fun _ => none
def RP : RR (Option Int) (Option Int) := fun _ _ a b => a = b
def DP (X : Cx) (W : WX) (e : Option Expr) (f : EF (Option Int)) : Prop := PO X e (tr X.K W RP f)
theorem po_imp {e : Option Expr} {t t' : TO} (h : PO X e t) (w : ∀ σ H Q, t' σ H Q → t σ H Q) : PO X e t' := ⟨fun pins s σ H Q I q => h.run pins s σ H Q I (w σ H Q q)⟩
theorem dp_none : DP X W none (ePart none) := by
  refine po_imp po_none ?_
  rintro σ H Q ⟨S, env, z⟩
  exact z.ret rfl
theorem dp_some {e : Expr} {f : EF D} (h : DE X W e f) : DP X W (some e) (ePart (some f)) := by
  refine po_imp (po_some h) ?_
  rintro σ H Q ⟨S, env, z⟩
  refine ⟨S, env, (At.bind (R := RD X.K) z).imp fun v H1 ⟨d, S1, e1, r, st, z1⟩ => ?_⟩
  cases d with
  | int i => exact ⟨i, r, z1.ret rfl⟩
  | _ => exact no_at z1
def oSl (lo hi : Option Int) : D → Option D
  | .lst ds => some (.lst (cutD ds lo hi))
  | .frl ds => some (.lst (cutD ds lo hi))
  | .tup ds => some (.tup (cutD ds lo hi))
  | .str z => some (.str (cutS z lo hi))
  | _ => none
def eSl (fa : EF AV) (fl fh : EF (Option Int)) : EF D := eBind fa fun a => eBind fl fun l => eBind fh fun h => eOn a (oSl l h)
abbrev rSl3 (K : PySem.W.Frag) : V → Option Int → Option Int → Hp → VK → Prop := fun x lo hi H Q => rSlL K x lo hi H Q ∨ rSlA K x lo hi H Q ∨ rSlS x lo hi H Q
theorem sl3 : SlR X (rSl3 X.K) := SlR.or sl_list (SlR.or sl_tupA sl_str)
theorem de_sl {e : Expr} {lo hi : Option Expr} {fa : EF AV} {fl fh : EF (Option Int)} {p2 : Pos} (ha : DV X W e fa) (hl : DP X W lo fl) (hh : DP X W hi fh) : DE X W (.Subscript e (.Slice lo hi none p2) pos) (eSl fa fl fh) := by
  refine pe_imp (pe_slice sl3 ha hl hh) ?_
  rintro σ H Q ⟨S, env, z⟩
  refine ⟨S, env, (At.bind (R := RAv X.K) z).imp fun v H1 ⟨a, S1, e1, ra, st, z1⟩ => ?_⟩
  refine ⟨S1, e1, (At.bind (R := RP) z1).imp fun l H2 ⟨l', S2, e2, rl, st2, z2⟩ => ?_⟩
  refine ⟨S2, e2, (At.bind (R := RP) z2).imp fun h H3 ⟨h', S3, e3, rh, st3, z3⟩ => ?_⟩
  obtain rfl : l' = l := rl
  obtain rfl : h' = h := rh
  obtain ⟨d, x, r1, ho, rel, q⟩ := z3.on ((ra.mono st2.nle).mono st3.nle)
  have key : ∀ (ds : List D) (vs : List V) (b : Addr), x = .lst (cutD ds l' h') → v = .ref b → SqL X.K H3 b vs → ds.length ≤ sizeLine → Reps X.K S3 ds vs → rSlL X.K v l' h' H3 Q := fun ds vs b ex ev hq hl rr => by
    subst ex
    subst ev
    refine ⟨b, vs, rfl, hq, fun p hp => ?_⟩
    have al := rel.alloc (o := .lst (cutV vs l' h')) hp
    exact q _ _ al _ ⟨p, _, rfl, upd_same, Nat.le_trans (cutD_len ds l' h') hl, reps_cut _ _ (Reps.mono al.le _ _ rr)⟩
  cases d with
  | lst ds =>
    cases ho
    obtain ⟨b, vs, ev, hq, hl, _, rr⟩ := r1
    exact .inl (key ds vs b rfl ev (SqL.of hq) hl rr)
  | frl ds =>
    cases ho
    obtain ⟨b, vs, ev, hq, hl, _, rr⟩ := r1
    exact .inl (key ds vs b rfl ev hq hl rr)
  | tup ds =>
    cases ho
    obtain ⟨b, vs, rfl, hq, hl, _, rr, hs⟩ := r1
    refine .inr (.inl ⟨b, vs, rfl, hq.sq, fun hw => ?_, fun _ p hp => ?_⟩)
    · have ew : cutD ds l' h' = ds := by
        unfold cutD
        have hl' := Reps.len rr
        rw [← hl'] at hw
        rw [hw.1, hw.2, List.drop_zero, Nat.sub_zero, List.take_length]
      rw [ew] at q
      exact q S3 H3 rel.step _ ⟨b, vs, rfl, hs, hl, rr⟩
    · have al := rel.alloc (o := .tup (cutV vs l' h')) hp
      exact q _ _ al _ ⟨p, _, rfl, .inl upd_same, Nat.le_trans (cutD_len ds l' h') hl, reps_cut _ _ (Reps.mono al.le _ _ rr)⟩
  | str z =>
    cases ho
    obtain ⟨rfl, hl⟩ := r1
    exact .inr (.inr ⟨z, rfl, hl, q S3 H3 rel.step _ ⟨rfl, Nat.le_trans (cutS_length z _ _) hl⟩⟩)
  | _ => cases ho
/-! ## sep.join(texts) -/
def oJoin (d c : D) : Option D := match d with
  | .str a => match c with
    | .lst ds => match dStrs ds with
      | some ys => if (ys.map (·.length)).sum + ys.length * a.length ≤ 16777216 then if (Txt.join a ys).length ≤ sizeLine then some (.str (Txt.join a ys)) else none else none
      | none => none
    | .tup ds => match dStrs ds with
      | some ys => if (ys.map (·.length)).sum + ys.length * a.length ≤ 16777216 then if (Txt.join a ys).length ≤ sizeLine then some (.str (Txt.join a ys)) else none else none
      | none => none
    | _ => none
  | _ => none
def eJoin (fo : EF D) (fa : EF AV) : EF D := eBind fo fun o => match o with
  | .str z => eBind fa fun a => eOn2 (.d (.str z)) a oJoin
  | _ => fun _ => none
theorem de_join {o e : Expr} {fo : EF D} {fa : EF AV} {apos : Pos} (ho : DE X W o fo) (ha : DV X W e fa) (hs : starEach [e] X.env = [(false, eval e X.env)] := by rfl) (hbase : attributeBase o "join" X.env (eval o X.env) = eval o X.env := by rfl) (hline : (apos.endLine == pos.line) = true := by rfl) :
    DE X W (.Call (.Attribute o "join" apos) [e] [] pos) (eJoin fo fa) := by
  refine pe_imp (pe_join ho ha hs hbase hline) ?_
  rintro σ H Q ⟨S, env, z⟩
  refine ⟨S, env, (At.bind (R := RD X.K) z).imp fun v H1 ⟨o, S1, e1, ro, st, z1⟩ => ?_⟩
  cases o with
  | str a =>
    obtain ⟨rfl, hla⟩ := ro
    refine ⟨⟨a, rfl⟩, S1, e1, (At.bind (R := RAv X.K) z1).imp fun u H2 ⟨x, S2, e2, ru, st2, z2⟩ => ?_⟩
    obtain ⟨d, c, w, r1, r2, ho, rel, q⟩ := z2.on2 (v := V.str a) (a := .d (.str a)) ⟨rfl, hla⟩ ru
    cases d with
    | str a' =>
      cases r1.1
      cases c with
      | lst ds =>
        unfold oJoin at ho
        dsimp only at ho
        split at ho
        · rename_i ys hys
          split at ho
          · rename_i h1
            split at ho
            · rename_i h2
              cases ho
              obtain ⟨b, vs, rfl, hq, hl, _, rr⟩ := r2
              obtain ⟨ev, _, _⟩ := dStrs_v hys rr
              subst ev
              exact ⟨a, b, ys, rfl, rfl, .inl (SqL.of hq), h1, q S2 H2 rel.step _ ⟨rfl, h2⟩⟩
            · cases ho
          · cases ho
        · cases ho
      | tup ds =>
        unfold oJoin at ho
        dsimp only at ho
        split at ho
        · rename_i ys hys
          split at ho
          · rename_i h1
            split at ho
            · rename_i h2
              cases ho
              obtain ⟨b, vs, rfl, hq, hl, _, rr, _⟩ := r2
              obtain ⟨ev, _, _⟩ := dStrs_v hys rr
              subst ev
              exact ⟨a, b, ys, rfl, rfl, .inr hq.sq, h1, q S2 H2 rel.step _ ⟨rfl, h2⟩⟩
            · cases ho
          · cases ho
        · cases ho
      | _ => cases ho
    | _ => cases ho
  | _ => exact no_at z1
/-! ## chains -/
def eChain (fa fb fc : EF AV) (op op' : D → D → Option D) : EF D := eBind fa fun x => eBind fb fun y => eBind (eOn2 x y op) fun k => match k with
  | .bl true => eBind fc fun z => eOn2 y z op'
  | .bl false => eRet (.bl false)
  | _ => fun _ => none
theorem de_chain {o o' : CmpOp} {r r' : R2} {op op' : D → D → Option D} {a b c : Expr} {fa fb fc : EF AV} (ho : OpR X (compareOp o) r) (hk : OpOk X.K r op) (ho' : OpR X (compareOp o') r') (hk' : OpOk X.K r' op') (ha : DV X W a fa) (hb : DV X W b fb) (hc : DV X W c fc)
    (hm : lastMarks [o, o'] [b, c] = false := by with_unfolding_all rfl) : DE X W (.Compare a [o, o'] [b, c] pos) (eChain fa fb fc op op') := by
  refine pe_imp (pe_chain ho ho' ha hb hc hm) ?_
  rintro σ H Q ⟨S, env, z⟩
  refine ⟨S, env, (At.bind (R := RAv X.K) z).imp fun vx H1 ⟨x, S1, e1, rx, st, z1⟩ => ?_⟩
  refine ⟨S1, e1, (At.bind (R := RAv X.K) z1).imp fun vy H2 ⟨y, S2, e2, ry, st2, z2⟩ => ?_⟩
  have z3 := At.bind (R := RD X.K) z2
  obtain ⟨d, d', w, r1, r2, e, rel, q⟩ := z3.on2 (rx.mono st2.nle) ry
  refine hk S2 e2 σ H2 _ d d' vx vy w rel r1 r2 e fun S' H' st3 v rv => ?_
  obtain ⟨k, S3, e3, rk, st4, z4⟩ := q S' H' st3 v rv
  cases k with
  | bl k =>
    refine ⟨k, rk, ?_⟩
    cases k with
    | false => exact iteF (z4.ret rfl)
    | true =>
      refine iteT ⟨S3, e3, (At.bind (R := RAv X.K) z4).imp fun vz H4 ⟨zz, S4, e4, rz, st5, z5⟩ => ?_⟩
      obtain ⟨d, d', w, r1, r2, e, rel, q⟩ := z5.on2 ((ry.mono st4.nle).mono st5.nle) rz
      exact hk' S4 e4 σ H4 Q d d' vy vz w rel r1 r2 e q
  | _ => exact no_at z4
theorem dt_chain {o o' : CmpOp} {r r' : R2} {op op' : D → D → Option D} {a b c : Expr} {fa fb fc : EF AV} (ho : OpR X (compareOp o) r) (hk : OpOk X.K r op) (ho' : OpR X (compareOp o') r') (hk' : OpOk X.K r' op') (ha : DV X W a fa) (hb : DV X W b fb) (hc : DV X W c fc)
    (hm : lastMarks [o, o'] [b, c] = false := by with_unfolding_all rfl) : DT X W (.Compare a [o, o'] [b, c] pos) (eT (eChain fa fb fc op op')) := by
  refine pt_imp (pt_chain ho ho' ha hb hc hm) ?_
  rintro σ H Q ⟨S, env, z⟩
  have z := At.bind (R := RD X.K) z
  refine ⟨S, env, (At.bind (R := RAv X.K) z).imp fun vx H1 ⟨x, S1, e1, rx, st, z1⟩ => ?_⟩
  refine ⟨S1, e1, (At.bind (R := RAv X.K) z1).imp fun vy H2 ⟨y, S2, e2, ry, st2, z2⟩ => ?_⟩
  have z3 := At.bind (R := RD X.K) z2
  obtain ⟨d, d', w, r1, r2, e, rel, q⟩ := z3.on2 (rx.mono st2.nle) ry
  refine hk S2 e2 σ H2 _ d d' vx vy w rel r1 r2 e fun S' H' st3 v rv => ?_
  obtain ⟨k, S3, e3, rk, st4, z4⟩ := q S' H' st3 v rv
  have fin : ∀ v H', (∃ d S1 e1, RD X.K σ S1 d v ∧ Step X.K S env σ H S1 e1 σ H' ∧ At X.K W RB (asB d) S1 e1 σ H' Q) → ∃ k, v = .bl k ∧ Q k H' := fun v H' ⟨d, S1, e1, r, _, z⟩ => asB_of (R := RB) r z
  cases k with
  | bl k =>
    refine ⟨k, rk, ?_⟩
    cases k with
    | false => exact iteF (fin _ _ (z4.ret rfl))
    | true =>
      refine iteT ⟨S3, e3, (At.bind (R := RAv X.K) z4).imp fun vz H4 ⟨zz, S4, e4, rz, st5, z5⟩ => ?_⟩
      obtain ⟨d, d', w, r1, r2, e, rel, q⟩ := z5.on2 ((ry.mono st4.nle).mono st5.nle) rz
      exact hk' S4 e4 σ H4 _ d d' vy vz w rel r1 r2 e fun S' H' st v rv => fin v H' (q S' H' st v rv)
  | _ => exact no_at z4
end
end Mir

namespace Mir
open PySem PySem.Spec PyProof.Rows L2
theorem Rel.objS {K : PySem.W.Frag} {S : SS} {env : ME} {σ : St} {H : Hp} {i : Nat} {s : Sl} {m : MO} (r : Rel K S env σ H) (hs : env.sl[i]? = some (some s)) (hm : s.mo = some m) : ∃ a o, σ[i]? = some (some (V.ref a)) ∧ H a = some o ∧ S.hp a = none ∧ RepO K S m o := r.obj (.s i) m ⟨s, at_s.mpr hs, hm⟩
theorem Rel.objC {K : PySem.W.Frag} {S : SS} {env : ME} {σ : St} {H : Hp} {n : Nat} {m : MO} (r : Rel K S env σ H) (hs : env.ce[n]? = some (some m)) : ∃ a o, S.nm[n]? = some a ∧ H a = some o ∧ S.hp a = none ∧ RepO K S m o := r.obj (.c n) m ⟨_, at_c.mpr ⟨m, rfl, hs⟩, rfl⟩
/-! ## lists that change -/
/-- the list of a slot -/
def lstAt (env : ME) (i : Nat) : Option (Sl × List D) := match env.sl[i]? with
  | some (some s) => match s.mo with
    | some (.lst ds) => some (s, ds)
    | _ => none
  | _ => none
theorem lstAt_inv {env : ME} {i : Nat} {s : Sl} {ds : List D} (h : lstAt env i = some (s, ds)) : env.sl[i]? = some (some s) ∧ s.mo = some (.lst ds) := by
  unfold lstAt at h
  split at h
  · rename_i s' hs
    split at h
    · rename_i ds' hm
      cases h
      exact ⟨hs, hm⟩
    · cases h
  · cases h
/-- o.m(args), o a name that holds a list of its own (or a lent one) -/
def eMut (i : Nat) (fas : EF (List AV)) (op : List D → List AV → ME → Option (D × List D)) : EF D := fun env => match lstAt env i with
  | some _ => eBind fas (fun as env1 => match lstAt env1 i with
    | some (s, ds) => match op ds as env1 with
      | some (x, ds') => some (.ok x, env1.set i (some (s.put (.lst ds'))))
      | none => none
    | none => none) env
  | none => none
section
variable {X : Cx} {W : WX} {pos : Pos}
theorem de_mut (i : Nat) {x nm : Str} {id : String} {r : V → List V → Hp → VK → Prop} {apos cpos p : Pos} {e : Expr} {es : List Expr} {fas : EF (List AV)} {op : List D → List AV → ME → Option (D × List D)}
    (slot : Slot "list" nm id) (hty : typeOf (.builtin id) = pure (.type "method_descriptor")) (hmt : MtR X id r)
    (hop : ∀ (S : SS) env σ H (Q : VK) a ds vs as ws y ds', Rel X.K S env σ H → σ[i]? = some (some (.ref a)) → (∃ s, env.sl[i]? = some (some s) ∧ s.mo = some (.lst ds)) → H a = some (.lst vs) → ds.length ≤ sizeLine → Reps X.K S ds vs → RAs X.K σ S as ws → op ds as env = some (y, ds') →
      (∀ w vs', Reps X.K S ds' vs' → ds'.length ≤ sizeLine → (∀ S, Rep X.K S y w ∨ Rep X.K S y w) → Q w (upd H a (.lst vs'))) → r (.ref a) ws H Q)
    (ha : DA X W (e :: es) fas) (hN : X.N[i]? = some x := by rfl) (hv : Vis X.env.scope x := by first | exact Or.inl rfl | exact Or.inr (Or.inl rfl) | exact Or.inr (Or.inr rfl))
    (hd : (x == ("__debug__" : Str)) = false := by decide) (hcd : (x == ("__classdict__" : Str)) = false := by decide)
    (hbase : attributeBase (.Name x p) nm X.env (eval (.Name x p) X.env) = eval (.Name x p) X.env := by rfl)
    (hfew : ((backTo cpos (starEach (e :: es) X.env)).all (fun x => !x.1) && (backToKw cpos (keywordEach [] X.env)).all (fun x => x.1.isSome)
      && decide ((e :: es).length + ([] : List Keyword).length + (if ([] : List Keyword).isEmpty then 0 else 1) < 30)) = true := by rfl)
    (hline : (apos.endLine == cpos.line) = true := by rfl) (hs : starEach (e :: es) X.env = (false, eval e X.env) :: starEach es X.env := by rfl) (hplain : (backTo cpos (starEach es X.env)).any (·.1) = false := by rfl) :
    DE X W (.Call (.Attribute (.Name x p) nm apos) (e :: es) [] cpos) (eMut i fas op) := by
  refine pe_imp (pe_bm PySem.F.plainAttrs_list slot hty hmt (pe_var hN hv hd hcd) ha hbase hfew hline hs hplain) ?_
  rintro σ H Q ⟨S, env, rr, env', rel, ef, q⟩
  unfold eMut at ef
  cases h0 : lstAt env i with
  | none => rw [h0] at ef; cases ef
  | some p0 =>
    rw [h0] at ef
    obtain ⟨s0, ds0⟩ := p0
    obtain ⟨e1, e2⟩ := lstAt_inv h0
    obtain ⟨a, o, x1, x2, x3, x4⟩ := rel.objS e1 e2
    obtain ⟨vs0, rfl, _, _⟩ := x4
    refine ⟨.ref a, x1, .inl ⟨rfl, vs0, SqL.of x2⟩, S, env, ?_⟩
    have z : At X.K W (RD X.K) (eBind fas (fun as env1 => match lstAt env1 i with
      | some (s, ds) => match op ds as env1 with
        | some (x, ds') => some (.ok x, env1.set i (some (s.put (.lst ds'))))
        | none => none
      | none => none)) S env σ H Q := ⟨rr, env', rel, ef, q⟩
    refine (At.bind (R := RAl X.K) z).imp fun ws H1 ⟨as, S1, en1, rw', st, z1⟩ => ?_
    obtain ⟨r1, en2, rel1, ef1, q1⟩ := z1
    dsimp only at ef1
    split at ef1
    · rename_i s ds hl
      split at ef1
      · rename_i y ds' ho
        cases ef1
        obtain ⟨e3, e4⟩ := lstAt_inv hl
        obtain ⟨a', o', y1, y2, y3, y4⟩ := rel1.objS e3 e4
        rw [x1] at y1
        cases y1
        obtain ⟨vs, rfl, hz, rv⟩ := y4
        refine hop S1 en1 σ H1 Q a ds vs as ws y ds' rel1 x1 ⟨s, e3, e4⟩ y2 hz rv rw' ho fun w vs' rv' hz' ry => ?_
        exact q1 S1 _ (rel1.mut e3 e4 x1 (m' := .lst ds') ⟨vs', rfl, hz', rv'⟩) w ((ry S1).elim (fun h => h) fun h => h)
      · cases ef1
    · cases ef1
/-- x.append(e) -/
def oAppend (ds : List D) (as : List AV) (_ : ME) : Option (D × List D) := match as with
  | [.d d] => if ds.length < sizeLine then some (.non, ds ++ [d]) else none
  | _ => none
theorem de_append (i : Nat) {x : Str} {apos cpos p : Pos} {e : Expr} {fas : EF (List AV)} (ha : DA X W [e] fas) (hN : X.N[i]? = some x := by rfl) (hv : Vis X.env.scope x := by first | exact Or.inl rfl | exact Or.inr (Or.inl rfl) | exact Or.inr (Or.inr rfl))
    (hd : (x == ("__debug__" : Str)) = false := by decide) (hcd : (x == ("__classdict__" : Str)) = false := by decide)
    (hbase : attributeBase (.Name x p) "append" X.env (eval (.Name x p) X.env) = eval (.Name x p) X.env := by rfl)
    (hfew : ((backTo cpos (starEach [e] X.env)).all (fun x => !x.1) && (backToKw cpos (keywordEach [] X.env)).all (fun x => x.1.isSome)
      && decide (([e]).length + ([] : List Keyword).length + (if ([] : List Keyword).isEmpty then 0 else 1) < 30)) = true := by rfl)
    (hline : (apos.endLine == cpos.line) = true := by rfl) (hs : starEach [e] X.env = (false, eval e X.env) :: starEach [] X.env := by rfl) (hplain : (backTo cpos (starEach [] X.env)).any (·.1) = false := by rfl) :
    DE X W (.Call (.Attribute (.Name x p) "append" apos) [e] [] cpos) (eMut i fas oAppend) := by
  refine de_mut i PySem.F.slot_list_append PySem.F.type_list_append mt_append (fun S env σ H Q a ds vs as ws y ds' rel hσ hi hH hz rv ra ho q => ?_) ha hN hv hd hcd hbase hfew hline hs hplain
  unfold oAppend at ho
  split at ho
  · rename_i d
    split at ho
    · rename_i hlt
      cases ho
      obtain ⟨v, rs, rfl, h1, h2⟩ := ra
      cases h2
      have hlen := Reps.len rv
      refine ⟨a, vs, v, rfl, rfl, hH, by rw [← hlen]; exact hlt, ?_⟩
      exact q .non (vs ++ [v]) (reps_app rv ⟨v, [], rfl, h1, rfl⟩) (by rw [List.length_append, List.length_singleton]; omega) fun _ => .inl rfl
    · cases ho
  · cases ho
/-- x.extend(ys), ys a list -/
def oExtend (ds : List D) (as : List AV) (_ : ME) : Option (D × List D) := match as with
  | [.d (.lst es)] => if ds.length + es.length ≤ sizeLine then some (.non, ds ++ es) else none
  | _ => none
theorem de_extend (i : Nat) {x : Str} {apos cpos p : Pos} {e : Expr} {fas : EF (List AV)} (ha : DA X W [e] fas) (hN : X.N[i]? = some x := by rfl) (hv : Vis X.env.scope x := by first | exact Or.inl rfl | exact Or.inr (Or.inl rfl) | exact Or.inr (Or.inr rfl))
    (hd : (x == ("__debug__" : Str)) = false := by decide) (hcd : (x == ("__classdict__" : Str)) = false := by decide)
    (hbase : attributeBase (.Name x p) "extend" X.env (eval (.Name x p) X.env) = eval (.Name x p) X.env := by rfl)
    (hfew : ((backTo cpos (starEach [e] X.env)).all (fun x => !x.1) && (backToKw cpos (keywordEach [] X.env)).all (fun x => x.1.isSome)
      && decide (([e]).length + ([] : List Keyword).length + (if ([] : List Keyword).isEmpty then 0 else 1) < 30)) = true := by rfl)
    (hline : (apos.endLine == cpos.line) = true := by rfl) (hs : starEach [e] X.env = (false, eval e X.env) :: starEach [] X.env := by rfl) (hplain : (backTo cpos (starEach [] X.env)).any (·.1) = false := by rfl) :
    DE X W (.Call (.Attribute (.Name x p) "extend" apos) [e] [] cpos) (eMut i fas oExtend) := by
  refine de_mut i PySem.F.slot_list_extend PySem.F.type_list_extend mt_extend (fun S env σ H Q a ds vs as ws y ds' rel hσ hi hH hz rv ra ho q => ?_) ha hN hv hd hcd hbase hfew hline hs hplain
  unfold oExtend at ho
  split at ho
  · rename_i d es
    split at ho
    · rename_i hlt
      cases ho
      obtain ⟨v, rs, rfl, h1, h2⟩ := ra
      cases h2
      obtain ⟨b, us, rfl, hb, hl, hr⟩ := h1
      have hlen := Reps.len rv
      have hlen2 := Reps.len hr
      refine ⟨a, b, vs, us, rfl, rfl, hH, rel.sub _ _ hb, by rw [← hlen, ← hlen2]; exact hlt, ?_⟩
      exact q .non (vs ++ us) (reps_app rv hr) (by rw [List.length_append]; exact hlt) fun _ => .inl rfl
    · cases ho
  · cases ho
/-- xs[k] = e, xs a name -/
def sPutIx (i : Nat) (fe : EF D) (fk : EF D) : SF := sBind fe fun d env => match lstAt env i with
  | some _ => sBind fk (fun k env => match k with
    | .int k => match lstAt env i with
      | some (s, ds) => match ixN ds.length k with
        | some j => some (.nx, env.set i (some (s.put (.lst (ds.set j d)))))
        | none => none
      | none => none
    | _ => none) env
  | none => none
theorem reps_set {K : PySem.W.Frag} {S : Hp} {d : D} {v : V} (h : Rep K S d v) : ∀ {ds : List D} {vs : List V} (j : Nat), Reps K S ds vs → Reps K S (ds.set j d) (vs.set j v)
  | [], _, j, r => by cases r; exact rfl
  | x :: ds, _, 0, r => by
    obtain ⟨w, rs, e, p, q⟩ := r
    subst e
    exact ⟨v, rs, rfl, h, q⟩
  | x :: ds, _, j + 1, r => by
    obtain ⟨w, rs, e, p, q⟩ := r
    subst e
    exact ⟨w, rs.set j v, rfl, p, reps_set h j q⟩
theorem ds_putIx (i : Nat) {x : Str} {p tp : Pos} {k e : Expr} {fe fk : EF D} (he : DE X W e fe) (hk : DE X W k fk) (hN : X.N[i]? = some x := by rfl) (hv : Vis X.env.scope x := by first | exact Or.inl rfl | exact Or.inr (Or.inl rfl) | exact Or.inr (Or.inr rfl))
    (hd : (x == ("__debug__" : Str)) = false := by decide) (hcd : (x == ("__classdict__" : Str)) = false := by decide)
    (ha : ∀ v, assign (.Subscript (.Name x p) k tp) X.env v = (do
      let ov ← holding [v] (eval (.Name x p) X.env)
      let iv ← holding [v, ov] (eval k X.env)
      standAt tp
      holding [v, ov, iv] (setItem ov iv v)
      release [v, ov, iv] []) := by intro _; rfl)
    (hs : swapsWithSole [.Subscript (.Name x p) k tp] e pos.line X.env = pure false := by rfl) (hw : swappedStores [.Subscript (.Name x p) k tp] e X.env = pure none := by rfl)
    (h1 : (assignEach [.Subscript (.Name x p) k tp] X.env).map (·.2) = [assign (.Subscript (.Name x p) k tp) X.env] := by rfl) : DS X W (.Assign [.Subscript (.Name x p) k tp] e pos) (sPutIx i fe fk) := by
  refine ps_imp (ps_asg he (pg_sub (pe_var hN hv hd hcd) hk set_list ha) hs hw h1) ?_
  rintro Dn σ H ⟨S, env, z⟩
  refine ⟨S, env, (AtS.bind (R := RD X.K) z).imp fun v H1 ⟨d, S1, en1, rd, st, z1⟩ => ?_⟩
  obtain ⟨o1, en', rel1, ef, q1⟩ := z1
  dsimp only at ef
  cases h0 : lstAt en1 i with
  | none => rw [h0] at ef; cases ef
  | some p0 =>
    rw [h0] at ef
    obtain ⟨s0, ds0⟩ := p0
    obtain ⟨e1, e2⟩ := lstAt_inv h0
    obtain ⟨a, o, x1, x2, x3, x4⟩ := rel1.objS e1 e2
    refine ⟨.ref a, x1, S1, en1, ?_⟩
    have z2 : AtS X.K W (sBind fk (fun k env => match k with
      | .int k => match lstAt env i with
        | some (s, ds) => match ixN ds.length k with
          | some j => some (.nx, env.set i (some (s.put (.lst (ds.set j d)))))
          | none => none
        | none => none
      | _ => none)) S1 en1 σ H1 Dn := ⟨o1, en', rel1, ef, q1⟩
    refine (AtS.bind (R := RD X.K) z2).imp fun u H2 ⟨k, S2, en2, rk, st2, z3⟩ => ?_
    obtain ⟨o3, en3, rel3, ef3, q3⟩ := z3
    cases k with
    | int k =>
      dsimp only at ef3
      split at ef3
      · rename_i s ds hl
        split at ef3
        · rename_i j hj
          cases ef3
          obtain ⟨e3, e4⟩ := lstAt_inv hl
          obtain ⟨a', o', y1, y2, y3, y4⟩ := rel3.objS e3 e4
          rw [x1] at y1
          cases y1
          obtain ⟨vs, rfl, hz, rv⟩ := y4
          have hlen := Reps.len rv
          refine ⟨a, vs, k, j, rfl, rk, y2, by rw [← hlen]; exact hj, ?_⟩
          exact q3 _ _ _ (rel3.mut e3 e4 x1 (m' := .lst (ds.set j d)) ⟨vs.set j v, rfl, by rw [List.length_set]; exact hz, reps_set (Rep.mono st2.le _ _ rd) j rv⟩)
        · cases ef3
      · cases ef3
    | _ => cases ef3
end
end Mir

namespace Mir
open PySem PySem.Spec PyProof.Rows L2
/-! ## what is walked -/
/-- J gives ds, one at each turn, whatever else is made meanwhile -/
structure ItOk (K : PySem.W.Frag) (S : SS) (J : It) (ds : List D) : Prop where
  goes : ∀ (i : Nat) (S' : SS) (env : ME) (σ : St) (H : Hp), i < ds.length → Le S S' → Rel K S' env σ H → J.go i H
  stops : ∀ (S' : SS) (env : ME) (σ : St) (H : Hp), Le S S' → Rel K S' env σ H → J.stop ds.length H
  yields : ∀ (i : Nat) (S' : SS) (env : ME) (σ : St) (H : Hp) (x : V) (H' : Hp), i < ds.length → Le S S' → Rel K S' env σ H → J.yld i H x H' → ∃ S2 : SS, ∃ d, Step K S' env σ H S2 env σ H' ∧ ds[i]? = some d ∧ Rep K S2 d x ∧
    (∀ b, H b ≠ none → H' b = H b) ∧ (∀ b, S' b = none → H b ≠ none → S2 b = none)
def RI (K : PySem.W.Frag) : RR (List D) It := fun _ S ds J => ItOk K S J ds
def DI (X : Cx) (W : WX) (tg iter : Expr) (f : EF (List D)) : Prop := PI X tg iter (tr X.K W (RI X.K) f)
theorem pi_imp {X : Cx} {tg e : Expr} {t t' : TI} (h : PI X tg e t) (w : ∀ σ H Q, t' σ H Q → t σ H Q) : PI X tg e t' := ⟨fun pins s σ H Q I q => h.run pins s σ H Q I (w σ H Q q)⟩
/-! ### targets -/
abbrev TF := D → ME → Option ME
def trG (K : PySem.W.Frag) (f : TF) : TG := fun v σ H Q => ∃ S env d env', Rel K S env σ H ∧ Rep K S d v ∧ f d env = some env' ∧ ∀ S' σ' H', Step K S env σ H S' env' σ' H' → S' = S → H' = H → Q σ' H'
def DG (X : Cx) (tg : Expr) (f : TF) : Prop := PG X tg (trG X.K f)
theorem pg_imp {X : Cx} {e : Expr} {t t' : TG} (h : PG X e t) (w : ∀ v σ H Q, t' v σ H Q → t v σ H Q) : PG X e t' := ⟨fun pins s σ H v u Q I r q => h.run pins s σ H v u Q I r (w v σ H Q q)⟩
def gSl (i : Nat) : TF := fun d e => if isB e i then none else some (e.set i (some (.v d)))
section
variable {X : Cx} {W : WX} {pos : Pos}
theorem dg_name (i : Nat) {x : Str} (hN : X.N.Nodup) (hi : X.N[i]? = some x := by rfl) (hx : Loc X.env.scope x := by first | exact Or.inl rfl | exact Or.inr rfl) (hf : X.fn x = true ∨ X.env.scope.names.lookup x = some .local := by first | exact .inl rfl | exact .inr rfl | assumption) : DG X (.Name x pos) (gSl i) := by
  refine pg_imp (pg_name hN hi hx hf) ?_
  rintro v σ H Q ⟨S, env, d, env', rel, rd, e, q⟩
  unfold gSl at e
  cases hb : isB env i with
  | true => rw [hb] at e; cases e
  | false =>
    rw [hb] at e
    cases e
    exact q _ _ _ (rel.setV (notB_of hb) rd) rfl rfl
/-- several -/
def gSls : List TF → List D → ME → Option ME
  | [], [], e => some e
  | f :: fs, d :: ds, e => match f d e with
    | some e1 => gSls fs ds e1
    | none => none
  | _, _, _ => none
def trGs (K : PySem.W.Frag) (fs : List TF) : TGs := fun vs σ H Q => ∃ S env ds env', Rel K S env σ H ∧ Reps K S ds vs ∧ gSls fs ds env = some env' ∧ ∀ S' σ' H', Step K S env σ H S' env' σ' H' → S' = S → H' = H → Q σ' H'
def DGs (X : Cx) (tgs : List Expr) (fs : List TF) : Prop := PGs X tgs (trGs X.K fs)
theorem pgs_imp {X : Cx} {e : List Expr} {t t' : TGs} (h : PGs X e t) (w : ∀ v σ H Q, t' v σ H Q → t v σ H Q) : PGs X e t' := ⟨fun pins s σ H v u Q I r q => h.run pins s σ H v u Q I r (w v σ H Q q)⟩
theorem dgs_nil : DGs X [] [] := by
  refine pgs_imp pgs_nil ?_
  rintro vs σ H Q ⟨S, env, ds, env', rel, rd, e, q⟩
  cases ds with
  | nil => cases rd; cases e; exact ⟨rfl, q _ _ _ rel.step rfl rfl⟩
  | cons d ds => cases e
theorem dgs_cons {e : Expr} {es : List Expr} {f : TF} {fs : List TF} (h1 : DG X e f) (h2 : DGs X es fs) (hs : (assignEach (e :: es) X.env).map (·.2) = assign e X.env :: (assignEach es X.env).map (·.2) := by rfl) : DGs X (e :: es) (f :: fs) := by
  refine pgs_imp (pgs_cons h1 h2 hs) ?_
  rintro vs σ H Q ⟨S, env, ds, env', rel, rd, e, q⟩
  cases ds with
  | nil => cases e
  | cons d ds =>
    obtain ⟨v, r, rfl, r1, r2⟩ := rd
    unfold gSls at e
    split at e
    · rename_i e1 he
      refine ⟨v, r, rfl, S, env, d, e1, rel, r1, he, fun S' σ' H' st es eh => ?_⟩
      subst es eh
      exact ⟨_, e1, ds, env', st.rel, r2, e, fun S2 σ2 H2 st2 es2 eh2 => q S2 σ2 H2 (st.trans st2) es2 eh2⟩
    · cases e
def gTupM (fs : List TF) : TF := fun d e => match d with
  | .tup ds => if ds.length = fs.length then gSls fs ds e else none
  | _ => none
theorem dg_tup {es : List Expr} {k : Nat} {fs : List TF} (hc : X.calm = true) (h : DGs X es fs) (hn : (assignEach es X.env).length = fs.length := by rfl) (hst : (assignEach es X.env).findIdx? (·.1) = none := by rfl) : DG X (.Tuple es k pos) (gTupM fs) := by
  refine pg_imp (pg_tup hc h hn hst) ?_
  rintro v σ H Q ⟨S, env, d, env', rel, rd, e, q⟩
  cases d with
  | tup ds =>
    unfold gTupM at e
    dsimp only at e
    split at e
    · rename_i hl
      obtain ⟨a, vs, rfl, hq, hz, rr⟩ := rd
      exact ⟨a, vs, rfl, ((Le.of rel.sub).tupAt hq).sq, by rw [← Reps.len rr]; exact hl, S, env, ds, env', rel, rr, e, q⟩
    · cases e
  | _ => cases e
/-- a, b = e -/
def sTo (f : EF D) (g : TF) : SF := sBind f fun d e => match g d e with
  | some e1 => some (.nx, e1)
  | none => none
theorem ds_to {tg e : Expr} {f : EF D} {g : TF} (he : DE X W e f) (hg : DG X tg g) (hs : swapsWithSole [tg] e pos.line X.env = pure false := by rfl) (hw : swappedStores [tg] e X.env = pure none := by rfl)
    (h1 : (assignEach [tg] X.env).map (·.2) = [assign tg X.env] := by rfl) : DS X W (.Assign [tg] e pos) (sTo f g) := by
  refine ps_imp (ps_asg he hg hs hw h1) ?_
  rintro Dn σ H ⟨S, env, z⟩
  refine ⟨S, env, (AtS.bind (R := RD X.K) z).imp fun v H1 ⟨d, S1, en1, rd, st, z1⟩ => ?_⟩
  obtain ⟨o1, en', rel1, ef, q1⟩ := z1
  dsimp only at ef
  split at ef
  · rename_i e1 hg'
    cases ef
    exact ⟨S1, en1, d, _, rel1, rd, hg', fun S' σ' H' st _ _ => q1 S' σ' H' st⟩
  · cases ef
/-! ## for -/
def sLoop (tgt : TF) (body : SF) : List D → SF
  | [], e => some (.nx, e)
  | d :: ds, e => match tgt d e with
    | some e1 => match body e1 with
      | some (.nx, e2) => sLoop tgt body ds e2
      | some (.cnt, e2) => sLoop tgt body ds e2
      | some (.brk, e2) => some (.nx, e2)
      | r => r
    | none => none
def sFor (fi : EF (List D)) (tgt : TF) (body : SF) : SF := sBind fi fun ds => sLoop tgt body ds
theorem ds_for {tg iter : Expr} {body : List Stmt} {fi : EF (List D)} {g : TF} {fb : SF} (hp : PassesOwn (model X.prog X.w) X.A X.env X.xe) (hc : X.calm = true) (hi : DI X W tg iter fi) (hg : DG X tg g) (hb : DB X W body fb)
    (hs : ∀ x, foldedSetIterable iter X.env x = pure x := by intro _; rfl) : DS X W (.For tg iter body [] pos) (sFor fi g fb) := by
  refine ps_imp (ps_for hp hc hi hg hb hs) ?_
  rintro Dn σ H ⟨S, env, z⟩
  refine ⟨S, env, (AtS.bind (R := RI X.K) z).imp fun J H1 ⟨ds, S1, en1, io, st, z1⟩ => ?_⟩
  obtain ⟨o1, en', rel1, ef, q1⟩ := z1
  refine ⟨fun i m σ' H' => m = ds.length - i ∧ i ≤ ds.length ∧ ∃ S2 : SS, ∃ en2 o2 en3, Le S1 S2 ∧ Rel X.K S2 en2 σ' H' ∧ sLoop g fb (ds.drop i) en2 = some (o2, en3) ∧ ∀ S' σ2 H2, Step X.K S2 en2 σ' H' S' en3 σ2 H2 → PostS X.K W Dn o2 S' σ2 H2,
    ⟨ds.length, rfl, Nat.zero_le _, S1, en1, o1, en', Le.refl _, rel1, ef, q1⟩, ?_⟩
  rintro i m σ' H' ⟨rfl, hi, S2, en2, o2, en3, le, rel2, ef2, q2⟩
  by_cases hlt : i < ds.length
  · rw [List.drop_eq_getElem_cons hlt] at ef2
    unfold sLoop at ef2
    refine .inr ⟨io.goes i S2 en2 σ' H' hlt le rel2, fun σ3 H3 => ∃ S3 : SS, ∃ en4 o4 en5, Le S1 S3 ∧ Rel X.K S3 en4 σ3 H3 ∧ sLoop g fb (ds.drop (i + 1)) en4 = some (o4, en5) ∧ ∀ S' σ2 H2, Step X.K S3 en4 σ3 H3 S' en5 σ2 H2 → PostS X.K W Dn o4 S' σ2 H2,
      fun σ3 H3 h => ⟨ds.length - (i + 1), by omega, rfl, hlt, h⟩, fun x H3 hy => ?_⟩
    obtain ⟨S3, d, st3, hd, rd, _⟩ := io.yields i S2 en2 σ' H' x H3 hlt le rel2 hy
    rw [List.getElem?_eq_getElem hlt] at hd
    cases hd
    split at ef2
    · rename_i e1 hg1
      refine ⟨S3, en2, _, e1, st3.rel, rd, hg1, fun S4 σ4 H4 st4 es eh => ?_⟩
      have st34 := st3.trans st4
      have fin : ∀ (o5 : Out) (en5 : ME), fb e1 = some (o5, en5) → (∀ S' σ2 H2, Step X.K S2 en2 σ' H' S' en5 σ2 H2 → PostS X.K W ⟨fun σ3 H3 => ∃ S3 : SS, ∃ en4 o4 en5, Le S1 S3 ∧ Rel X.K S3 en4 σ3 H3 ∧ sLoop g fb (ds.drop (i + 1)) en4 = some (o4, en5) ∧ ∀ S' σ2 H2, Step X.K S3 en4 σ3 H3 S' en5 σ2 H2 → PostS X.K W Dn o4 S' σ2 H2, Dn.rt, Dn.nx,
          fun σ3 H3 => ∃ S3 : SS, ∃ en4 o4 en5, Le S1 S3 ∧ Rel X.K S3 en4 σ3 H3 ∧ sLoop g fb (ds.drop (i + 1)) en4 = some (o4, en5) ∧ ∀ S' σ2 H2, Step X.K S3 en4 σ3 H3 S' en5 σ2 H2 → PostS X.K W Dn o4 S' σ2 H2⟩ o5 S' σ2 H2) → trS X.K W fb ⟨fun σ3 H3 => ∃ S3 : SS, ∃ en4 o4 en5, Le S1 S3 ∧ Rel X.K S3 en4 σ3 H3 ∧ sLoop g fb (ds.drop (i + 1)) en4 = some (o4, en5) ∧ ∀ S' σ2 H2, Step X.K S3 en4 σ3 H3 S' en5 σ2 H2 → PostS X.K W Dn o4 S' σ2 H2, Dn.rt, Dn.nx,
          fun σ3 H3 => ∃ S3 : SS, ∃ en4 o4 en5, Le S1 S3 ∧ Rel X.K S3 en4 σ3 H3 ∧ sLoop g fb (ds.drop (i + 1)) en4 = some (o4, en5) ∧ ∀ S' σ2 H2, Step X.K S3 en4 σ3 H3 S' en5 σ2 H2 → PostS X.K W Dn o4 S' σ2 H2⟩ σ4 H4 :=
        fun o5 en5 h5 hq => ⟨S4, e1, o5, en5, st4.rel, h5, fun S' σ2 H2 st5 => hq S' σ2 H2 (st34.trans st5)⟩
      cases hb5 : fb e1 with
      | none => rw [hb5] at ef2; cases ef2
      | some p =>
        obtain ⟨o5, en5⟩ := p
        rw [hb5] at ef2
        refine fin o5 en5 hb5 fun S' σ2 H2 st6 => ?_
        cases o5 with
        | nx => exact ⟨S', en5, o2, en3, le.trans st6.le, st6.rel, ef2, fun S7 σ7 H7 st7 => q2 S7 σ7 H7 (st6.trans st7)⟩
        | cnt => exact ⟨S', en5, o2, en3, le.trans st6.le, st6.rel, ef2, fun S7 σ7 H7 st7 => q2 S7 σ7 H7 (st6.trans st7)⟩
        | brk =>
          have ef3 : some (Out.nx, en5) = some (o2, en3) := ef2
          cases ef3
          exact q2 S' σ2 H2 st6
        | ret r =>
          have ef3 : some (Out.ret r, en5) = some (o2, en3) := ef2
          cases ef3
          exact q2 S' σ2 H2 st6
        | ex x =>
          have ef3 : some (Out.ex x, en5) = some (o2, en3) := ef2
          cases ef3
          exact q2 S' σ2 H2 st6
    · cases ef2
  · have e : i = ds.length := by omega
    subst e
    rw [List.drop_length] at ef2
    cases ef2
    exact .inl ⟨io.stops S2 en2 σ' H' le rel2, q2 S2 σ' H' rel2.step⟩
/-! ## while -/
def sWhile (c : EF Bool) (body : SF) : Nat → SF
  | 0, _ => none
  | n + 1, e => match c e with
    | some (.ok false, e1) => some (.nx, e1)
    | some (.ok true, e1) => match body e1 with
      | some (.nx, e2) => sWhile c body n e2
      | some (.cnt, e2) => sWhile c body n e2
      | some (.brk, e2) => some (.nx, e2)
      | r => r
    | some (.ex x, e1) => some (.ex x, e1)
    | none => none
theorem sWhile_mono {c : EF Bool} {b : SF} : ∀ {n : Nat} {m : Nat} {e : ME} {r : Out × ME}, sWhile c b n e = some r → n ≤ m → sWhile c b m e = some r
  | 0, m, e, r, h, _ => by cases h
  | n + 1, 0, e, r, h, hm => by omega
  | n + 1, m + 1, e, r, h, hm => by
    unfold sWhile at h ⊢
    split at h
    · exact h
    · split at h
      · rename_i e1 h1 e2 h2
        exact sWhile_mono h (by omega)
      · rename_i e1 h1 e2 h2
        exact sWhile_mono h (by omega)
      · exact h
      · exact h
    · exact h
    · cases h
open Classical in
/-- however many turns -/
noncomputable def sWhl (c : EF Bool) (b : SF) : SF := fun e => if h : ∃ r, ∃ n, sWhile c b n e = some r then some h.choose else none
theorem sWhl_of {c : EF Bool} {b : SF} {n : Nat} {e : ME} {r : Out × ME} (h : sWhile c b n e = some r) : sWhl c b e = some r := by
  have hx : ∃ r, ∃ n, sWhile c b n e = some r := ⟨r, n, h⟩
  unfold sWhl
  rw [dif_pos hx]
  obtain ⟨m, hm⟩ := hx.choose_spec
  have h1 := sWhile_mono h (Nat.le_max_left n m)
  have h2 := sWhile_mono hm (Nat.le_max_right n m)
  rw [h1] at h2
  exact h2.symm
theorem sWhl_inv {c : EF Bool} {b : SF} {e : ME} {r : Out × ME} (h : sWhl c b e = some r) : ∃ n, sWhile c b n e = some r := by
  unfold sWhl at h
  split at h
  · rename_i hx
    obtain ⟨n, hn⟩ := hx.choose_spec
    cases h
    exact ⟨n, hn⟩
  · cases h
theorem ds_while {c : Expr} {body : List Stmt} {fc : EF Bool} {fb : SF} (hp : PassesOwn (model X.prog X.w) X.A X.env X.xe) (hc : DT X W c fc) (hb : DB X W body fb) : DS X W (.While c body [] pos) (sWhl fc fb) := by
  refine ps_imp (ps_while hp hc hb) ?_
  rintro Dn σ H ⟨S, env, o, env', rel, ef, q⟩
  obtain ⟨n, ef⟩ := sWhl_inv ef
  refine ⟨fun m σ' H' => ∃ S2 : SS, ∃ en2 o2 en3, Rel X.K S2 en2 σ' H' ∧ sWhile fc fb m en2 = some (o2, en3) ∧ ∀ S' σ2 H2, Step X.K S2 en2 σ' H' S' en3 σ2 H2 → PostS X.K W Dn o2 S' σ2 H2, ⟨n, S, env, o, env', rel, ef, q⟩, ?_⟩
  rintro m σ' H' ⟨S2, en2, o2, en3, rel2, ef2, q2⟩
  cases m with
  | zero => cases ef2
  | succ m =>
    unfold sWhile at ef2
    refine ⟨S2, en2, ?_⟩
    cases hce : fc en2 with
    | none => rw [hce] at ef2; cases ef2
    | some p =>
      obtain ⟨r1, e1⟩ := p
      rw [hce] at ef2
      refine ⟨r1, e1, rel2, hce, fun S3 H3 st3 => ?_⟩
      cases r1 with
      | ex x =>
        have ef3 : some (Out.ex x, e1) = some (o2, en3) := ef2
        cases ef3
        exact q2 S3 σ' H3 st3
      | ok b =>
        rintro b' rfl
        cases b with
        | false =>
          have ef3 : some (Out.nx, e1) = some (o2, en3) := ef2
          cases ef3
          exact iteF (q2 S3 σ' H3 st3)
        | true =>
          dsimp only at ef2
          refine iteT ⟨fun σ4 H4 => ∃ S2 : SS, ∃ en2 o2 en3, Rel X.K S2 en2 σ4 H4 ∧ sWhile fc fb m en2 = some (o2, en3) ∧ ∀ S' σ2 H2, Step X.K S2 en2 σ4 H4 S' en3 σ2 H2 → PostS X.K W Dn o2 S' σ2 H2, fun σ4 H4 h => ⟨m, Nat.lt_succ_self m, h⟩, ?_⟩
          cases hb5 : fb e1 with
          | none => rw [hb5] at ef2; cases ef2
          | some p =>
            obtain ⟨o5, en5⟩ := p
            rw [hb5] at ef2
            refine ⟨S3, e1, o5, en5, st3.rel, hb5, fun S' σ2 H2 st5 => ?_⟩
            have st6 := st3.trans st5
            cases o5 with
            | nx => exact ⟨S', en5, o2, en3, st6.rel, ef2, fun S7 σ7 H7 st7 => q2 S7 σ7 H7 (st6.trans st7)⟩
            | cnt => exact ⟨S', en5, o2, en3, st6.rel, ef2, fun S7 σ7 H7 st7 => q2 S7 σ7 H7 (st6.trans st7)⟩
            | brk =>
              have ef3 : some (Out.nx, en5) = some (o2, en3) := ef2
              cases ef3
              exact q2 S' σ2 H2 st6
            | ret r =>
              have ef3 : some (Out.ret r, en5) = some (o2, en3) := ef2
              cases ef3
              exact q2 S' σ2 H2 st6
            | ex x =>
              have ef3 : some (Out.ex x, en5) = some (o2, en3) := ef2
              cases ef3
              exact q2 S' σ2 H2 st6
end
end Mir

namespace Mir
open PySem PySem.Spec PyProof.Rows L2
/-! ## what a loop walks over -/
theorem reps_at2 {K : PySem.W.Frag} {S : Hp} : ∀ {ds : List D} {vs : List V} {i : Nat} {v : V}, Reps K S ds vs → vs[i]? = some v → ∃ d, ds[i]? = some d ∧ Rep K S d v
  | [], vs, i, v, h, e => by
    have h' : vs = [] := h
    subst h'
    simp at e
  | d :: ds, vs, i, v, h, e => by
    obtain ⟨w, r, rfl, p, q⟩ := h
    cases i with
    | zero =>
      simp at e
      subst e
      exact ⟨d, rfl, p⟩
    | succ j =>
      simp at e
      obtain ⟨d', e1, e2⟩ := reps_at2 q e
      exact ⟨d', by simpa using e1, e2⟩
section
variable {K : PySem.W.Frag} {S : SS} {J : It} {ds : List D}
/-- a walk that leaves the heap as it is -/
theorem ItOk.still {G : Hp → Prop} {Y : Nat → Hp → V → Hp → Prop} (w : Walk J ds.length G Y) (hG : ∀ (S' : SS) (H : Hp), Le S S' → Same S' H → G H)
    (hY : ∀ (i : Nat) (S' H : Hp) (x : V) (H' : Hp), Le S S' → Y i H x H' → H' = H ∧ ∃ d, ds[i]? = some d ∧ Rep K S' d x) : ItOk K S J ds := by
  refine ⟨fun i S' env σ H hi le rel => w.goes i H hi (hG S' H le rel.sub), fun S' env σ H le rel => w.stops H (hG S' H le rel.sub), fun i S' env σ H x H' hi le rel y => ?_⟩
  obtain ⟨e, d, h1, h2⟩ := hY i S' H x H' le (w.yields i H x H' hi (hG S' H le rel.sub) y)
  subst e
  exact ⟨S', d, rel.step, h1, h2, fun b _ => rfl, fun b h _ => h⟩
/-- .. that gives new pairs -/
theorem ItOk.pairs {G : Hp → Prop} {fx fy : Nat → Option V} (w : Walk J ds.length G (YPair fx fy)) (hG : ∀ (S' : SS) (H : Hp), Le S S' → Same S' H → G H)
    (hY : ∀ (i : Nat) (S' : SS) (x y : V), Le S S' → fx i = some x → fy i = some y → ∃ dx dy, ds[i]? = some (.tup [dx, dy]) ∧ Rep K S' dx x ∧ Rep K S' dy y) : ItOk K S J ds := by
  refine ⟨fun i S' env σ H hi le rel => w.goes i H hi (hG S' H le rel.sub), fun S' env σ H le rel => w.stops H (hG S' H le rel.sub), fun i S' env σ H x H' hi le rel y => ?_⟩
  obtain ⟨T, a, b, e1, e2, e3, e4, e5⟩ := w.yields i H x H' hi (hG S' H le rel.sub) y
  subst e1 e3
  obtain ⟨dx, dy, h1, h2, h3⟩ := hY i S' a b le e4 e5
  have st : Step K S' env σ H (S'.up T (.tup [a, b])) env σ (upd H T (.tup [a, b])) := rel.alloc e2
  refine ⟨_, _, st, h1, ⟨T, [a, b], rfl, .inl upd_same, by show 2 ≤ sizeLine; decide, a, [b], rfl, Rep.mono st.le _ _ h2, b, [], rfl, Rep.mono st.le _ _ h3, rfl⟩, fun c hc => ?_, fun c h hc => ?_⟩
  · exact upd_ne (fun z => hc (by rw [z]; exact e2))
  · show upd S'.hp T _ c = none
    rw [upd_ne (fun z => hc (by rw [z]; exact e2))]; exact h
theorem itOk_list {a : Addr} {vs : List V} (hq : SqL K S a vs) (r : Reps K S ds vs) : ItOk K S (Itl K a) ds := by
  have hl := Reps.len r
  refine ItOk.still (G := fun H => SqL K H a vs) (Y := YAt vs) (by rw [hl]; exact walk_list) (fun S' H le sm => (Le.of sm).sqL (le.sqL hq)) ?_
  rintro i S' H x H' le ⟨e, h⟩
  exact ⟨e, reps_at2 (Reps.mono le _ _ r) h⟩
theorem itOk_tup {a : Addr} {vs : List V} (hq : TupAt K S a vs) (r : Reps K S ds vs) : ItOk K S (Itt K a) ds := by
  have hl := Reps.len r
  refine ItOk.still (G := fun H => SqT K H a vs) (Y := YAt vs) (by rw [hl]; exact walk_tup) (fun S' H le sm => ((Le.of sm).tupAt (le.tupAt hq)).sq) ?_
  rintro i S' H x H' le ⟨e, h⟩
  exact ⟨e, reps_at2 (Reps.mono le _ _ r) h⟩
/-- a text's signs -/
def signs (x : Str) : List D := x.cps.toList.map fun c => .str ⟨#[c]⟩
theorem itOk_str {x : Str} : ItOk K S (Its x) (signs x) := by
  have hl : (signs x).length = x.cps.size := by unfold signs; simp
  refine ItOk.still (G := fun _ => True) (Y := fun i H v H' => H' = H ∧ ∃ c, x.cps[i]? = some c ∧ v = .str ⟨#[c]⟩) (by rw [hl]; exact walk_str) (fun S' H le sm => trivial) ?_
  rintro i S' H v H' le ⟨e, c, h, rfl⟩
  refine ⟨e, .str ⟨#[c]⟩, ?_, rfl, ?_⟩
  · unfold signs
    rw [List.getElem?_map]
    simp [h]
  · show 1 ≤ sizeLine; decide
def rng (lo : Int) (n : Nat) : List D := (List.range n).map fun i => .int (lo + (i : Nat))
theorem itOk_range {lo : Int} {n : Nat} : ItOk K S (Itr lo n) (rng lo n) := by
  have hl : (rng lo n).length = n := by unfold rng; simp
  refine ItOk.still (G := fun _ => 0 ≤ n) (Y := fun i H x H' => H' = H ∧ i < n ∧ x = .int (lo + i)) ?_ (fun S' H le sm => Nat.zero_le _) ?_
  · rw [hl]
    exact ⟨fun _ _ hi _ => hi, fun _ _ => Nat.le_refl _, fun _ _ _ _ hi _ y => ⟨y.1, hi, y.2⟩⟩
  rintro i S' H x H' le ⟨e, h, rfl⟩
  refine ⟨e, .int (lo + i), ?_, rfl⟩
  unfold rng
  rw [List.getElem?_map]
  simp [h]
def enm : Nat → List D → List D
  | _, [] => []
  | i, d :: ds => .tup [.int (i : Nat), d] :: enm (i + 1) ds
theorem enm_len : ∀ (i : Nat) (ds : List D), (enm i ds).length = ds.length
  | _, [] => rfl
  | i, d :: ds => by simp [enm, enm_len (i + 1) ds]
theorem enm_at : ∀ (i j : Nat) (ds : List D) (d : D), ds[j]? = some d → (enm i ds)[j]? = some (.tup [.int ((i + j : Nat) : Int), d])
  | i, 0, d0 :: ds, d, h => by simp at h; subst h; rfl
  | i, j + 1, d0 :: ds, d, h => by
    simp at h
    have := enm_at (i + 1) j ds d h
    have e : i + 1 + j = i + (j + 1) := by omega
    rw [e] at this
    simpa [enm] using this
theorem itOk_enum {a : Addr} {vs : List V} (hq : SqL K S a vs) (r : Reps K S ds vs) : ItOk K S (Ite K a) (enm 0 ds) := by
  have hl := Reps.len r
  refine ItOk.pairs (G := fun H => SqL K H a vs) (by rw [enm_len, hl]; exact walk_enum) (fun S' H le sm => (Le.of sm).sqL (le.sqL hq)) ?_
  intro i S' x y le hx hy
  cases hx
  obtain ⟨d, e1, e2⟩ := reps_at2 (Reps.mono le _ _ r) hy
  refine ⟨.int (i : Nat), d, ?_, rfl, e2⟩
  have := enm_at 0 i ds d e1
  simpa using this
def zipM : List D → List D → List D
  | a :: as, b :: bs => .tup [a, b] :: zipM as bs
  | _, _ => []
theorem zipM_len : ∀ (xs ys : List D), (zipM xs ys).length = min xs.length ys.length
  | [], ys => by simp [zipM]
  | x :: xs, [] => by simp [zipM]
  | x :: xs, y :: ys => by simp [zipM, zipM_len xs ys]
theorem zipM_at : ∀ (xs ys : List D) (i : Nat) (x y : D), xs[i]? = some x → ys[i]? = some y → (zipM xs ys)[i]? = some (.tup [x, y])
  | a :: xs, b :: ys, 0, x, y, h1, h2 => by simp at h1 h2; subst h1 h2; rfl
  | a :: xs, b :: ys, i + 1, x, y, h1, h2 => by
    simp at h1 h2
    simpa [zipM] using zipM_at xs ys i x y h1 h2
theorem itOk_zip {a b : Addr} {vs ws : List V} {es : List D} (hq : SqL K S a vs) (r : Reps K S ds vs) (hq2 : SqL K S b ws) (r2 : Reps K S es ws) : ItOk K S (Itz K a b) (zipM ds es) := by
  have hl := Reps.len r
  have hl2 := Reps.len r2
  refine ItOk.pairs (G := fun H => SqL K H a vs ∧ SqL K H b ws) (by rw [zipM_len, hl, hl2]; exact walk_zip rfl) (fun S' H le sm => ⟨(Le.of sm).sqL (le.sqL hq), (Le.of sm).sqL (le.sqL hq2)⟩) ?_
  intro i S' x y le hx hy
  obtain ⟨d, e1, e2⟩ := reps_at2 (Reps.mono le _ _ r) hx
  obtain ⟨d', e3, e4⟩ := reps_at2 (Reps.mono le _ _ r2) hy
  exact ⟨d, d', zipM_at _ _ _ _ _ e1 e3, e2, e4⟩
end
/-! ### the sources -/
def oIter : D → EF (List D)
  | .tup ds => eRet ds
  | .lst ds => eRet ds
  | .frl ds => eRet ds
  | .str x => eRet (signs x)
  | _ => fun _ => none
def eOf (f : EF D) : EF (List D) := eBind f oIter
def lsOf : D → Option (List D)
  | .lst ds => some ds
  | .frl ds => some ds
  | _ => none
theorem lsOf_rep {K : PySem.W.Frag} {S : Hp} {d : D} {ds : List D} {v : V} (h : lsOf d = some ds) (r : Rep K S d v) : ∃ a vs, v = .ref a ∧ SqL K S a vs ∧ Reps K S ds vs := by
  cases d with
  | lst xs =>
    cases h
    obtain ⟨a, vs, e, q, l, rr⟩ := r
    exact ⟨a, vs, e, .inl (.inl q), rr⟩
  | frl xs =>
    cases h
    obtain ⟨a, vs, e, q, l, rr⟩ := r
    exact ⟨a, vs, e, q, rr⟩
  | _ => cases h
theorem At.none {α β : Type} {K : PySem.W.Frag} {W : WX} {R : RR α β} {S : SS} {env : ME} {σ : St} {H : Hp} {Q : β → Hp → Prop} {f : EF α} (h : At K W R f S env σ H Q) (e : f env = none) : False := by
  obtain ⟨r, e', rel, h1, _⟩ := h
  rw [e] at h1
  cases h1
section
variable {X : Cx} {W : WX} {pos : Pos} {tg : Expr}
theorem di_val {e : Expr} {f : EF D} (he : DE X W e f) : DI X W tg e (eOf f) := by
  refine ⟨fun pins s σ H R I h => ?_⟩
  obtain ⟨S, env, h⟩ := h
  refine thn (PE.run he pins s σ H _ I ⟨S, env, At.bind (R := RD X.K) h⟩) fun v s1 ⟨x, H1, I1, r1, d, S1, env1, rd, st, z⟩ => ?_
  cases d with
  | tup ds =>
    obtain ⟨a, vs, rfl, hq, l, rr⟩ := rd
    cases r1
    obtain ⟨its, rv, p, hz⟩ := I1.tuple ((Le.of st.rel.sub).tupAt hq).sq
    exact wpAny_pyIter_tuple (show s1.heap.IsTuple a its.toArray from p) (pi_one (tk := s1.toks) I1 _ (turn_tuple a _) ⟨_, Heap.get?_push_size _ rfl, rfl, rfl⟩ (z.ret (itOk_tup hq rr)))
  | lst ds =>
    obtain ⟨a, vs, rfl, hq, l, rr⟩ := rd
    cases r1
    have hq' : SqL X.K S1 a vs := .inl (.inl hq)
    obtain ⟨its, rv, p, hz⟩ := I1.list ((Le.of st.rel.sub).sqL hq')
    exact wpAny_pyIter_list p.isList (pi_one (tk := s1.toks) I1 _ (turn_list a _) ⟨_, Heap.get?_push_size _ rfl, rfl, rfl⟩ (z.ret (itOk_list hq' rr)))
  | frl ds =>
    obtain ⟨a, vs, rfl, hq, l, rr⟩ := rd
    cases r1
    obtain ⟨its, rv, p, hz⟩ := I1.list ((Le.of st.rel.sub).sqL hq)
    exact wpAny_pyIter_list p.isList (pi_one (tk := s1.toks) I1 _ (turn_list a _) ⟨_, Heap.get?_push_size _ rfl, rfl, rfl⟩ (z.ret (itOk_list hq rr)))
  | str y =>
    obtain ⟨rfl, hl⟩ := rd
    obtain ⟨t, rfl⟩ := r1
    have q := z.ret (itOk_str (K := X.K) (S := S1) (x := y))
    cases ha : y.cps.all (· < 128)
    · exact wpAny_pyIter_wide ha (pi_one (tk := s1.toks) I1 _ (turn_str _ y t "str_iterator" (.inr rfl)) ⟨_, Heap.get?_push_size _ rfl, rfl, rfl⟩ q)
    · exact wpAny_pyIter_ascii ha (pi_one (tk := s1.toks) I1 _ (turn_str _ y t "str_ascii_iterator" (.inl rfl)) ⟨_, Heap.get?_push_size _ rfl, rfl, rfl⟩ q)
  | _ => exact (z.none rfl).elim
/-- range(n), range(i, j) -/
def gRng1 : List AV → EF (List D)
  | [.d (.int j)] => if -(2 ^ 62) ≤ j ∧ j < 2 ^ 62 then eRet (rng 0 j.toNat) else fun _ => none
  | _ => fun _ => none
def gRng2 : List AV → EF (List D)
  | [.d (.int i), .d (.int j)] => if -(2 ^ 62) ≤ i ∧ i < 2 ^ 62 ∧ -(2 ^ 62) ≤ j ∧ j < 2 ^ 62 then eRet (rng i (j - i).toNat) else fun _ => none
  | _ => fun _ => none
theorem di_range1 {a : Expr} {f : EF (List AV)} {p : Pos} (hm : X.mg "range" = none) (ha : DA X W [a] f) (hs : starEach [a] X.env = [(false, eval a X.env)] := by rfl) (hg : Gl X "range" := by rfl) :
    DI X W tg (.Call (.Name "range" p) [a] [] pos) (eBind f gRng1) := by
  refine pi_imp (pi_range1 hg hm ha hs) ?_
  rintro σ H R ⟨S, env, z⟩
  refine ⟨S, env, (At.bind (R := RAl X.K) z).imp fun vs H1 ⟨as, S1, e1, r, st, z1⟩ => ?_⟩
  unfold gRng1 at z1
  split at z1
  · split at z1
    · rename_i j hj
      obtain ⟨v, r0, rfl, rv, e0⟩ := r
      have e0' : r0 = [] := e0
      have rv' : v = .int j := rv
      subst e0' rv'
      exact ⟨j, rfl, hj.1, hj.2, z1.ret itOk_range⟩
    · exact (z1.none rfl).elim
  · exact (z1.none rfl).elim
theorem di_range2 {a b : Expr} {f : EF (List AV)} {p : Pos} (hm : X.mg "range" = none) (ha : DA X W [a, b] f) (hs : starEach [a, b] X.env = [(false, eval a X.env), (false, eval b X.env)] := by rfl) (hs2 : starEach [b] X.env = [(false, eval b X.env)] := by rfl) (hg : Gl X "range" := by rfl) :
    DI X W tg (.Call (.Name "range" p) [a, b] [] pos) (eBind f gRng2) := by
  refine pi_imp (pi_range2 hg hm ha hs hs2) ?_
  rintro σ H R ⟨S, env, z⟩
  refine ⟨S, env, (At.bind (R := RAl X.K) z).imp fun vs H1 ⟨as, S1, e1, r, st, z1⟩ => ?_⟩
  unfold gRng2 at z1
  split at z1
  · split at z1
    · rename_i i j hj
      obtain ⟨v, r0, rfl, rv, w, r1, rfl, rw', e0⟩ := r
      have e0' : r1 = [] := e0
      have rv' : v = .int i := rv
      have rw2 : w = .int j := rw'
      subst e0' rv' rw2
      exact ⟨i, j, rfl, hj, z1.ret itOk_range⟩
    · exact (z1.none rfl).elim
  · exact (z1.none rfl).elim
/-- enumerate(list) -/
def gEnm : List AV → EF (List D)
  | [.d d] => match lsOf d with
    | some ds => eRet (enm 0 ds)
    | none => fun _ => none
  | _ => fun _ => none
theorem di_enum {a : Expr} {f : EF (List AV)} {p tpos : Pos} {elts : List Expr} {kk : Nat} (hm : X.mg "enumerate" = none) (ha : DA X W [a] f) (hs : starEach [a] X.env = [(false, eval a X.env)] := by rfl) (hg : Gl X "enumerate" := by rfl) :
    DI X W (.Tuple elts kk tpos) (.Call (.Name "enumerate" p) [a] [] pos) (eBind f gEnm) := by
  refine pi_imp (pi_enum hg hm ha hs) ?_
  rintro σ H R ⟨S, env, z⟩
  refine ⟨S, env, (At.bind (R := RAl X.K) z).imp fun vs H1 ⟨as, S1, e1, r, st, z1⟩ => ?_⟩
  unfold gEnm at z1
  split at z1
  · split at z1
    · rename_i d ds hd
      obtain ⟨v, r0, rfl, rv, e0⟩ := r
      have e0' : r0 = [] := e0
      subst e0'
      obtain ⟨a, xs, rfl, hq, rr⟩ := lsOf_rep hd rv
      exact ⟨a, xs, rfl, (Le.of z1.rel.sub).sqL hq, z1.ret (itOk_enum hq rr)⟩
    · exact (z1.none rfl).elim
  · exact (z1.none rfl).elim
/-- zip(list, list) -/
def gZip : List AV → EF (List D)
  | [.d d, .d d'] => match lsOf d, lsOf d' with
    | some ds, some es => eRet (zipM ds es)
    | _, _ => fun _ => none
  | _ => fun _ => none
theorem di_zip {a b : Expr} {f : EF (List AV)} {p tpos : Pos} {elts : List Expr} {kk : Nat} (hm : X.mg "zip" = none) (ha : DA X W [a, b] f) (hs : starEach [a, b] X.env = (false, eval a X.env) :: starEach [b] X.env := by rfl)
    (hpl : (backTo pos (starEach [b] X.env)).any (·.1) = false := by rfl) (hg : Gl X "zip" := by rfl) :
    DI X W (.Tuple elts kk tpos) (.Call (.Name "zip" p) [a, b] [] pos) (eBind f gZip) := by
  refine pi_imp (pi_zip hg hm ha hs hpl) ?_
  rintro σ H R ⟨S, env, z⟩
  refine ⟨S, env, (At.bind (R := RAl X.K) z).imp fun vs H1 ⟨as, S1, e1, r, st, z1⟩ => ?_⟩
  unfold gZip at z1
  split at z1
  · split at z1
    · rename_i d d' ds es hd hd'
      obtain ⟨v, r0, rfl, rv, w, r1, rfl, rw', e0⟩ := r
      have e0' : r1 = [] := e0
      subst e0'
      obtain ⟨a, xs, rfl, hq, rr⟩ := lsOf_rep hd rv
      obtain ⟨b, ys, rfl, hq2, rr2⟩ := lsOf_rep hd' rw'
      exact ⟨a, b, xs, ys, rfl, (Le.of z1.rel.sub).sqL hq, (Le.of z1.rel.sub).sqL hq2, z1.ret (itOk_zip hq rr hq2 rr2)⟩
    · exact (z1.none rfl).elim
  · exact (z1.none rfl).elim
end
/-! ### an own object that from now on is only read -/
def eFrz (i : Nat) : EF D := fun e => match e.sl[i]? with
  | some (some (.v d)) => some (.ok d, e)
  | some (some (.o m)) => match m.d with
    | some d => some (.ok d, e.set i (some (.v d)))
    | none => none
  | _ => none
theorem de_frz {X : Cx} {W : WX} (i : Nat) {x : Str} {pos : Pos} (hN : X.N[i]? = some x := by rfl) (hv : Vis X.env.scope x := by first | exact Or.inl rfl | exact Or.inr (Or.inl rfl) | exact Or.inr (Or.inr rfl))
    (hd : (x == ("__debug__" : Str)) = false := by decide) (hcd : (x == ("__classdict__" : Str)) = false := by decide) : DE X W (.Name x pos) (eFrz i) := by
  refine pe_imp (pe_var hN hv hd hcd) ?_
  rintro σ H Q ⟨S, env, r, env', rel, e, q⟩
  unfold eFrz at e
  split at e
  · rename_i d hd
    cases e
    obtain ⟨v, e1, e2⟩ := rel.val i d hd
    exact ⟨v, e1, q S H rel.step v e2⟩
  · rename_i m hm
    split at e
    · rename_i d hd
      cases e
      obtain ⟨S', st⟩ := rel.frz hm hd
      obtain ⟨v, e1, e2⟩ := st.rel.val i d (List.getElem?_set_self (lt_of_at hm))
      exact ⟨v, e1, q S' H st v e2⟩
    · cases e
  · cases e
end Mir

namespace Mir
open PySem PySem.Spec PyProof.Rows L2
/-! ## slots wiped -/
theorem wipe_in {σ : St} {i : Nat} (hi : i < σ.length) : ∀ {vs : List Nat}, i ∈ vs → (wipe σ vs)[i]? = some none
  | v :: vs, h => by
    unfold wipe
    by_cases e : v = i
    · subst e
      exact List.getElem?_set_self (by rw [wipe_length]; exact hi)
    · rw [List.getElem?_set_ne e]
      rcases List.mem_cons.mp h with h | h
      · exact absurd h.symm e
      · exact wipe_in hi h
theorem wipe_eq {σ τ : St} {vs : List Nat} (hl : σ.length = τ.length) (h : ∀ j, j ∉ vs → σ[j]? = τ[j]?) : wipe σ vs = wipe τ vs := by
  apply List.ext_getElem?
  intro j
  by_cases hj : j ∈ vs
  · by_cases hb : j < σ.length
    · rw [wipe_in hb hj, wipe_in (by rw [← hl]; exact hb) hj]
    · rw [List.getElem?_eq_none (by rw [wipe_length]; omega), List.getElem?_eq_none (by rw [wipe_length]; omega)]
  · rw [wipe_out hj, wipe_out hj, h j hj]
theorem wipe_set {σ : St} {vs : List Nat} {i : Nat} {x : Option V} (hi : i ∈ vs) : wipe (σ.set i x) vs = wipe σ vs :=
  wipe_eq (by simp) fun j hj => by rw [List.getElem?_set_ne (fun e => hj (by rw [← e]; exact hi))]
theorem wipe_idem {σ : St} {vs : List Nat} : wipe (wipe σ vs) vs = wipe σ vs := wipe_eq (wipe_length _ _) fun j hj => wipe_out hj
def wipeL (e : SLs) : List Nat → SLs
  | [] => e
  | v :: vs => (wipeL e vs).set v none
abbrev wipeE (e : ME) (vs : List Nat) : ME := ⟨wipeL e.sl vs, e.ce⟩
theorem wipeL_some {e : SLs} {i : Nat} {s : Sl} : ∀ {vs : List Nat}, (wipeL e vs)[i]? = some (some s) → e[i]? = some (some s) ∧ i ∉ vs
  | [], h => ⟨h, by simp⟩
  | v :: vs, h => by
    unfold wipeL at h
    by_cases hv : v = i
    · subst hv
      have := set_self h
      cases this
    · rw [List.getElem?_set_ne hv] at h
      obtain ⟨h1, h2⟩ := wipeL_some h
      exact ⟨h1, by simp [h2, Ne.symm hv]⟩
theorem wipeE_some {e : ME} {i : Nat} {s : Sl} {vs : List Nat} (h : (wipeE e vs).sl[i]? = some (some s)) : e.sl[i]? = some (some s) ∧ i ∉ vs := wipeL_some h
section
variable {K : PySem.W.Frag} {S S' : SS} {env env' : ME} {σ σ' τ τ' : St} {H H' : Hp}
theorem Rel.wipe (r : Rel K S env σ H) : ∀ {vs : List Nat}, (∀ i ∈ vs, NotB env i) → Step K S env σ H S (wipeE env vs) (wipe σ vs) H
  | [], _ => r.step
  | v :: vs, h => by
    have st := Rel.wipe r (vs := vs) fun i hi => h i (List.mem_cons_of_mem _ hi)
    refine st.trans (st.rel.forget (i := v) fun m e => ?_)
    exact h v List.mem_cons_self m (wipeE_some e).1
/-- slots of which nothing is said may differ -/
theorem Step.off (st : Step K S env τ H S' env' τ' H') (h : ∀ (i : Nat) (s : Sl), env.sl[i]? = some (some s) → σ[i]? = τ[i]?) (h' : ∀ (i : Nat) (s : Sl), env'.sl[i]? = some (some s) → σ'[i]? = τ'[i]?) (l : σ.length = τ.length) (l' : σ'.length = τ'.length) : Step K S env σ H S' env' σ' H' := by
  have ad : ∀ {l : Plc} {s : Sl} {a : Addr}, env.at l = some s → (Adr τ S l a ↔ Adr σ S l a) := fun {l s a} e => by
    cases l with
    | s i =>
      show τ[i]? = _ ↔ σ[i]? = _
      rw [h i _ (at_s.mp e)]
    | c n => exact Iff.rfl
  have ad' : ∀ {l : Plc} {s : Sl} {a : Addr}, env'.at l = some s → (Adr τ' S' l a ↔ Adr σ' S' l a) := fun {l s a} e => by
    cases l with
    | s i =>
      show τ'[i]? = _ ↔ σ'[i]? = _
      rw [h' i _ (at_s.mp e)]
    | c n => exact Iff.rfl
  have ow : ∀ {a : Addr}, OwnO env τ S a → OwnO env σ S a := fun ⟨i, m, e1, e2⟩ => ⟨i, m, e1, (ad e1).mp e2⟩
  refine ⟨⟨st.rel.len.trans l'.symm, st.rel.nlen, st.rel.sub, fun i d e => ?_, fun i n e => ?_, fun l m e => ?_, fun l k m m' a e1 e2 e3 e4 => ?_⟩, st.le, st.nm, fun b hb => ?_, fun b o e hS n => st.frame b o e hS fun ⟨i, m, ⟨s, e1, em⟩, e2⟩ => n ⟨i, m, ⟨s, e1, em⟩, (ad e1).mp e2⟩, fun i m e => ?_, st.borr, fun a ha => ?_, ?_, st.keep⟩
  · rw [h' i _ e]; exact st.rel.val i d e
  · rw [h' i _ e]; exact st.rel.hnd i n e
  · obtain ⟨s, e0, em⟩ := id e
    obtain ⟨a, o, q1, q2⟩ := st.rel.obj l m e
    exact ⟨a, o, (ad' e0).mp q1, q2⟩
  · obtain ⟨s, q, _⟩ := id e1
    obtain ⟨s', q', _⟩ := id e2
    exact st.rel.dis l k m m' a e1 e2 ((ad' q).mpr e3) ((ad' q').mpr e4)
  · rcases st.fresh b hb with z | z | z
    · exact .inl z
    · exact .inr (.inl z)
    · exact .inr (.inr (ow z))
  · obtain ⟨⟨m', q1⟩, q2⟩ := st.bor i m e
    exact ⟨⟨m', q1⟩, by rw [h' i _ q1, h i _ e]; exact q2⟩
  · obtain ⟨i, m, e1, e2⟩ := ha
    rcases st.own a ⟨i, m, e1, (ad' e1).mpr e2⟩ with z | z
    · exact .inl (ow z)
    · exact .inr z
  · rw [l, l']; exact st.len
theorem less_upd {p : Addr} {o : HO} : less (upd H p o) p = less H p := by
  funext b
  unfold less upd
  by_cases e : b = p <;> simp [e]
theorem less_id {p : Addr} (h : H p = none) : less H p = H := by
  funext b
  unfold less
  by_cases e : b = p
  · subst e; simp [h]
  · simp [e]
/-- a step beside an object that is no slot's -/
theorem Step.lessen (st : Step K S env σ H S' env' σ' H') {p : Addr} {o : HO} (hp : H p = some o) (hS : S.hp p = none) (n : ¬ Own env σ S p) : Step K S env σ (less H p) S' env' σ' (less H' p) := by
  have nO : ¬ OwnO env σ S p := fun h => n h.own
  have hS' : S'.hp p = none := by
    cases e : S'.hp p with
    | none => rfl
    | some u =>
      rcases st.fresh p (by rw [e]; simp) with z | z | z
      · exact absurd hS z
      · rw [hp] at z; cases z
      · exact absurd z nO
  have n' : ¬ Own env' σ' S' p := fun w => by
    rcases own_cases w with w | ⟨i, m', e1, e3⟩
    · rcases st.own p w with z | z
      · exact nO z
      · rw [hp] at z; cases z
    · obtain ⟨m0, q⟩ := st.borr i m' e1
      obtain ⟨_, q2⟩ := st.bor i m0 q
      exact n ⟨.s i, m0, ⟨_, at_s.mpr q, rfl⟩, by show σ[i]? = _; rw [← q2]; exact e3⟩
  refine ⟨⟨st.rel.len, st.rel.nlen, fun b u e => ?_, st.rel.val, st.rel.hnd, fun i m e => ?_, st.rel.dis⟩, st.le, st.nm, fun b hb => ?_, fun b u e nS nb => ?_, st.bor, st.borr, fun a ha => ?_, st.len, st.keep⟩
  · have hb : b ≠ p := fun z => by subst z; rw [hS'] at e; cases e
    rw [less_ne hb]; exact st.rel.sub b u e
  · obtain ⟨a, u, e1, e2, e3, e4⟩ := st.rel.obj i m e
    have ha : a ≠ p := fun z => by subst z; exact n' ⟨i, m, e, e1⟩
    exact ⟨a, u, e1, by rw [less_ne ha]; exact e2, e3, e4⟩
  · rcases st.fresh b hb with z | z | z
    · exact .inl z
    · refine .inr (.inl ?_)
      by_cases e : b = p
      · subst e; exact less_same
      · rw [less_ne e]; exact z
    · exact .inr (.inr z)
  · have hb : b ≠ p := fun z => by subst z; rw [less_same] at e; cases e
    rw [less_ne hb] at e
    rw [less_ne hb]
    exact st.frame b u e nS nb
  · rcases st.own a ha with z | z
    · exact .inl z
    · refine .inr ?_
      by_cases e : a = p
      · subst e; exact less_same
      · rw [less_ne e]; exact z
end
/-! ## targets that store into vs -/
def trGv (vs : List Nat) (K : PySem.W.Frag) (f : TF) : TG := fun v σ H Q => ∃ S env d env', Rel K S env σ H ∧ Rep K S d v ∧ f d env = some env' ∧ ∀ S' σ' H', Step K S env σ H S' env' σ' H' → S' = S → H' = H → wipe σ' vs = wipe σ vs → Q σ' H'
def DGv (X : Cx) (vs : List Nat) (tg : Expr) (f : TF) : Prop := PG X tg (trGv vs X.K f)
section
variable {X : Cx} {W : WX} {pos : Pos} {vs : List Nat}
theorem dgv_name (i : Nat) {x : Str} (hN : X.N.Nodup) (hm : i ∈ vs := by decide) (hi : X.N[i]? = some x := by rfl) (hx : Loc X.env.scope x := by first | exact Or.inl rfl | exact Or.inr rfl) (hf : X.fn x = true ∨ X.env.scope.names.lookup x = some .local := by first | exact .inl rfl | exact .inr rfl | assumption) : DGv X vs (.Name x pos) (gSl i) := by
  refine pg_imp (pg_name hN hi hx hf) ?_
  rintro v σ H Q ⟨S, env, d, env', rel, rd, e, q⟩
  unfold gSl at e
  cases hb : isB env i with
  | true => rw [hb] at e; cases e
  | false =>
    rw [hb] at e
    cases e
    exact q _ _ _ (rel.setV (notB_of hb) rd) rfl rfl (wipe_set hm)
def trGvs (vs : List Nat) (K : PySem.W.Frag) (fs : List TF) : TGs := fun ws σ H Q => ∃ S env ds env', Rel K S env σ H ∧ Reps K S ds ws ∧ gSls fs ds env = some env' ∧ ∀ S' σ' H', Step K S env σ H S' env' σ' H' → S' = S → H' = H → wipe σ' vs = wipe σ vs → Q σ' H'
def DGvs (X : Cx) (vs : List Nat) (tgs : List Expr) (fs : List TF) : Prop := PGs X tgs (trGvs vs X.K fs)
theorem dgvs_nil : DGvs X vs [] [] := by
  refine pgs_imp pgs_nil ?_
  rintro ws σ H Q ⟨S, env, ds, env', rel, rd, e, q⟩
  cases ds with
  | nil => cases rd; cases e; exact ⟨rfl, q _ _ _ rel.step rfl rfl rfl⟩
  | cons d ds => cases e
theorem dgvs_cons {e : Expr} {es : List Expr} {f : TF} {fs : List TF} (h1 : DGv X vs e f) (h2 : DGvs X vs es fs) (hs : (assignEach (e :: es) X.env).map (·.2) = assign e X.env :: (assignEach es X.env).map (·.2) := by rfl) : DGvs X vs (e :: es) (f :: fs) := by
  refine pgs_imp (pgs_cons h1 h2 hs) ?_
  rintro ws σ H Q ⟨S, env, ds, env', rel, rd, e, q⟩
  cases ds with
  | nil => cases e
  | cons d ds =>
    obtain ⟨v, r, rfl, r1, r2⟩ := rd
    unfold gSls at e
    split at e
    · rename_i e1 he
      refine ⟨v, r, rfl, S, env, d, e1, rel, r1, he, fun S' σ' H' st es eh ew => ?_⟩
      subst es eh
      exact ⟨_, e1, ds, env', st.rel, r2, e, fun S2 σ2 H2 st2 es2 eh2 ew2 => q S2 σ2 H2 (st.trans st2) es2 eh2 (ew2.trans ew)⟩
    · cases e
theorem dgv_tup {es : List Expr} {k : Nat} {fs : List TF} (hc : X.calm = true) (h : DGvs X vs es fs) (hn : (assignEach es X.env).length = fs.length := by rfl) (hst : (assignEach es X.env).findIdx? (·.1) = none := by rfl) : DGv X vs (.Tuple es k pos) (gTupM fs) := by
  refine pg_imp (pg_tup hc h hn hst) ?_
  rintro v σ H Q ⟨S, env, d, env', rel, rd, e, q⟩
  cases d with
  | tup ds =>
    unfold gTupM at e
    dsimp only at e
    split at e
    · rename_i hl
      obtain ⟨a, ws, rfl, hq, hz, rr⟩ := rd
      exact ⟨a, ws, rfl, ((Le.of rel.sub).tupAt hq).sq, by rw [← Reps.len rr]; exact hl, S, env, ds, env', rel, rr, e, q⟩
    · cases e
  | _ => cases e
/-! ## [el for tg in iter if tst] -/
abbrev W0 : WX := fun _ _ _ _ => False
def cLoop (vs : List Nat) (tgt : TF) (tst : EF Bool) (el : EF D) : List D → List D → ME → Option (List D × ME)
  | [], acc, e => some (acc, e)
  | d :: ds, acc, e => match tgt d e with
    | some e1 => match tst e1 with
      | some (.ok true, e2) => match el e2 with
        | some (.ok x, e3) => cLoop vs tgt tst el ds (acc ++ [x]) (wipeE e3 vs)
        | _ => none
      | some (.ok false, e2) => cLoop vs tgt tst el ds acc (wipeE e2 vs)
      | _ => none
    | none => none
def offAt (vs : List Nat) (e : ME) : Bool := vs.all fun i => match e.sl[i]? with
  | some (some _) => false
  | _ => true
theorem offAt_of {vs : List Nat} {e : ME} (h : offAt vs e = true) : ∀ i s, e.sl[i]? = some (some s) → i ∉ vs := fun i s he hi => by
  have := List.all_eq_true.mp h i hi
  rw [he] at this
  cases this
def eLc (vs : List Nat) (fi : EF (List D)) (tgt : TF) (tst : EF Bool) (el : EF D) : EF FR := eBind fi fun ds e => if offAt vs e = true ∧ ds.length ≤ sizeLine then match cLoop vs tgt tst el ds [] e with
    | some (acc, e') => some (.ok (.o (.lst acc)), e')
    | none => none
  else none
theorem reps_snoc {K : PySem.W.Frag} {S : Hp} {d : D} {v : V} : ∀ {ds : List D} {vs : List V}, Reps K S ds vs → Rep K S d v → Reps K S (ds ++ [d]) (vs ++ [v])
  | [], vs, h, r => by
    have h' : vs = [] := h
    subst h'
    exact ⟨v, [], rfl, r, rfl⟩
  | a :: as, vs, h, r => by
    obtain ⟨w, ws, rfl, p, q⟩ := h
    exact ⟨w, ws ++ [v], rfl, p, reps_snoc q r⟩
theorem lc_tr {K : PySem.W.Frag} {fi : EF (List D)} {tgt : TF} {tst : EF Bool} {el : EF D} {σ : St} {H : Hp} {Q : VK} (h : trF K W (eLc vs fi tgt tst el) σ H Q) :
    tLc (tr K W (RI K) fi) (trGv vs K tgt) (tr K W0 RB tst) (tr K W0 (RD K) el) vs σ H Q := by
  obtain ⟨S, env, r, env', rel, ef, q⟩ := h
  unfold eLc eBind at ef
  refine ⟨S, env, ?_⟩
  cases ea : fi env with
  | none => rw [ea] at ef; cases ef
  | some p =>
    obtain ⟨r1, e1⟩ := p
    rw [ea] at ef
    cases r1 with
    | ex x =>
      have ef' : some (Res.ex x, e1) = some (r, env') := ef
      cases ef'
      exact ⟨.ex x, _, rel, ea, q⟩
    | ok ds =>
      refine ⟨.ok ds, e1, rel, ea, fun S1 H1 st J io L hL => ?_⟩
      dsimp only at ef
      split at ef
      · rename_i hc
        obtain ⟨hoff, hlen⟩ := hc
        split at ef
        · rename_i out e' hcl
          cases ef
          have hoff := offAt_of hoff
          have l0 : (wipe σ vs).length = σ.length := wipe_length _ _
          have st0 : Step K S1 e1 (wipe σ vs) H1 S1 e1 (wipe σ vs) H1 := st.rel.step.off (fun i s h => wipe_out (hoff i s h)) (fun i s h => wipe_out (hoff i s h)) l0 l0
          refine ⟨fun i m H => m = ds.length - i ∧ i ≤ ds.length ∧ ∃ S2 : SS, ∃ e2 acc vacc, Step K S1 e1 (wipe σ vs) H1 S2 e2 (wipe σ vs) (less H L) ∧ H L = some (.lst vacc) ∧ Reps K S2 acc vacc ∧ acc.length ≤ i ∧ (∀ i s, e2.sl[i]? = some (some s) → i ∉ vs) ∧ cLoop vs tgt tst el (ds.drop i) acc e2 = some (out, env'),
            ⟨ds.length, rfl, Nat.zero_le _, S1, e1, [], [], by rw [less_upd, less_id hL]; exact st0, upd_same, rfl, Nat.zero_le _, hoff, hcl⟩, ?_⟩
          rintro i m H2 ⟨rfl, hi, S2, en2, acc, vacc, st2, hH, rr, hal, hoff2, hcl2⟩
          have bst : Step K S2 en2 (wipe σ vs) (less H2 L) S2 en2 (wipe σ vs) H2 := by
            have := st2.rel.beside (p := L) (o := .lst vacc) less_same
            rwa [upd_less hH] at this
          have nS : S2.hp L = none := by
            cases e : S2.hp L with
            | none => rfl
            | some u =>
              have := st2.rel.sub _ _ e
              rw [less_same] at this
              cases this
          have nO : ¬ Own en2 (wipe σ vs) S2 L := by
            rintro ⟨j, m, h1, h2⟩
            obtain ⟨a, o, q1, q2, _, _⟩ := st2.rel.obj j m h1
            have := q1.inj h2
            subst this
            rw [less_same] at q2
            cases q2
          by_cases hlt : i < ds.length
          · rw [List.drop_eq_getElem_cons hlt] at hcl2
            unfold cLoop at hcl2
            refine .inr ⟨io.goes i S2 en2 _ H2 hlt st2.le bst.rel, fun H3 => i + 1 ≤ ds.length ∧ ∃ S2 : SS, ∃ en2 acc vacc, Step K S1 e1 (wipe σ vs) H1 S2 en2 (wipe σ vs) (less H3 L) ∧ H3 L = some (.lst vacc) ∧ Reps K S2 acc vacc ∧ acc.length ≤ i + 1 ∧ (∀ i s, en2.sl[i]? = some (some s) → i ∉ vs) ∧ cLoop vs tgt tst el (ds.drop (i + 1)) acc en2 = some (out, env'),
              fun H3 h3 => ⟨ds.length - (i + 1), by omega, rfl, h3⟩, fun x H3 hy => ?_⟩
            obtain ⟨S3, d, st3, hd, rd, _⟩ := io.yields i S2 en2 _ H2 x H3 hlt st2.le bst.rel hy
            rw [List.getElem?_eq_getElem hlt] at hd
            cases hd
            split at hcl2
            · rename_i e3 hg3
              refine ⟨S3, en2, _, e3, st3.rel, rd, hg3, fun S4 σ4 H4 st4 es eh ew => ?_⟩
              have ew' : wipe σ4 vs = wipe σ vs := ew.trans wipe_idem
              have st24 := st3.trans st4
              have fin : ∀ (S5 : SS) (e5 : ME) (H5 : Hp), Step K S2 en2 (wipe σ vs) H2 S5 e5 σ4 H5 → Step K S1 e1 (wipe σ vs) H1 S5 (wipeE e5 vs) (wipe σ vs) (less H5 L) ∧ H5 L = some (.lst vacc) := fun S5 e5 H5 st5 => by
                refine ⟨?_, st5.frame L _ hH nS nO⟩
                have a := st2.trans (st5.lessen hH nS nO)
                have b := a.rel.wipe (vs := vs) fun j hj m hm => by
                  obtain ⟨m', hm'⟩ := a.borr j m hm
                  exact hoff j _ hm' hj
                rw [ew'] at b
                exact a.trans b
              refine ⟨ew', ?_⟩
              split at hcl2
              · rename_i e4 ht4
                refine ⟨S4, e3, .ok true, e4, st4.rel, ht4, fun S5 H5 st5 b hb => ?_⟩
                have hb' : true = b := hb
                subst hb'
                split at hcl2
                · rename_i y e5 hel
                  refine iteT ⟨S5, e4, .ok y, e5, st5.rel, hel, fun S6 H6 st6 w rw6 => ?_⟩
                  obtain ⟨f1, f2⟩ := fin S6 e5 H6 ((st24.trans st5).trans st6)
                  refine ⟨vacc, f2, by rw [← Reps.len rr]; omega, hlt, S6, wipeE e5 vs, acc ++ [y], vacc ++ [w], by rw [less_upd]; exact f1, upd_same, reps_snoc (Reps.mono ((st24.trans st5).trans st6).le _ _ rr) rw6, by simp; exact hal, fun j s h => (wipeE_some h).2, hcl2⟩
                · cases hcl2
              · rename_i e4 ht4
                refine ⟨S4, e3, .ok false, e4, st4.rel, ht4, fun S5 H5 st5 b hb => ?_⟩
                have hb' : false = b := hb
                subst hb'
                obtain ⟨f1, f2⟩ := fin S5 e4 H5 (st24.trans st5)
                exact iteF ⟨hlt, S5, wipeE e4 vs, acc, vacc, f1, f2, Reps.mono (st24.trans st5).le _ _ rr, Nat.le_succ_of_le hal, fun j s h => (wipeE_some h).2, hcl2⟩
              · cases hcl2
            · cases hcl2
          · have e : i = ds.length := by omega
            subst e
            rw [List.drop_length] at hcl2
            have hcl3 : some (acc, en2) = some (out, env') := hcl2
            cases hcl3
            refine .inl ⟨io.stops S2 _ _ H2 st2.le bst.rel, ?_⟩
            have full := st.trans (st2.off (fun i s h => (wipe_out (hoff i s h)).symm) (fun i s h => (wipe_out (hoff2 i s h)).symm) l0.symm l0.symm)
            have z := q S2 (less H2 L) full L (.lst vacc) less_same ⟨vacc, rfl, by omega, rr⟩
            rwa [upd_less hH] at z
        · cases ef
      · cases ef
def DTs (X : Cx) (W : WX) (ifs : List Expr) (f : EF Bool) : Prop := PTs X ifs (tr X.K W RB f)
theorem pts_imp {ifs : List Expr} {t t' : TT} (h : PTs X ifs t) (w : ∀ σ H Q, t' σ H Q → t σ H Q) : PTs X ifs t' := ⟨fun pins s σ H Q I q => h.run pins s σ H Q I (w σ H Q q)⟩
theorem dts_nil : DTs X W [] (eRet true) := by
  refine pts_imp pts_nil ?_
  rintro σ H Q ⟨S, env, z⟩
  exact At.ret (R := RB) z rfl
theorem dts_one {c : Expr} {f : EF Bool} (h : DT X W c f) : DTs X W [c] f := pts_one h
theorem df_lc {elt tg iter : Expr} {ifs : List Expr} {scope : Scope} {own : List (Str × Nat)} {fi : EF (List D)} {tgt : TF} {tst : EF Bool} {el : EF D} (hc : X.calm = true) (hN : X.N.Nodup) (hi : DI X W tg iter fi) (ok : BlkOk X.N X.env.scope scope own)
    (hg : ∀ (s : Shared) (H : Hp) (C : Addr) (cl : List (Str × Addr)) (fp : List Addr), DGv (X.blk s H scope (compEnvC scope cl C X.env) fp) (own.map (·.2)) tg tgt)
    (ht : ∀ (s : Shared) (H : Hp) (C : Addr) (cl : List (Str × Addr)) (fp : List Addr), DTs (X.blk s H scope (compEnvC scope cl C X.env) fp) W0 ifs tst)
    (he : ∀ (s : Shared) (H : Hp) (C : Addr) (cl : List (Str × Addr)) (fp : List Addr), DE (X.blk s H scope (compEnvC scope cl C X.env) fp) W0 elt el) (hs : ∀ x, foldedSetIterable iter X.env x = pure x := by intro _; rfl) :
    DF X W (.ListComp elt [⟨tg, iter, ifs, 0⟩] scope pos) (eLc (own.map (·.2)) fi tgt tst el) := pe_imp (pe_lc (g := trGv (List.map (fun p : Str × Nat => p.2) own) X.K tgt) (tt := tr X.K W0 RB tst) (te := tr X.K W0 (RD X.K) el) hc hN hi ok hg ht he hs) fun σ H Q h => lc_tr h
/-- name = [..], on the name's line -/
theorem ds_setLc (i : Nat) {y : Str} {py spos : Pos} {elt tg iter : Expr} {ifs : List Expr} {scope : Scope} {own : List (Str × Nat)} {fi : EF (List D)} {tgt : TF} {tst : EF Bool} {el : EF D} (hc : X.calm = true) (hN : X.N.Nodup) (hi : DI X W tg iter fi) (ok : BlkOk X.N X.env.scope scope own)
    (hg : ∀ (s : Shared) (H : Hp) (C : Addr) (cl : List (Str × Addr)) (fp : List Addr), DGv (X.blk s H scope (compEnvC scope cl C X.env) fp) (own.map (·.2)) tg tgt)
    (ht : ∀ (s : Shared) (H : Hp) (C : Addr) (cl : List (Str × Addr)) (fp : List Addr), DTs (X.blk s H scope (compEnvC scope cl C X.env) fp) W0 ifs tst)
    (he : ∀ (s : Shared) (H : Hp) (C : Addr) (cl : List (Str × Addr)) (fp : List Addr), DE (X.blk s H scope (compEnvC scope cl C X.env) fp) W0 elt el)
    (hsw : swapsWith (.ListComp elt [⟨tg, iter, ifs, 0⟩] scope pos) (some (.Name y py)) spos.line X.env = pure true) (hy : X.N[i]? = some y := by rfl) (hyl : X.env.scope.names.lookup y = some .local := by rfl) (hs : ∀ x, foldedSetIterable iter X.env x = pure x := by intro _; rfl) :
    DS X W (.Assign [.Name y py] (.ListComp elt [⟨tg, iter, ifs, 0⟩] scope pos) spos) (sSetF i (eLc (own.map (·.2)) fi tgt tst el)) := by
  refine ps_imp (ps_setLc (g := trGv (List.map (fun p : Str × Nat => p.2) own) X.K tgt) (tt := tr X.K W0 RB tst) (te := tr X.K W0 (RD X.K) el) hc hN hy hyl hsw hi ok hg ht he hs) ?_
  rintro Dn σ H ⟨S, env, z⟩
  exact lc_tr (trF_bind z fun r S1 e1 H1 z1 => putF_end z1)
end
end Mir

namespace Mir
open PySem PySem.Spec PyProof.Rows L2
section
variable {X : Cx} {W : WX} {pos : Pos}
/-! ## repr of a truth, an int -/
theorem call_reprP : CallR X (.builtin "repr") (fun xs H Q => (∃ b : Bool, xs = [.bl b] ∧ Q (.str (if b then "True" else "False")) H) ∨ ∃ i, xs = [.int i] ∧ i.natAbs.log2 < 1920 ∧ Q (.str (toString i)) H) := by
  intro pins s σ H xs us Q I r h
  rcases h with ⟨b, rfl, q⟩ | ⟨i, rfl, hz, q⟩
  · obtain ⟨u, rfl, t⟩ := vals1 r
    obtain rfl : u = Value.bool b := t
    exact PySem.P.repr_of_bool ⟨.str _, H, I.tok _, ⟨_, rfl⟩, q⟩
  · obtain ⟨u, rfl, t, rfl⟩ := vals1 r
    exact PySem.P.repr_of_int hz ⟨.str _, H, I.tok _, ⟨_, rfl⟩, q⟩
def oRep : D → Option D
  | .bl true => some (.str "True")
  | .bl false => some (.str "False")
  | .int i => if i.natAbs.log2 < 1920 ∧ (toString i : Str).length ≤ sizeLine then some (.str (toString i)) else none
  | _ => none
theorem de_repr {p : Pos} {e : Expr} {es : List Expr} {fas : EF (List AV)} (hm : X.mg "repr" = none) (ha : DA X W (e :: es) fas) (hg : Gl X "repr" := by rfl) (he : starEach (e :: es) X.env = (false, eval e X.env) :: starEach es X.env := by rfl) (hpl : (backTo pos (starEach es X.env)).any (·.1) = false := by rfl) :
    DE X W (.Call (.Name "repr" p) (e :: es) [] pos) (eBind fas (g1 fun a => eOn a oRep)) := by
  refine de_b1 call_reprP hm rfl ha (fun d v S H Q x r h q => ?_) (fun d x h S S' w r => ?_) hg (by decide) (by decide) he hpl
  · cases d with
    | bl b =>
      obtain rfl : v = V.bl b := r
      refine .inl ⟨b, rfl, ?_⟩
      cases b with
      | true => cases h; exact q _ fun _ => ⟨rfl, by decide⟩
      | false => cases h; exact q _ fun _ => ⟨rfl, by decide⟩
    | int i =>
      obtain rfl : v = V.int i := r
      unfold oRep at h
      dsimp only at h
      split at h
      · rename_i hz
        cases h
        exact .inr ⟨i, rfl, hz.1, q _ fun _ => ⟨rfl, hz.2⟩⟩
      · cases h
    | _ => cases h
  · cases d with
    | bl b => cases b <;> (cases h; exact r)
    | int i =>
      unfold oRep at h
      dsimp only at h
      split at h
      · cases h; exact r
      · cases h
    | _ => cases h
/-! ## {} -/
theorem df_dict0 : DF X W (.Dict [] [] pos) (eRet (.o (.dK []))) := by
  refine pe_imp pe_dnewK ?_
  rintro σ H Q ⟨S, env, r, env', rel, e, q⟩
  cases e
  exact fun p hp => q S H rel.step p _ hp ⟨[], rfl, Nat.zero_le _, rfl⟩
/-! ## -e -/
def oNeg : D → EF D
  | .int i => eRet (.int (-i))
  | _ => fun _ => none
theorem de_neg {e : Expr} {f : EF D} (h : DE X W e f) : DE X W (.UnaryOp .USub e pos) (eBind f oNeg) := by
  refine pe_imp (pe_un un_neg h) ?_
  rintro σ H Q ⟨S, env, z⟩
  refine ⟨S, env, (At.bind (R := RD X.K) z).imp fun v H1 ⟨d, S1, e1, r, st, z1⟩ => ?_⟩
  cases d with
  | int i => exact ⟨i, r, z1.ret rfl⟩
  | _ => exact (z1.none rfl).elim
/-! ## in -/
def oIn (d c : D) : Option D := match oInS d c with
  | some x => some x
  | none => oInL d c
abbrev rIn2 (K : PySem.W.Frag) : R2 := fun x y H Q => (∃ (c : Nat) (z : Str), x = .str ⟨#[c]⟩ ∧ y = .str z ∧ Q (.bl (decide (c ∈ z.cps.toList))) H) ∨ rInD K x y H Q
theorem op_in2 (hu : X.A.units + 65 < cLine) : OpR X (compareOp .In) (rIn2 X.K) := OpR.or op_in_sign (op_inD hu)
theorem ok_in2 {K : PySem.W.Frag} : OpOk K (rIn2 K) oIn := OpOk.or ok_inS ok_inL
/-- not in a list -/
def oNotIn (d c : D) : Option D := match oInL d c with
  | some (.bl b) => some (.bl (!b))
  | _ => none
theorem ok_notInL {K : PySem.W.Frag} : OpOk K (rNotInD K) oNotIn := by
  intro S env σ H Q d d' v u x rel r1 r2 e q
  cases d' with
  | lst ds =>
    unfold oNotIn oInL at e
    dsimp only at e
    split at e
    · rename_i b hb
      cases e
      split at hb
      · rename_i p l hp hl
        split at hb
        · rename_i hs
          cases hb
          refine ⟨p, l, dp_one rel.sub r1 hp, dp_one rel.sub r2 ?_, hs.1, hs.2, q S H rel.step _ rfl⟩
          unfold toPy
          rw [hl]
        · cases hb
      · cases hb
    · cases e
  | _ => cases e
theorem op_mul2 : OpR X (binaryOp .Mult) (fun x y H Q => rI CMulW (fun i j => .int (i * j)) x y H Q ∨ rI CMul (fun i j => .int (i * j)) x y H Q) := OpR.or op_mulW op_mul
/-! ## short forms of the rules, for the printed derivations -/
variable {a b : Expr} {fa fb : EF AV}
theorem b_add (ha : DV X W a fa) (hb : DV X W b fb) : DE X W (.BinOp a .Add b pos) (e2 fa fb fun x y => eOn2 x y oAdd) := de_bin op_add3 ok_add ha hb
theorem b_sub (ha : DV X W a fa) (hb : DV X W b fb) : DE X W (.BinOp a .Sub b pos) (e2 fa fb fun x y => eOn2 x y oSub) := de_bin op_sub ok_sub ha hb
theorem b_mul (ha : DV X W a fa) (hb : DV X W b fb) : DE X W (.BinOp a .Mult b pos) (e2 fa fb fun x y => eOn2 x y oMul) := de_bin op_mul2 ok_mul ha hb
theorem b_fdiv (ha : DV X W a fa) (hb : DV X W b fb) : DE X W (.BinOp a .FloorDiv b pos) (e2 fa fb fun x y => eOn2 x y oFdiv) := de_bin op_fdivW ok_fdiv ha hb
theorem b_mod (ha : DV X W a fa) (hb : DV X W b fb) : DE X W (.BinOp a .Mod b pos) (e2 fa fb fun x y => eOn2 x y oMod) := de_bin op_mod ok_mod ha hb
theorem b_pow (ha : DV X W a fa) (hb : DV X W b fb) : DE X W (.BinOp a .Pow b pos) (e2 fa fb fun x y => eOn2 x y oPow) := de_bin op_pow ok_pow ha hb
/-- a comparison: its meaning, as a value and as a test -/
structure CmpR (X : Cx) (o : CmpOp) (op : D → D → Option D) : Prop where
  ex : ∃ r, OpR X (compareOp o) r ∧ OpOk X.K r op
theorem c_lt : CmpR X .Lt oLt := ⟨_, op_lt, ok_lt⟩
theorem c_le : CmpR X .LtE oLe := ⟨_, op_le, ok_le⟩
theorem c_gt : CmpR X .Gt oGt := ⟨_, op_gt, ok_gt⟩
theorem c_ge : CmpR X .GtE oGe := ⟨_, op_ge, ok_ge⟩
theorem c_is : CmpR X .Is oIs := ⟨_, op_is2, ok_is⟩
theorem c_isnot : CmpR X .IsNot oIsNot := ⟨_, op_isnot2, ok_isnot⟩
theorem c_eq (r : RoomL X.A) : CmpR X .Eq oEq := ⟨_, op_eqD r.units, ok_eq⟩
theorem c_ne (r : RoomL X.A) : CmpR X .NotEq oNe := ⟨_, op_neD r.units, ok_ne⟩
theorem c_in (r : RoomL X.A) : CmpR X .In oIn := ⟨_, op_in2 (by have := r.un; omega), ok_in2⟩
theorem c_notin (r : RoomL X.A) : CmpR X .NotIn oNotIn := ⟨_, op_notInD (by have := r.un; omega), ok_notInL⟩
theorem e_cmp {o : CmpOp} {op : D → D → Option D} (h : CmpR X o op) (ha : DV X W a fa) (hb : DV X W b fb) (hm : behindInMarks o b = false := by rfl) : DE X W (.Compare a [o] [b] pos) (e2 fa fb fun x y => eOn2 x y op) := by
  obtain ⟨r, h1, h2⟩ := h
  exact de_cmpO h1 h2 hm ha hb
theorem t_cmp {o : CmpOp} {op : D → D → Option D} (h : CmpR X o op) (ha : DV X W a fa) (hb : DV X W b fb) (hm : behindInMarks o b = false := by rfl) : DT X W (.Compare a [o] [b] pos) (eT (e2 fa fb fun x y => eOn2 x y op)) := by
  obtain ⟨r, h1, h2⟩ := h
  exact dt_cmpO h1 h2 hm ha hb
end
end Mir
namespace Mir
open PySem PySem.Spec PyProof.Rows L2
section
variable {X : Cx} {W : WX} {pos : Pos} {a b c : Expr} {fa fb fc : EF AV}
theorem e_chain {o o' : CmpOp} {op op' : D → D → Option D} (h : CmpR X o op) (h' : CmpR X o' op') (ha : DV X W a fa) (hb : DV X W b fb) (hc : DV X W c fc)
    (hm : lastMarks [o, o'] [b, c] = false := by with_unfolding_all rfl) : DE X W (.Compare a [o, o'] [b, c] pos) (eChain fa fb fc op op') := by
  obtain ⟨r, h1, h2⟩ := h
  obtain ⟨r', h1', h2'⟩ := h'
  exact de_chain h1 h2 h1' h2' ha hb hc hm
theorem t_chain {o o' : CmpOp} {op op' : D → D → Option D} (h : CmpR X o op) (h' : CmpR X o' op') (ha : DV X W a fa) (hb : DV X W b fb) (hc : DV X W c fc)
    (hm : lastMarks [o, o'] [b, c] = false := by with_unfolding_all rfl) : DT X W (.Compare a [o, o'] [b, c] pos) (eT (eChain fa fb fc op op')) := by
  obtain ⟨r, h1, h2⟩ := h
  obtain ⟨r', h1', h2'⟩ := h'
  exact dt_chain h1 h2 h1' h2' ha hb hc hm
end
end Mir

namespace Mir
open PySem PySem.Spec PyProof.Rows L2
theorem tk0 {X : Cx} : Takes X W0 := fun _ _ x => by
  obtain ⟨_, _, _, _, _, _, _, _, _, _, _, _, _, _, _, _, z⟩ := x
  exact z.elim
theorem cx_none {P : Program} {w : World} {H : Hp} {s : Shared} {e : Value} {s' : Shared} (h : L2.CX P w [] H s (fun _ _ _ => False) e s') : False := by
  obtain ⟨_, _, _, _, _, _, _, _, _, _, _, _, z⟩ := h
  exact z
theorem reps_ints {K : PySem.W.Frag} {S : Hp} : ∀ ns : List Int, Reps K S (ns.map D.int) (ns.map V.int)
  | [] => rfl
  | n :: ns => ⟨.int n, _, rfl, rfl, reps_ints ns⟩
/-- the law answers True -/
theorem law_done {K : PySem.W.Frag} {mf : MF} {ns : List Int} {H : Hp} {a : Addr} (h : ∃ as', mf [.v (.frl (ns.map .int))] [] = some (.ok (.d (.bl true)), as')) (hl : ns.length ≤ 63) (hS : SqL K H a (ns.map V.int)) :
    spM K 1 mf [.ref a] H (fun v _ => v = .bl true) (fun _ _ _ => False) := by
  obtain ⟨⟨as', ce'⟩, h⟩ := h
  have hz : 63 ≤ sizeLine := by decide
  have no : ∀ (l : Plc) (m : MO), ¬ Has ⟨[Sl.v (.frl (ns.map .int))].map some, []⟩ l m := fun l m ⟨s, e1, e2⟩ => by
    cases l with
    | s i =>
      have e1 := at_s.mp e1
      cases i with
      | zero => simp at e1; subst e1; cases e2
      | succ i => simp at e1
    | c n =>
      obtain ⟨m', _, q⟩ := at_c.mp e1
      simp at q
  refine ⟨⟨H, []⟩, _, [], _, as', ce', rfl, fun m hm => ?_, ⟨rfl, rfl, Same.refl H, fun i d e => ?_, fun i n e => ?_, fun i m e => absurd e (no i m), fun i j m m' a e1 e2 e3 e4 => absurd e1 (no i m)⟩, h, fun S' H' st v rv => rv⟩
  · simp at hm
  · cases i with
    | zero =>
      simp at e
      subst e
      exact ⟨.ref a, rfl, a, _, rfl, hS, by simp; omega, reps_ints ns⟩
    | succ i => simp at e
  · cases i with
    | zero => simp at e
    | succ i => simp at e
end Mir

namespace Mir
open PySem PySem.Spec PyProof.Rows L2
/-! ## the mirrors, run by rewriting -/
section
variable {α β γ : Type}
def kB (r : Option (Res α × ME)) (g : α → EF β) : Option (Res β × ME) := match r with
  | some (.ok a, e) => g a e
  | some (.ex x, e) => some (.ex x, e)
  | none => none
@[simp] theorem eRet_k (a : α) (e : ME) : eRet a e = some (.ok a, e) := rfl
@[simp] theorem eBind_k (f : EF α) (g : α → EF β) (e : ME) : eBind f g e = kB (f e) g := rfl
@[simp] theorem kB_ok (a : α) (e : ME) (g : α → EF β) : kB (some (.ok a, e)) g = g a e := rfl
@[simp] theorem kB_ex (x : Ex) (e : ME) (g : α → EF β) : kB (some (.ex x, e)) g = some (.ex x, e) := rfl
@[simp] theorem kB_none (g : α → EF β) : kB none g = none := rfl
@[simp] theorem eD_k (f : EF D) (e : ME) : eD f e = kB (f e) (fun d => eRet (.d d)) := rfl
@[simp] theorem e2_k (f : EF α) (h : EF β) (g : α → β → EF γ) (e : ME) : e2 f h g e = kB (f e) (fun x => eBind h fun y => g x y) := rfl
@[simp] theorem set_k (sl : SLs) (ce : CEs) (i : Nat) (x : Option Sl) : ME.set ⟨sl, ce⟩ i x = ⟨sl.set i x, ce⟩ := rfl
@[simp] theorem setC_k (sl : SLs) (ce : CEs) (i : Nat) (x : Option MO) : ME.setC ⟨sl, ce⟩ i x = ⟨sl, ce.set i x⟩ := rfl
@[simp] theorem push_k (sl : SLs) (ce : CEs) (x : MO) : ME.push ⟨sl, ce⟩ x = ⟨sl, ce ++ [some x]⟩ := rfl
@[simp] theorem viewA_d (d : D) (e : ME) : viewA (.d d) e = some d := rfl
@[simp] theorem viewA_own (i : Nat) (e : ME) : viewA (.own i) e = viewS e.sl[i]? := rfl
@[simp] theorem viewA_hd (i : Nat) (e : ME) : viewA (.hd i) e = viewC e.ce[i]? := rfl
@[simp] theorem viewS_o (m : MO) : viewS (some (some (.o m))) = m.d := rfl
@[simp] theorem viewS_b (m : MO) : viewS (some (some (.b m))) = m.d := rfl
@[simp] theorem viewC_m (m : MO) : viewC (some (some m)) = m.d := rfl
@[simp] theorem MO_lst (xs : List D) : MO.d (.lst xs) = some (.lst xs) := rfl
@[simp] theorem MO_dK (xs : List (Key × D)) : MO.d (.dK xs) = some (.dK xs) := rfl
@[simp] theorem MO_ins (C : Str) (xs : List (Str × D)) : MO.d (.ins C xs) = some (.ins C xs) := rfl
@[simp] theorem flat_lst (xs : List D) : MO.flat (.lst xs) = true := rfl
@[simp] theorem flat_dK (xs : List (Key × D)) : MO.flat (.dK xs) = true := rfl
@[simp] theorem flat_ins (C : Str) (xs : List (Str × D)) : MO.flat (.ins C xs) = true := rfl
@[simp] theorem sflat_v (d : D) : Sl.flat (.v d) = true := rfl
@[simp] theorem sflat_b (m : MO) : Sl.flat (.b m) = m.flat := rfl
@[simp] theorem sflat_o (m : MO) : Sl.flat (.o m) = m.flat := rfl
@[simp] theorem rflat_d (d : D) : rFlat (.ok (.d d)) = true := rfl
@[simp] theorem rflat_o (m : MO) : rFlat (.ok (.o m)) = m.flat := rfl
@[simp] theorem rflat_x (x : Ex) : rFlat (.ex x) = true := rfl
def kR (r : Option α) (e : ME) : Option (Res α × ME) := match r with
  | some a => some (.ok a, e)
  | none => none
@[simp] theorem kR_some (a : α) (e : ME) : kR (some a) e = some (.ok a, e) := rfl
@[simp] theorem kR_none (e : ME) : kR (none : Option α) e = none := rfl
def kO (v : Option D) (op : D → Option α) (e : ME) : Option (Res α × ME) := match v with
  | some d => kR (op d) e
  | none => none
@[simp] theorem eOn_k (a : AV) (op : D → Option α) (e : ME) : eOn a op e = kO (viewA a e) op e := by
  unfold eOn kO
  cases viewA a e with
  | none => rfl
  | some d => dsimp only; cases op d <;> rfl
@[simp] theorem kO_some (d : D) (op : D → Option α) (e : ME) : kO (some d) op e = kR (op d) e := rfl
def kO2 (v u : Option D) (op : D → D → Option α) (e : ME) : Option (Res α × ME) := match v, u with
  | some d, some d' => kR (op d d') e
  | _, _ => none
@[simp] theorem eOn2_k (a b : AV) (op : D → D → Option α) (e : ME) : eOn2 a b op e = kO2 (viewA a e) (viewA b e) op e := by
  unfold eOn2 kO2
  cases viewA a e with
  | none => rfl
  | some d => cases viewA b e with
    | none => rfl
    | some d' => dsimp only; cases op d d' <;> rfl
@[simp] theorem kO2_some (d d' : D) (op : D → D → Option α) (e : ME) : kO2 (some d) (some d') op e = kR (op d d') e := rfl
@[simp] theorem g1_k (g : AV → EF α) (a : AV) : g1 g [a] = g a := rfl
@[simp] theorem g2_k (g : AV → AV → EF α) (a b : AV) : g2 g [a, b] = g a b := rfl
@[simp] theorem asB_k (b : Bool) : asB (.bl b) = eRet b := rfl
@[simp] theorem eT_k (f : EF D) (e : ME) : eT f e = kB (f e) asB := rfl
@[simp] theorem eDF_k (f : EF D) (e : ME) : eDF f e = kB (f e) (fun d => eRet (.d d)) := rfl
@[simp] theorem eCons_k (f : EF AV) (g : EF (List AV)) (e : ME) : eCons f g e = kB (f e) (fun x => eBind g fun y => eRet (x :: y)) := rfl
def kI (r : Option (Res Bool × ME)) (f g : EF α) : Option (Res α × ME) := match r with
  | some (.ok b, e) => if b = true then f e else g e
  | some (.ex x, e) => some (.ex x, e)
  | none => none
@[simp] theorem eIf_k (t : EF Bool) (f g : EF α) (e : ME) : eIf t f g e = kI (t e) f g := by
  unfold eIf kI eBind
  cases t e with
  | none => rfl
  | some p => obtain ⟨r, e'⟩ := p; cases r with
    | ex x => rfl
    | ok b => cases b <;> rfl
@[simp] theorem kI_ok (b : Bool) (e : ME) (f g : EF α) : kI (some (.ok b, e)) f g = if b = true then f e else g e := rfl
@[simp] theorem eAnd_k (f g : EF Bool) (e : ME) : eAnd f g e = kI (f e) g (eRet false) := by
  unfold eAnd kI eBind
  cases f e with
  | none => rfl
  | some p => obtain ⟨r, e'⟩ := p; cases r with
    | ex x => rfl
    | ok b => cases b <;> rfl
@[simp] theorem eOr_k (f g : EF Bool) (e : ME) : eOr f g e = kI (f e) (eRet true) g := by
  unfold eOr kI eBind
  cases f e with
  | none => rfl
  | some p => obtain ⟨r, e'⟩ := p; cases r with
    | ex x => rfl
    | ok b => cases b <;> rfl
@[simp] theorem eNot_k (f : EF Bool) (e : ME) : eNot f e = kB (f e) (fun b => eRet (!b)) := rfl
def kA : D → EF D → EF D
  | .bl true, g => g
  | .bl false, _ => eRet (.bl false)
  | _, _ => fun _ => none
def kOr : D → EF D → EF D
  | .bl true, _ => eRet (.bl true)
  | .bl false, g => g
  | _, _ => fun _ => none
@[simp] theorem eAndV_k (f g : EF D) (e : ME) : eAndV f g e = kB (f e) (fun d => kA d g) := by
  unfold eAndV kB eBind
  cases f e with
  | none => rfl
  | some p => obtain ⟨r, e'⟩ := p; cases r with
    | ex x => rfl
    | ok b => cases b <;> first | rfl | (rename_i b; cases b <;> rfl)
@[simp] theorem eOrV_k (f g : EF D) (e : ME) : eOrV f g e = kB (f e) (fun d => kOr d g) := by
  unfold eOrV kB eBind
  cases f e with
  | none => rfl
  | some p => obtain ⟨r, e'⟩ := p; cases r with
    | ex x => rfl
    | ok b => cases b <;> first | rfl | (rename_i b; cases b <;> rfl)
@[simp] theorem kA_bl (b : Bool) (g : EF D) (e : ME) : kA (.bl b) g e = if b = true then g e else some (.ok (.bl false), e) := by cases b <;> rfl
@[simp] theorem kOr_bl (b : Bool) (g : EF D) (e : ME) : kOr (.bl b) g e = if b = true then some (.ok (.bl true), e) else g e := by cases b <;> rfl
def kNot : D → EF D
  | .bl b => eRet (.bl (!b))
  | _ => fun _ => none
@[simp] theorem eNotV_k (f : EF D) (e : ME) : eNotV f e = kB (f e) kNot := by
  unfold eNotV kB eBind
  cases f e with
  | none => rfl
  | some p => obtain ⟨r, e'⟩ := p; cases r with
    | ex x => rfl
    | ok b => cases b <;> rfl
@[simp] theorem kNot_bl (b : Bool) : kNot (.bl b) = eRet (.bl (!b)) := rfl
/-! names -/
def kN (s : Option (Option Sl)) (i : Nat) (e : ME) : Option (Res AV × ME) := match s with
  | some (some (.v d)) => some (.ok (.d d), e)
  | some (some (.o _)) => some (.ok (.own i), e)
  | some (some (.b _)) => some (.ok (.own i), e)
  | some (some (.h n)) => some (.ok (.hd n), e)
  | _ => none
@[simp] theorem eName_k (i : Nat) (e : ME) : eName i e = kN e.sl[i]? i e := rfl
@[simp] theorem kN_h (n i : Nat) (e : ME) : kN (some (some (.h n))) i e = some (.ok (.hd n), e) := rfl
@[simp] theorem kN_v (d : D) (i : Nat) (e : ME) : kN (some (some (.v d))) i e = some (.ok (.d d), e) := rfl
@[simp] theorem kN_o (m : MO) (i : Nat) (e : ME) : kN (some (some (.o m))) i e = some (.ok (.own i), e) := rfl
@[simp] theorem kN_b (m : MO) (i : Nat) (e : ME) : kN (some (some (.b m))) i e = some (.ok (.own i), e) := rfl
def kFd (o : Option D) (i : Nat) (e : ME) : Option (Res D × ME) := match o with
  | some d => some (.ok d, e.set i (some (.v d)))
  | none => none
@[simp] theorem kFd_s (d : D) (i : Nat) (e : ME) : kFd (some d) i e = some (.ok d, e.set i (some (.v d))) := rfl
def kF (s : Option (Option Sl)) (i : Nat) (e : ME) : Option (Res D × ME) := match s with
  | some (some (.v d)) => some (.ok d, e)
  | some (some (.o m)) => kFd m.d i e
  | _ => none
@[simp] theorem eFrz_k (i : Nat) (e : ME) : eFrz i e = kF e.sl[i]? i e := rfl
@[simp] theorem kF_v (d : D) (i : Nat) (e : ME) : kF (some (some (.v d))) i e = some (.ok d, e) := rfl
@[simp] theorem kF_o (m : MO) (i : Nat) (e : ME) : kF (some (some (.o m))) i e = kFd m.d i e := rfl
def kVar (s : Option (Option Sl)) (e : ME) : Option (Res D × ME) := match s with
  | some (some (.v d)) => some (.ok d, e)
  | _ => none
@[simp] theorem eVar_k (i : Nat) (e : ME) : eVar i e = kVar e.sl[i]? e := rfl
@[simp] theorem kVar_v (d : D) (e : ME) : kVar (some (some (.v d))) e = some (.ok d, e) := rfl
def kOut (s : Option (Option Sl)) (i : Nat) (e : ME) : Option (Res FR × ME) := match s with
  | some (some (.v d)) => some (.ok (.d d), e)
  | some (some (.o m)) => some (.ok (.o m), e.set i none)
  | some (some (.h n)) => some (.ok (.h n), e)
  | _ => none
@[simp] theorem kOut_h (n i : Nat) (e : ME) : kOut (some (some (.h n))) i e = some (.ok (.h n), e) := rfl
@[simp] theorem eOut_k (i : Nat) (e : ME) : eOut i e = kOut e.sl[i]? i e := rfl
@[simp] theorem kOut_v (d : D) (i : Nat) (e : ME) : kOut (some (some (.v d))) i e = some (.ok (.d d), e) := rfl
@[simp] theorem kOut_o (m : MO) (i : Nat) (e : ME) : kOut (some (some (.o m))) i e = some (.ok (.o m), e.set i none) := rfl
/-! lists, tuples -/
@[simp] theorem ds_nil : ds [] = some [] := rfl
@[simp] theorem ds_d (d : D) (r : List AV) : Mir.ds (.d d :: r) = (Mir.ds r).map (d :: ·) := by
  rw [Mir.ds]
  cases Mir.ds r <;> rfl
def kL (o : Option (List D)) (e : ME) : Option (Res FR × ME) := match o with
  | some l => if l.length ≤ sizeLine then some (.ok (.o (.lst l)), e) else none
  | none => none
def kT (o : Option (List D)) (e : ME) : Option (Res D × ME) := match o with
  | some l => if l.length ≤ sizeLine then some (.ok (.tup l), e) else none
  | none => none
@[simp] theorem eLst_k (f : EF (List AV)) (e : ME) : eLst f e = kB (f e) (fun as e => kL (Mir.ds as) e) := by
  unfold eLst kB eBind
  cases f e with
  | none => rfl
  | some p => obtain ⟨r, e'⟩ := p; cases r with
    | ex x => rfl
    | ok as =>
      dsimp only
      unfold kL
      cases Mir.ds as with
      | none => rfl
      | some l => dsimp only; split <;> rfl
@[simp] theorem eTup_k (f : EF (List AV)) (e : ME) : eTup f e = kB (f e) (fun as e => kT (Mir.ds as) e) := by
  unfold eTup kB eBind
  cases f e with
  | none => rfl
  | some p => obtain ⟨r, e'⟩ := p; cases r with
    | ex x => rfl
    | ok as =>
      dsimp only
      unfold kT
      cases Mir.ds as with
      | none => rfl
      | some l => dsimp only; split <;> rfl
theorem small_le {n : Nat} (h : n ≤ 100000) : n ≤ sizeLine := Nat.le_trans h (by decide)
theorem kL_some (l : List D) (e : ME) (h : l.length ≤ 100000) : kL (some l) e = some (.ok (.o (.lst l)), e) := by
  show (if _ then _ else _) = _
  rw [if_pos (small_le h)]
theorem kT_some (l : List D) (e : ME) (h : l.length ≤ 100000) : kT (some l) e = some (.ok (.tup l), e) := by
  show (if _ then _ else _) = _
  rw [if_pos (small_le h)]
def kMd : Option D → EF D
  | some d => eRet d
  | none => fun _ => none
def kFz : FR → EF D
  | .d d => eRet d
  | .o m => kMd m.d
  | .h _ => fun _ => none
@[simp] theorem eFz_k (f : EF FR) (e : ME) : eFz f e = kB (f e) kFz := by
  unfold eFz kB eBind
  cases f e with
  | none => rfl
  | some p => obtain ⟨r, e'⟩ := p; cases r with
    | ex x => rfl
    | ok as => cases as <;> rfl
@[simp] theorem kFz_d (d : D) : kFz (.d d) = eRet d := rfl
@[simp] theorem kFz_o (m : MO) : kFz (.o m) = kMd m.d := rfl
@[simp] theorem kMd_s (d : D) : kMd (some d) = eRet d := rfl
/-! calls -/
@[simp] theorem ixs_nil : ixs [] = [] := rfl
@[simp] theorem ixs_d (d : D) (r : List AV) : ixs (.d d :: r) = ixs r := rfl
@[simp] theorem ixs_o (i : Nat) (r : List AV) : ixs (.own i :: r) = i :: ixs r := rfl
@[simp] theorem ixs_h (i : Nat) (r : List AV) : ixs (.hd i :: r) = ixs r := rfl
def kM (s : Option (Option Sl)) (o : Option (List Sl)) : Option (List Sl) := match s with
  | some (some (.o m)) => o.map (.b m :: ·)
  | some (some (.b m)) => o.map (.b m :: ·)
  | _ => none
@[simp] theorem lend_nil (e : SLs) : lend e [] = some [] := rfl
@[simp] theorem lend_d (e : SLs) (d : D) (r : List AV) : lend e (.d d :: r) = (lend e r).map (.v d :: ·) := by
  rw [lend]
  cases lend e r <;> rfl
@[simp] theorem lend_h (e : SLs) (n : Nat) (r : List AV) : lend e (.hd n :: r) = (lend e r).map (.h n :: ·) := by
  rw [lend]
  cases lend e r <;> rfl
@[simp] theorem lend_o (e : SLs) (i : Nat) (r : List AV) : lend e (.own i :: r) = kM e[i]? (lend e r) := by
  rw [lend]
  unfold kM
  cases e[i]? with
  | none => rfl
  | some s => cases s with
    | none => rfl
    | some s => cases s with
      | v d => rfl
      | h d => rfl
      | o m => dsimp [Sl.mo]; cases lend e r <;> rfl
      | b m => dsimp [Sl.mo]; cases lend e r <;> rfl
@[simp] theorem kM_o (m : MO) (o : Option (List Sl)) : kM (some (some (.o m))) o = o.map (.b m :: ·) := rfl
@[simp] theorem kM_b (m : MO) (o : Option (List Sl)) : kM (some (some (.b m))) o = o.map (.b m :: ·) := rfl
def kPut (s : Option (Option Sl)) (m : MO) (i : Nat) (e : SLs) : SLs := match s with
  | some (some s) => e.set i (some (s.put m))
  | _ => e
@[simp] theorem putB_nil (e : SLs) (q : List Sl) : putB e [] q = e := by cases q <;> rfl
@[simp] theorem putB_d (e : SLs) (d : D) (r : List AV) (s : Sl) (q : List Sl) : putB e (.d d :: r) (s :: q) = putB e r q := rfl
@[simp] theorem putB_h (e : SLs) (d : Nat) (r : List AV) (s : Sl) (q : List Sl) : putB e (.hd d :: r) (s :: q) = putB e r q := rfl
@[simp] theorem putB_o (e : SLs) (i : Nat) (r : List AV) (m : MO) (q : List Sl) : putB e (.own i :: r) (.b m :: q) = kPut e[i]? m i (putB e r q) := by
  rw [putB]
  unfold kPut
  cases e[i]? with
  | none => rfl
  | some s => cases s <;> rfl
@[simp] theorem kPut_s (s : Sl) (m : MO) (i : Nat) (e : SLs) : kPut (some (some s)) m i e = e.set i (some (s.put m)) := rfl
@[simp] theorem put_v (m : MO) (d : D) : Sl.put m (.v d) = .v d := rfl
@[simp] theorem put_o (m m' : MO) : Sl.put m (.o m') = .o m := rfl
@[simp] theorem put_b (m m' : MO) : Sl.put m (.b m') = .b m := rfl
def kC (o : Option (Res FR × List Sl × CEs)) (as : List AV) (e : ME) : Option (Res FR × ME) := match o with
  | some (r, q, _) => if (q.all Sl.flat && rFlat r) = true then some (r, ⟨putB e.sl as q, e.ce⟩) else none
  | none => none
def kC0 (o : Option (List Sl)) (mf : MF) (as : List AV) (e : ME) : Option (Res FR × ME) := match o with
  | some sl => if (sl.all Sl.flat) = true then kC (mf sl []) as e else none
  | none => none
def kCs (o : Option (Res FR × List Sl × CEs)) (as : List AV) (e : ME) : Option (Res FR × ME) := match o with
  | some (r, q, ce) => some (r, ⟨putB e.sl as q, ce⟩)
  | none => none
abbrev kCall (mf : MF) (as : List AV) (e : ME) : Option (Res FR × ME) := kCallG false mf as e
@[simp] theorem eCall_k (sh : Bool) (mf : MF) (f : EF (List AV)) (e : ME) : eCallG sh mf f e = kB (f e) (kCallG sh mf) := rfl
@[simp] theorem kCall_k (mf : MF) (as : List AV) (e : ME) : kCallG false mf as e = if (ixs as).Nodup then kC0 (lend e.sl as) mf as e else none := by
  unfold kCallG kC0
  split
  · cases lend e.sl as with
    | none => rfl
    | some sl =>
      dsimp only
      rw [Bool.false_or]
      split
      · unfold kC
        show _ = match mf sl (celC false e.ce) with | some (r, q, _) => _ | none => _
        rcases mf sl (celC false e.ce) with _ | ⟨r, q, ce⟩ <;> rfl
      · rfl
  · rfl
@[simp] theorem kCall_s (mf : MF) (as : List AV) (e : ME) : kCallG true mf as e = if (ixs as).Nodup then kCs ((lend e.sl as).bind fun sl => mf sl e.ce) as e else none := by
  unfold kCallG
  split
  · cases lend e.sl as with
    | none => rfl
    | some sl =>
      dsimp only
      rw [Bool.true_or, if_pos rfl]
      unfold kCs
      dsimp only [Option.bind]
      show _ = match mf sl (celC true e.ce) with | some (r, q, ce) => some (r, (⟨putB e.sl as q, ce⟩ : ME)) | none => none
      rcases mf sl (celC true e.ce) with _ | ⟨r, q, ce⟩ <;> rfl
  · rfl
@[simp] theorem kC0_k (sl : List Sl) (mf : MF) (as : List AV) (e : ME) : kC0 (some sl) mf as e = if (sl.all Sl.flat) = true then kC (mf sl []) as e else none := rfl
@[simp] theorem kC_k (r : Res FR) (q : List Sl) (ce : CEs) (as : List AV) (e : ME) : kC (some (r, q, ce)) as e = if (q.all Sl.flat && rFlat r) = true then some (r, ⟨putB e.sl as q, e.ce⟩) else none := rfl
@[simp] theorem kCs_k (r : Res FR) (q : List Sl) (ce : CEs) (as : List AV) (e : ME) : kCs (some (r, q, ce)) as e = some (r, ⟨putB e.sl as q, ce⟩) := rfl
/-! statements -/
def kS (r : Option (Out × ME)) (g : SF) : Option (Out × ME) := match r with
  | some (.nx, e) => g e
  | r => r
@[simp] theorem sSeq_k (f g : SF) (e : ME) : sSeq f g e = kS (f e) g := rfl
@[simp] theorem kS_nx (e : ME) (g : SF) : kS (some (.nx, e)) g = g e := rfl
@[simp] theorem kS_ret (r : FR) (e : ME) (g : SF) : kS (some (.ret r, e)) g = some (.ret r, e) := rfl
@[simp] theorem kS_brk (e : ME) (g : SF) : kS (some (.brk, e)) g = some (.brk, e) := rfl
@[simp] theorem kS_cnt (e : ME) (g : SF) : kS (some (.cnt, e)) g = some (.cnt, e) := rfl
@[simp] theorem kS_ex (x : Ex) (e : ME) (g : SF) : kS (some (.ex x, e)) g = some (.ex x, e) := rfl
@[simp] theorem kS_ite (c : Prop) [Decidable c] (a b : Option (Out × ME)) (g : SF) : kS (if c then a else b) g = if c then kS a g else kS b g := by split <;> rfl
@[simp] theorem sNx_k (e : ME) : sNx e = some (.nx, e) := rfl
@[simp] theorem sCnt_k (e : ME) : sCnt e = some (.cnt, e) := rfl
@[simp] theorem sBrk_k (e : ME) : sBrk e = some (.brk, e) := rfl
@[simp] theorem sRetN_k (e : ME) : sRetN e = some (.ret (.d .non), e) := rfl
def kSB (r : Option (Res α × ME)) (g : α → SF) : Option (Out × ME) := match r with
  | some (.ok a, e) => g a e
  | some (.ex x, e) => some (.ex x, e)
  | none => none
@[simp] theorem sBind_k (f : EF α) (g : α → SF) (e : ME) : sBind f g e = kSB (f e) g := rfl
@[simp] theorem kSB_ok (a : α) (e : ME) (g : α → SF) : kSB (some (.ok a, e)) g = g a e := rfl
@[simp] theorem kSB_ex (x : Ex) (e : ME) (g : α → SF) : kSB (some (.ex x, e)) g = some (.ex x, e) := rfl
def kIsB : Option (Option Sl) → Bool
  | some (some (.b _)) => true
  | _ => false
@[simp] theorem isB_k (e : ME) (i : Nat) : isB e i = kIsB e.sl[i]? := by
  unfold isB kIsB
  cases e.sl[i]? with
  | none => rfl
  | some s => cases s with
    | none => rfl
    | some s => cases s <;> rfl
@[simp] theorem kIsB_v (d : D) : kIsB (some (some (.v d))) = false := rfl
@[simp] theorem kIsB_o (d : MO) : kIsB (some (some (.o d))) = false := rfl
@[simp] theorem kIsB_h (n : Nat) : kIsB (some (some (.h n))) = false := rfl
@[simp] theorem kIsB_n : kIsB (some none) = false := rfl
@[simp] theorem putV_k (i : Nat) (d : D) (e : ME) : putV i d e = if isB e i = true then none else some (.nx, e.set i (some (.v d))) := rfl
@[simp] theorem sSet_k (i : Nat) (f : EF D) (e : ME) : sSet i f e = kSB (f e) (putV i) := rfl
@[simp] theorem putF_d (i : Nat) (d : D) (e : ME) : putF i (.d d) e = putV i d e := rfl
@[simp] theorem putF_o (i : Nat) (m : MO) (e : ME) : putF i (.o m) e = if isB e i = true then none else some (.nx, e.set i (some (.o m))) := rfl
@[simp] theorem putF_h (i n : Nat) (e : ME) : putF i (.h n) e = if isB e i = true then none else some (.nx, e.set i (some (.h n))) := rfl
@[simp] theorem sSetF_k (i : Nat) (f : EF FR) (e : ME) : sSetF i f e = kSB (f e) (putF i) := rfl
@[simp] theorem sRet_k (f : EF FR) (e : ME) : sRet f e = kSB (f e) (fun r e => some (.ret r, e)) := rfl
@[simp] theorem sDo_k (f : EF D) (e : ME) : sDo f e = kSB (f e) (fun _ => sNx) := rfl
def kSI (r : Option (Res Bool × ME)) (f g : SF) : Option (Out × ME) := match r with
  | some (.ok b, e) => if b = true then f e else g e
  | some (.ex x, e) => some (.ex x, e)
  | none => none
@[simp] theorem sIf_k (t : EF Bool) (f g : SF) (e : ME) : sIf t f g e = kSI (t e) f g := by
  unfold sIf kSI sBind
  cases t e with
  | none => rfl
  | some p => obtain ⟨r, e'⟩ := p; cases r with
    | ex x => rfl
    | ok b => cases b <;> rfl
@[simp] theorem kSI_ok (b : Bool) (e : ME) (f g : SF) : kSI (some (.ok b, e)) f g = if b = true then f e else g e := rfl
@[simp] theorem kSI_ex (x : Ex) (e : ME) (f g : SF) : kSI (some (.ex x, e)) f g = some (.ex x, e) := rfl
def kLst : Option (Option Sl) → Option (Sl × List D)
  | some (some (.o (.lst ds))) => some (.o (.lst ds), ds)
  | some (some (.b (.lst ds))) => some (.b (.lst ds), ds)
  | _ => none
@[simp] theorem lstAt_k (e : ME) (i : Nat) : lstAt e i = kLst e.sl[i]? := by
  unfold lstAt kLst
  cases e.sl[i]? with
  | none => rfl
  | some s => cases s with
    | none => rfl
    | some s => cases s with
      | v d => rfl
      | h d => rfl
      | o m => cases m <;> rfl
      | b m => cases m <;> rfl
@[simp] theorem kLst_o (ds : List D) : kLst (some (some (.o (.lst ds)))) = some (.o (.lst ds), ds) := rfl
@[simp] theorem kLst_b (ds : List D) : kLst (some (some (.b (.lst ds)))) = some (.b (.lst ds), ds) := rfl
def kPI2 (i : Nat) (d : D) (k : D) (e : ME) : Option (Out × ME) := match k with
  | .int k => match kLst e.sl[i]? with
    | some (s, ds) => match ixN ds.length k with
      | some j => some (.nx, e.set i (some (s.put (.lst (ds.set j d)))))
      | none => none
    | none => none
  | _ => none
def kPI (i : Nat) (fk : EF D) (d : D) (e : ME) : Option (Out × ME) := match kLst e.sl[i]? with
  | some _ => kSB (fk e) (kPI2 i d)
  | none => none
@[simp] theorem sPutIx_k (i : Nat) (fe fk : EF D) (e : ME) : sPutIx i fe fk e = kSB (fe e) (kPI i fk) := by
  unfold sPutIx sBind kSB
  cases fe e with
  | none => rfl
  | some p => obtain ⟨r, e'⟩ := p; cases r with
    | ex x => rfl
    | ok d =>
      dsimp only
      unfold kPI
      rw [lstAt_k]
      cases kLst e'.sl[i]? with
      | none => rfl
      | some q =>
        dsimp only
        unfold kSB
        cases fk e' with
        | none => rfl
        | some p => obtain ⟨r, e2⟩ := p; cases r with
          | ex x => rfl
          | ok k =>
            dsimp only
            unfold kPI2
            cases k <;> first | rfl | (dsimp only; rw [lstAt_k]; first | done | (cases kLst e2.sl[i]? <;> rfl))
def kM2 (i : Nat) (op : List D → List AV → ME → Option (D × List D)) (as : List AV) (e : ME) : Option (Res D × ME) := match kLst e.sl[i]? with
  | some (s, ds) => match op ds as e with
    | some (x, ds') => some (.ok x, e.set i (some (s.put (.lst ds'))))
    | none => none
  | none => none
@[simp] theorem eMut_k (i : Nat) (f : EF (List AV)) (op : List D → List AV → ME → Option (D × List D)) (e : ME) : eMut i f op e = match kLst e.sl[i]? with
    | some _ => kB (f e) (kM2 i op)
    | none => none := by
  unfold eMut
  rw [lstAt_k]
  cases kLst e.sl[i]? with
  | none => rfl
  | some q =>
    dsimp only
    rw [eBind_k]
    congr 1
    funext as e1
    unfold kM2
    rw [lstAt_k]
    first | done | (cases kLst e1.sl[i]? <;> rfl)
/-! loops -/
@[simp] theorem sFor_k (fi : EF (List D)) (g : TF) (b : SF) (e : ME) : sFor fi g b e = kSB (fi e) (sLoop g b) := rfl
@[simp] theorem sLoop_nil (g : TF) (b : SF) (e : ME) : sLoop g b [] e = some (.nx, e) := rfl
/-- a loop that goes on to its end -/
theorem sLoop_all {g : TF} {b : SF} (P : ME → Prop) : ∀ (ds : List D), (∀ d ∈ ds, ∀ e, P e → ∃ e1 o e2, g d e = some e1 ∧ b e1 = some (o, e2) ∧ (o = .nx ∨ o = .cnt) ∧ P e2) → ∀ e, P e → ∃ e', sLoop g b ds e = some (.nx, e') ∧ P e'
  | [], _, e, h => ⟨e, rfl, h⟩
  | d :: ds, hb, e, h => by
    obtain ⟨e1, o, e2, h1, h2, ho, h3⟩ := hb d List.mem_cons_self e h
    obtain ⟨e', q, p⟩ := sLoop_all P ds (fun d hd => hb d (List.mem_cons_of_mem _ hd)) e2 h3
    refine ⟨e', ?_, p⟩
    unfold sLoop
    rw [h1]
    dsimp only
    rw [h2]
    rcases ho with rfl | rfl <;> exact q
@[simp] theorem gSl_k (i : Nat) (d : D) (e : ME) : gSl i d e = if isB e i = true then none else some (e.set i (some (.v d))) := rfl
@[simp] theorem eOf_k (f : EF D) (e : ME) : eOf f e = kB (f e) oIter := rfl
@[simp] theorem oIter_tup (ds : List D) : oIter (.tup ds) = eRet ds := rfl
@[simp] theorem oIter_lst (ds : List D) : oIter (.lst ds) = eRet ds := rfl
@[simp] theorem oIter_frl (ds : List D) : oIter (.frl ds) = eRet ds := rfl
@[simp] theorem oIter_str (x : Str) : oIter (.str x) = eRet (signs x) := rfl
def kSl (o : Option (List D × ME)) : Option (Res FR × ME) := match o with
  | some (acc, e) => some (.ok (.o (.lst acc)), e)
  | none => none
@[simp] theorem eLc_k (vs : List Nat) (fi : EF (List D)) (g : TF) (t : EF Bool) (el : EF D) (e : ME) : eLc vs fi g t el e = kB (fi e) (fun ds e => if offAt vs e = true ∧ ds.length ≤ sizeLine then kSl (cLoop vs g t el ds [] e) else none) := by
  unfold eLc kB eBind
  cases fi e with
  | none => rfl
  | some p => obtain ⟨r, e'⟩ := p; cases r with
    | ex x => rfl
    | ok ds =>
      dsimp only
      split
      · unfold kSl
        cases cLoop vs g t el ds [] e' with
        | none => rfl
        | some q => rfl
      · rfl
@[simp] theorem kSl_some (acc : List D) (e : ME) : kSl (some (acc, e)) = some (.ok (.o (.lst acc)), e) := rfl
/-- a comprehension without a test whose element leaves P standing -/
theorem cLoop_all {vs : List Nat} {g : TF} {el : EF D} (P : ME → Prop) (Q : D → D → Prop) : ∀ (ds acc : List D), (∀ d ∈ ds, ∀ e, P e → ∃ e1 x e2, g d e = some e1 ∧ el e1 = some (.ok x, e2) ∧ P (wipeE e2 vs) ∧ Q d x) → ∀ e, P e →
    ∃ xs e', cLoop vs g (eRet true) el ds acc e = some (acc ++ xs, e') ∧ P e' ∧ xs.length = ds.length ∧ ∀ x ∈ xs, ∃ d ∈ ds, Q d x
  | [], acc, _, e, h => ⟨[], e, by simp [cLoop], h, rfl, fun x hx => by cases hx⟩
  | d :: ds, acc, hb, e, h => by
    obtain ⟨e1, x, e2, h1, h2, h3, hq⟩ := hb d List.mem_cons_self e h
    obtain ⟨xs, e', q, p, l, hx⟩ := cLoop_all P Q ds (acc ++ [x]) (fun d hd => hb d (List.mem_cons_of_mem _ hd)) _ h3
    refine ⟨x :: xs, e', ?_, p, by simp [l], fun y hy => ?_⟩
    · unfold cLoop
      rw [h1]
      dsimp only [eRet]
      rw [h2]
      dsimp only
      rw [q]
      simp
    · rcases List.mem_cons.mp hy with rfl | hy
      · exact ⟨d, List.mem_cons_self, hq⟩
      · obtain ⟨d', h1, h2⟩ := hx y hy
        exact ⟨d', List.mem_cons_of_mem _ h1, h2⟩
/-! slices, chains, texts -/
def kP : D → EF (Option Int)
  | .int i => eRet (some i)
  | _ => fun _ => none
@[simp] theorem ePart_none (e : ME) : ePart none e = some (.ok none, e) := rfl
@[simp] theorem ePart_some (f : EF D) (e : ME) : ePart (some f) e = kB (f e) kP := by
  show eBind f _ e = _
  rw [eBind_k]
  first | rfl | (congr 1; funext d; cases d <;> rfl)
@[simp] theorem kP_int (i : Int) : kP (.int i) = eRet (some i) := rfl
@[simp] theorem eSl_k (fa : EF AV) (fl fh : EF (Option Int)) (e : ME) : eSl fa fl fh e = kB (fa e) (fun a => eBind fl fun l => eBind fh fun h => eOn a (oSl l h)) := rfl
@[simp] theorem oSl_lst (l h : Option Int) (ds : List D) : oSl l h (.lst ds) = some (.lst (cutD ds l h)) := rfl
@[simp] theorem oSl_frl (l h : Option Int) (ds : List D) : oSl l h (.frl ds) = some (.lst (cutD ds l h)) := rfl
@[simp] theorem oSl_tup (l h : Option Int) (ds : List D) : oSl l h (.tup ds) = some (.tup (cutD ds l h)) := rfl
@[simp] theorem oSl_str (l h : Option Int) (z : Str) : oSl l h (.str z) = some (.str (cutS z l h)) := rfl
def kCh (y : AV) (fc : EF AV) (op' : D → D → Option D) : D → EF D
  | .bl true => eBind fc fun z => eOn2 y z op'
  | .bl false => eRet (.bl false)
  | _ => fun _ => none
@[simp] theorem eChain_k (fa fb fc : EF AV) (op op' : D → D → Option D) (e : ME) : eChain fa fb fc op op' e = kB (fa e) (fun x => eBind fb fun y => eBind (eOn2 x y op) (kCh y fc op')) := rfl
@[simp] theorem kCh_bl (y : AV) (fc : EF AV) (op' : D → D → Option D) (b : Bool) (e : ME) : kCh y fc op' (.bl b) e = if b = true then kB (fc e) (fun z => eOn2 y z op') else some (.ok (.bl false), e) := by cases b <;> rfl
def kJ (fa : EF AV) : D → EF D
  | .str z => eBind fa fun a => eOn2 (.d (.str z)) a oJoin
  | _ => fun _ => none
@[simp] theorem eJoin_k (fo : EF D) (fa : EF AV) (e : ME) : eJoin fo fa e = kB (fo e) (kJ fa) := by
  unfold eJoin
  rw [eBind_k]
  first | rfl | (congr 1; funext o e1; unfold kJ; cases o <;> rfl)
@[simp] theorem kJ_str (fa : EF AV) (z : Str) (e : ME) : kJ fa (.str z) e = kB (fa e) (fun a => eOn2 (.d (.str z)) a oJoin) := rfl
@[simp] theorem eBindNeg (f : EF D) (i : Int) : oNeg (.int i) = eRet (.int (-i)) := rfl
/-! operators at ints, truths, texts -/
@[simp] theorem oLt_i (i j : Int) : oLt (.int i) (.int j) = some (.bl (decide (i < j))) := rfl
@[simp] theorem oLe_i (i j : Int) : oLe (.int i) (.int j) = some (.bl (decide (i ≤ j))) := rfl
@[simp] theorem oGt_i (i j : Int) : oGt (.int i) (.int j) = some (.bl (decide (j < i))) := rfl
@[simp] theorem oGe_i (i j : Int) : oGe (.int i) (.int j) = some (.bl (decide (j ≤ i))) := rfl
@[simp] theorem oSub_i (i j : Int) : oSub (.int i) (.int j) = some (.int (i - j)) := rfl
@[simp] theorem oAdd_i (i j : Int) : oAdd (.int i) (.int j) = some (.int (i + j)) := rfl
theorem oAdd_s (x y : Str) : oAdd (.str x) (.str y) = if x.length + y.length ≤ sizeLine then some (.str (x ++ y)) else none := rfl
theorem oAdd_l (x y : List D) : oAdd (.lst x) (.lst y) = if x.length + y.length ≤ sizeLine then some (.lst (x ++ y)) else none := rfl
theorem oMod_i (i j : Int) (h : 0 < j) : oMod (.int i) (.int j) = some (.int (i % j)) := if_pos h
theorem oFdiv_i (i j : Int) (h : 0 < j) (h' : j.natAbs.log2 < 9000) : oFdiv (.int i) (.int j) = some (.int (i / j)) := if_pos ⟨h, h'⟩
theorem oMul_r (i j : Int) (h : -(2 ^ 64) < j) (h' : j < 2 ^ 64) : oMul (.int i) (.int j) = some (.int (i * j)) := by
  show (if _ then _ else _) = _
  split
  · rfl
  · rw [if_pos (.inr ⟨h, h'⟩)]
theorem oMul_l (i j : Int) (h : -(2 ^ 64) < i) (h' : i < 2 ^ 64) : oMul (.int i) (.int j) = some (.int (i * j)) := by
  show (if _ then _ else _) = _
  split
  · rfl
  · rw [if_pos (.inl ⟨h, h'⟩)]
@[simp] theorem oInt_i (i : Int) : oInt (.int i) = some (.int i) := rfl
@[simp] theorem oInt_b (b : Bool) : oInt (.bl b) = some (.int (if b then 1 else 0)) := rfl
@[simp] theorem oMin_i (i j : Int) : oMin (.int i) (.int j) = some (.int (if j < i then j else i)) := rfl
@[simp] theorem oMax_i (i j : Int) : oMax (.int i) (.int j) = some (.int (if j > i then j else i)) := rfl
@[simp] theorem oAbs_i (i : Int) : oAbs (.int i) = some (.int (if i < 0 then -i else i)) := rfl
@[simp] theorem oLen_s (z : Str) : oLen (.str z) = some (.int z.length) := rfl
@[simp] theorem oLen_l (z : List D) : oLen (.lst z) = some (.int z.length) := rfl
@[simp] theorem oLen_f (z : List D) : oLen (.frl z) = some (.int z.length) := rfl
@[simp] theorem oLen_t (z : List D) : oLen (.tup z) = some (.int z.length) := rfl
@[simp] theorem oIx_l (z : List D) (i : Int) : oIx (.lst z) (.int i) = atI z i := rfl
@[simp] theorem oIx_f (z : List D) (i : Int) : oIx (.frl z) (.int i) = atI z i := rfl
@[simp] theorem oIx_t (z : List D) (i : Int) : oIx (.tup z) (.int i) = atI z i := rfl
@[simp] theorem oIsNot_b (a b : Bool) : oIsNot (.bl a) (.bl b) = some (.bl (!decide (a = b))) := rfl
@[simp] theorem oIs_b (a b : Bool) : oIs (.bl a) (.bl b) = some (.bl (decide (a = b))) := rfl
@[simp] theorem oIs_n (d : D) : oIs d .non = some (.bl (isNone d)) := by cases d <;> rfl
@[simp] theorem oIsNot_n (d : D) : oIsNot d .non = some (.bl (!isNone d)) := by cases d <;> rfl
@[simp] theorem oSum_i (ns : List Int) : oSum (.lst (ns.map .int)) = some (.int ns.sum) := by
  have : dInts (ns.map D.int) = some ns := by
    induction ns with
    | nil => rfl
    | cons n ns ih => simp [dInts, ih]
  show (match dInts (ns.map D.int) with | some bs => some (D.int bs.sum) | none => none) = _
  rw [this]
@[simp] theorem mDef_k (n k : Nat) (g : SF) (as : List Sl) (ce : CEs) : mDef n k g as ce = if as.length = n then match g ⟨as.map some ++ List.replicate k none, ce⟩ with
    | some (.ret r, e) => some (.ok r, backs as e.sl, e.ce)
    | some (.nx, e) => some (.ok (.d .non), backs as e.sl, e.ce)
    | some (.ex x, e) => some (.ex x, backs as e.sl, e.ce)
    | _ => none
  else none := rfl
end
end Mir

namespace Mir
open PySem PySem.Spec PyProof.Rows L2
theorem cLoop_map {vs : List Nat} {g : TF} {el : EF D} (P : ME → Prop) (f : D → D) : ∀ (ds acc : List D), (∀ d ∈ ds, ∀ e, P e → ∃ e1 e2, g d e = some e1 ∧ el e1 = some (.ok (f d), e2) ∧ P (wipeE e2 vs)) → ∀ e, P e →
    ∃ e', cLoop vs g (eRet true) el ds acc e = some (acc ++ ds.map f, e') ∧ P e'
  | [], acc, _, e, h => ⟨e, by simp [cLoop], h⟩
  | d :: ds, acc, hb, e, h => by
    obtain ⟨e1, e2, h1, h2, h3⟩ := hb d List.mem_cons_self e h
    obtain ⟨e', q, p⟩ := cLoop_map P f ds (acc ++ [f d]) (fun d hd => hb d (List.mem_cons_of_mem _ hd)) _ h3
    refine ⟨e', ?_, p⟩
    unfold cLoop
    rw [h1]
    dsimp only [eRet]
    rw [h2]
    dsimp only
    rw [q]
    simp

def kLoop (r : Option (Out × ME)) (f : ME → Option (Out × ME)) : Option (Out × ME) := match r with
  | some (.nx, e) => f e
  | some (.cnt, e) => f e
  | some (.brk, e) => some (.nx, e)
  | r => r
def kG {α : Type} (o : Option ME) (f : ME → Option α) : Option α := match o with
  | some e => f e
  | none => none
@[simp] theorem sLoop_cons (g : TF) (b : SF) (d : D) (ds : List D) (e : ME) : sLoop g b (d :: ds) e = kG (g d e) (fun e1 => kLoop (b e1) (sLoop g b ds)) := rfl
@[simp] theorem kG_some {α : Type} (e : ME) (f : ME → Option α) : kG (some e) f = f e := rfl
@[simp] theorem kLoop_nx (e : ME) (f : ME → Option (Out × ME)) : kLoop (some (.nx, e)) f = f e := rfl
@[simp] theorem kLoop_cnt (e : ME) (f : ME → Option (Out × ME)) : kLoop (some (.cnt, e)) f = f e := rfl
@[simp] theorem kLoop_brk (e : ME) (f : ME → Option (Out × ME)) : kLoop (some (.brk, e)) f = some (.nx, e) := rfl
@[simp] theorem kLoop_ret (r : FR) (e : ME) (f : ME → Option (Out × ME)) : kLoop (some (.ret r, e)) f = some (.ret r, e) := rfl
@[simp] theorem kLoop_ex (r : Ex) (e : ME) (f : ME → Option (Out × ME)) : kLoop (some (.ex r, e)) f = some (.ex r, e) := rfl
@[simp] theorem gTup_k (fs : List TF) (ds : List D) (e : ME) : gTupM fs (.tup ds) e = if ds.length = fs.length then gSls fs ds e else none := rfl
@[simp] theorem gSls_nil (e : ME) : gSls [] [] e = some e := rfl
@[simp] theorem gSls_cons (f : TF) (fs : List TF) (d : D) (ds : List D) (e : ME) : gSls (f :: fs) (d :: ds) e = kG (f d e) (gSls fs ds) := rfl
theorem oAdd_ok (x y : Str) (h : x.length ≤ 10000) (h' : y.length ≤ 10000) : oAdd (.str x) (.str y) = some (.str (x ++ y)) := by
  rw [oAdd_s, if_pos (small_le (by omega))]
@[simp] theorem oRep_b (b : Bool) : oRep (.bl b) = some (.str (if b = true then "True" else "False")) := by cases b <;> rfl
def kOff : Option (Option Sl) → Bool
  | some (some _) => false
  | _ => true
@[simp] theorem offAt_nil (e : ME) : offAt [] e = true := rfl
@[simp] theorem offAt_cons (i : Nat) (vs : List Nat) (e : ME) : offAt (i :: vs) e = (kOff e.sl[i]? && offAt vs e) := by
  unfold offAt
  rw [List.all_cons]
  rfl
@[simp] theorem kOff_n : kOff (some none) = true := rfl
theorem gRng1_ok (j : Int) (h : -1000000000 ≤ j) (h' : j ≤ 1000000000) : gRng1 [.d (.int j)] = eRet (rng 0 j.toNat) := by
  show (if _ then _ else _) = _
  rw [if_pos (by omega)]
theorem gRng2_ok (i j : Int) (h : -1000000000 ≤ i) (h' : i ≤ 1000000000) (k : -1000000000 ≤ j) (k' : j ≤ 1000000000) : gRng2 [.d (.int i), .d (.int j)] = eRet (rng i (j - i).toNat) := by
  show (if _ then _ else _) = _
  rw [if_pos (by omega)]
theorem oNe_s (x y : Str) (h : PyData.strOk x = true) (h' : PyData.strOk y = true) : oNe (.str x) (.str y) = some (.bl (!(x == y))) := by
  simp [oNe, eqD, toPy, SeqAt.shaped, PyData.canLay0, PyData.depth, PyData.eqv, h, h']
theorem oEq_s (x y : Str) (h : PyData.strOk x = true) (h' : PyData.strOk y = true) : oEq (.str x) (.str y) = some (.bl (x == y)) := by
  simp [oEq, eqD, toPy, SeqAt.shaped, PyData.canLay0, PyData.depth, PyData.eqv, h, h']
@[simp] theorem oEq_i (x y : Int) : oEq (.int x) (.int y) = some (.bl (x == y)) := by
  simp [oEq, eqD, toPy, SeqAt.shaped, PyData.canLay0, PyData.depth, PyData.eqv]
@[simp] theorem oNe_i (x y : Int) : oNe (.int x) (.int y) = some (.bl (!(x == y))) := by
  simp [oNe, eqD, toPy, SeqAt.shaped, PyData.canLay0, PyData.depth, PyData.eqv]
@[simp] theorem oEq_b (x y : Bool) : oEq (.bl x) (.bl y) = some (.bl (x == y)) := by
  simp [oEq, eqD, toPy, SeqAt.shaped, PyData.canLay0, PyData.depth, PyData.eqv]
@[simp] theorem oNe_b (x y : Bool) : oNe (.bl x) (.bl y) = some (.bl (!(x == y))) := by
  simp [oNe, eqD, toPy, SeqAt.shaped, PyData.canLay0, PyData.depth, PyData.eqv]
theorem neTT : oNe (.str "True") (.str "True") = some (.bl false) := by
  rw [oNe_s _ _ (by decide +kernel) (by decide +kernel)]
  have : ((("True" : Str) == ("True" : Str)) : Bool) = true := by decide +kernel
  rw [this]
  rfl
theorem neFF : oNe (.str "False") (.str "False") = some (.bl false) := by
  rw [oNe_s _ _ (by decide +kernel) (by decide +kernel)]
  have : ((("False" : Str) == ("False" : Str)) : Bool) = true := by decide +kernel
  rw [this]
  rfl
end Mir

namespace Mir
open PySem PySem.Spec PyProof.Rows L2
/-! ## one slot more -/
section
variable {K : PySem.W.Frag} {S S' : SS} {env env' : ME} {σ : St} {H H' : Hp} {y z : Option V}
abbrev ME.pad (e : ME) (x : Option Sl) : ME := ⟨e.sl ++ [x], e.ce⟩
theorem pad_at {e : SLs} {i : Nat} {s : Sl} : (e ++ [none])[i]? = some (some s) ↔ e[i]? = some (some s) := by
  by_cases h : i < e.length
  · rw [List.getElem?_append_left h]
  · rw [List.getElem?_append_right (by omega)]
    constructor
    · intro q
      by_cases h0 : i - e.length = 0
      · rw [h0] at q
        cases q
      · rw [List.getElem?_eq_none (by simp; omega)] at q
        cases q
    · intro q
      rw [List.getElem?_eq_none (by omega)] at q
      cases q
theorem pad_l {e : ME} {l : Plc} {s : Sl} : (e.pad none).at l = some s ↔ e.at l = some s := by
  cases l with
  | s i => rw [at_s, at_s]; exact pad_at
  | c n => exact Iff.rfl
theorem pad_has {e : ME} {i : Plc} {m : MO} : Has (e.pad none) i m ↔ Has e i m := by
  constructor
  · rintro ⟨s, h1, h2⟩
    exact ⟨s, pad_l.mp h1, h2⟩
  · rintro ⟨s, h1, h2⟩
    exact ⟨s, pad_l.mpr h1, h2⟩
theorem pad_adr {l : Plc} {s : Sl} {a : Addr} (hl : env.sl.length = σ.length) (h : env.at l = some s) : Adr (σ ++ [y]) S l a ↔ Adr σ S l a := by
  cases l with
  | s i =>
    show (σ ++ [y])[i]? = _ ↔ σ[i]? = _
    rw [List.getElem?_append_left (by rw [← hl]; exact lt_of_at (at_s.mp h))]
  | c n => exact Iff.rfl
theorem Rel.pad (r : Rel K S env σ H) : Rel K S (env.pad none) (σ ++ [y]) H := by
  have lt : ∀ {i : Nat} {s : Sl}, env.sl[i]? = some (some s) → i < σ.length := fun e => by rw [← r.len]; exact lt_of_at e
  refine ⟨by simp [r.len], r.nlen, r.sub, fun i d e => ?_, fun i n e => ?_, fun i m e => ?_, fun i j m m' a e1 e2 e3 e4 => ?_⟩
  · have e := pad_at.mp e
    rw [List.getElem?_append_left (lt e)]
    exact r.val i d e
  · have e := pad_at.mp e
    rw [List.getElem?_append_left (lt e)]
    exact r.hnd i n e
  · have e := pad_has.mp e
    obtain ⟨s, q, _⟩ := id e
    obtain ⟨a, o, q1, q2⟩ := r.obj i m e
    exact ⟨a, o, (pad_adr r.len q).mpr q1, q2⟩
  · have e1 := pad_has.mp e1
    have e2 := pad_has.mp e2
    obtain ⟨s, q, _⟩ := id e1
    obtain ⟨s', q', _⟩ := id e2
    exact r.dis i j m m' a e1 e2 ((pad_adr r.len q).mp e3) ((pad_adr r.len q').mp e4)
theorem Step.unpad (st : Step K S (env.pad none) (σ ++ [y]) H S' (env'.pad none) (σ ++ [z]) H') (l : env.sl.length = σ.length) : Step K S env σ H S' env' σ H' := by
  have l' : env'.sl.length = σ.length := by
    have := st.rel.len
    simpa using this
  have lt : ∀ {i : Nat} {s : Sl}, env.sl[i]? = some (some s) → i < σ.length := fun e => by rw [← l]; exact lt_of_at e
  have lt' : ∀ {i : Nat} {s : Sl}, env'.sl[i]? = some (some s) → i < σ.length := fun e => by rw [← l']; exact lt_of_at e
  have own : ∀ {a : Addr}, OwnO (env.pad none) (σ ++ [y]) S a → OwnO env σ S a := fun ⟨i, m, e1, e2⟩ => by
    have e1 := pad_l.mp e1
    exact ⟨i, m, e1, (pad_adr l e1).mp e2⟩
  refine ⟨⟨l', st.rel.nlen, st.rel.sub, fun i d e => ?_, fun i n e => ?_, fun i m e => ?_, fun i j m m' a e1 e2 e3 e4 => ?_⟩, st.le, st.nm, fun b hb => ?_, fun b o e hS n => st.frame b o e hS ?_, fun i m e => ?_, fun i m e => ?_, fun a ha => ?_, rfl, st.keep⟩
  · have := st.rel.val i d (pad_at.mpr e)
    rwa [List.getElem?_append_left (lt' e)] at this
  · have := st.rel.hnd i n (pad_at.mpr e)
    rwa [List.getElem?_append_left (lt' e)] at this
  · obtain ⟨s, q, _⟩ := id e
    obtain ⟨a, o, q1, q2⟩ := st.rel.obj i m (pad_has.mpr e)
    exact ⟨a, o, (pad_adr l' q).mp q1, q2⟩
  · obtain ⟨s, q, _⟩ := id e1
    obtain ⟨s', q', _⟩ := id e2
    exact st.rel.dis i j m m' a (pad_has.mpr e1) (pad_has.mpr e2) ((pad_adr l' q).mpr e3) ((pad_adr l' q').mpr e4)
  · rcases st.fresh b hb with h | h | h
    · exact .inl h
    · exact .inr (.inl h)
    · exact .inr (.inr (own h))
  · rintro ⟨i, m, e1, e2⟩
    have e1 := pad_has.mp e1
    obtain ⟨s, q, _⟩ := id e1
    exact n ⟨i, m, e1, (pad_adr l q).mp e2⟩
  · obtain ⟨⟨m', q1⟩, q2⟩ := st.bor i m (pad_at.mpr e)
    exact ⟨⟨m', pad_at.mp q1⟩, rfl⟩
  · obtain ⟨m', q⟩ := st.borr i m (pad_at.mpr e)
    exact ⟨m', pad_at.mp q⟩
  · obtain ⟨i, m, e1, e2⟩ := ha
    rcases st.own a ⟨i, m, pad_l.mpr e1, (pad_adr l' e1).mpr e2⟩ with h | h
    · exact .inl (own h)
    · exact .inr h
theorem set_pad {α : Type} (e : List α) (x z : α) : (e ++ [x]).set e.length z = e ++ [z] := by
  rw [List.set_append_right _ _ (Nat.le_refl _)]
  simp
theorem RAs.pad : ∀ {as : List AV} {vs : List V}, RAs K σ S as vs → RAs K (σ ++ [y]) S as vs
  | [], _, h => h
  | .d d :: as, _, h => by
    obtain ⟨v, r, e, p, q⟩ := h
    exact ⟨v, r, e, p, RAs.pad q⟩
  | .hd d :: as, _, h => by
    obtain ⟨v, r, e, p, q⟩ := h
    exact ⟨v, r, e, p, RAs.pad q⟩
  | .own i :: as, _, h => by
    obtain ⟨v, r, e, p, q⟩ := h
    have p' : σ[i]? = some (some v) := p
    refine ⟨v, r, e, ?_, RAs.pad q⟩
    show (σ ++ [y])[i]? = some (some v)
    rw [List.getElem?_append_left (lt_of_at p')]
    exact p'
theorem lend_pad {env : SLs} {x : Option Sl} : ∀ {as : List AV} {sl : List Sl}, lend env as = some sl → lend (env ++ [x]) as = some sl ∧ env.length ∉ ixs as
  | [], sl, h => ⟨h, by simp⟩
  | .d d :: as, sl, h => by
    rw [lend_d] at h ⊢
    cases hq : lend env as with
    | none => rw [hq] at h; cases h
    | some q =>
      obtain ⟨h1, h2⟩ := lend_pad (x := x) hq
      rw [hq] at h
      exact ⟨by rw [h1]; exact h, h2⟩
  | .hd d :: as, sl, h => by
    rw [lend_h] at h ⊢
    cases hq : lend env as with
    | none => rw [hq] at h; cases h
    | some q =>
      obtain ⟨h1, h2⟩ := lend_pad (x := x) hq
      rw [hq] at h
      exact ⟨by rw [h1]; exact h, h2⟩
  | .own i :: as, sl, h => by
    rw [lend_o] at h ⊢
    cases hq : lend env as with
    | none =>
      rw [hq] at h
      unfold kM at h
      split at h <;> cases h
    | some q =>
      obtain ⟨h1, h2⟩ := lend_pad (x := x) hq
      have hi : i < env.length := by
        cases hz : env[i]? with
        | none => rw [hz] at h; cases h
        | some s => exact lt_of_at hz
      rw [hq] at h
      rw [h1, List.getElem?_append_left hi]
      refine ⟨h, ?_⟩
      rw [ixs_o]
      simp only [List.mem_cons, not_or]
      exact ⟨by omega, h2⟩
theorem putB_pad {env : SLs} {x : Option Sl} : ∀ {as : List AV} {sl : List Sl} {q : List Sl}, lend env as = some sl → putB (env ++ [x]) as q = putB env as q ++ [x]
  | [], sl, q, h => by simp
  | .d d :: as, sl, [], h => rfl
  | .hd d :: as, sl, [], h => rfl
  | .own i :: as, sl, [], h => rfl
  | .d d :: as, sl, s :: q, h => by
    rw [lend_d] at h
    cases hq : lend env as with
    | none => rw [hq] at h; cases h
    | some q' =>
      rw [putB_d, putB_d]
      exact putB_pad hq
  | .hd d :: as, sl, s :: q, h => by
    rw [lend_h] at h
    cases hq : lend env as with
    | none => rw [hq] at h; cases h
    | some q' =>
      rw [putB_h, putB_h]
      exact putB_pad hq
  | .own i :: as, sl, s :: q, h => by
    rw [lend_o] at h
    cases hq : lend env as with
    | none =>
      rw [hq] at h
      unfold kM at h
      split at h <;> cases h
    | some q' =>
      have hi : i < env.length := by
        cases hz : env[i]? with
        | none => rw [hz] at h; cases h
        | some s => exact lt_of_at hz
      have ih := putB_pad (x := x) (q := q) hq
      cases s with
      | b m =>
        rw [putB_o, putB_o, ih, List.getElem?_append_left hi]
        unfold kPut
        cases hz : env[i]? with
        | none => rfl
        | some s => cases s with
          | none => rfl
          | some s =>
            dsimp only
            rw [List.set_append_left _ _ (by rw [putB_len]; exact hi)]
      | v d => exact ih
      | o m => exact ih
      | h m => exact ih
end
theorem ras_app {K : PySem.W.Frag} {S : SS} {σ : St} : ∀ {as bs : List AV} {vs ws : List V}, RAs K σ S as vs → RAs K σ S bs ws → RAs K σ S (as ++ bs) (vs ++ ws)
  | [], _, _, _, h, h' => by
    cases h
    exact h'
  | a :: as, _, _, _, h, h' => by
    obtain ⟨v, r, rfl, p, q⟩ := h
    exact ⟨v, _, rfl, p, ras_app q h'⟩
theorem ras_d {K : PySem.W.Frag} {S : SS} {σ : St} : ∀ {ds : List D} {vs : List V}, Reps K S ds vs → RAs K σ S (ds.map .d) vs
  | [], _, h => h
  | d :: ds, _, h => by
    obtain ⟨v, r, rfl, p, q⟩ := h
    exact ⟨v, r, rfl, p, ras_d q⟩
/-! ## C(e, ..) -/
/-- the first parameter of the __init__ is the new object; ex: defaults behind the written arguments -/
def kMakeG (sh : Bool) (C : Str) (mf : MF) (as : List AV) : EF FR := fun env => if (ixs as).Nodup then match lend env.sl as with
  | some sl => if sh || sl.all Sl.flat then match mf (.b (.ins C []) :: sl) (celC sh env.ce) with
    | some (.ok (.d .non), .b m :: q, ce') => if sh || (q.all Sl.flat && m.flat) then some (.ok (.o m), ⟨putB env.sl as q, menC sh env.ce ce'⟩) else none
    | some (.ex x, .b m :: q, ce') => if sh || (q.all Sl.flat && m.flat) then some (.ex x, ⟨putB env.sl as q, menC sh env.ce ce'⟩) else none
    | _ => none
    else none
  | none => none
  else none
def eMakeG (sh : Bool) (C : Str) (mf : MF) (ex : List D) (fas : EF (List AV)) : EF FR := eBind fas fun as => kMakeG sh C mf (as ++ ex.map .d)
abbrev eMake (C : Str) (mf : MF) (ex : List D) (fas : EF (List AV)) : EF FR := eMakeG false C mf ex fas
section
variable {K : PySem.W.Frag} {S : SS} {env : ME} {σ : St} {H : Hp} {sh : Bool}
theorem Rel.nil (r : Rel K S env σ H) : Rel K (S.nam []) ⟨[], []⟩ [] H := by
  refine ⟨rfl, rfl, r.sub, fun i d e => ?_, fun i n e => ?_, fun l m ⟨s, e, _⟩ => ?_, fun l l' m m' a ⟨s, e, _⟩ => ?_⟩
  · simp at e
  · simp at e
  · cases l with
    | s i => have := at_s.mp e; simp at this
    | c n => obtain ⟨_, _, q⟩ := at_c.mp e; simp at q
  · cases l with
    | s i => have := at_s.mp e; simp at this
    | c n => obtain ⟨_, _, q⟩ := at_c.mp e; simp at q
theorem menC_len {ce ce' : CEs} {p : ME} (h : p.ce = menC sh ce ce') : p.ce = menC sh ce ce' := h
theorem make_sp {n : Nat} {mf : MF} {C : Str} {Ca : Addr} {as : List AV} {vs : List V} {sl q : List Sl} {ce' : CEs} {r : Res FR} {m : MO} {Q : VK} {E : XK} (rel : Rel K S env σ H) (ra : RAs K σ S as vs) (cn : ClsN K C Ca)
    (hn : (ixs as).Nodup) (hl : lend env.sl as = some sl) (hlen : as.length + 1 = n) (f1 : (sh || sl.all Sl.flat) = true) (hm : mf (.b (.ins C []) :: sl) (celC sh env.ce) = some (r, .b m :: q, ce')) (f2 : (sh || (q.all Sl.flat && m.flat)) = true)
    (h : (r = .ok (.d .non) ∧ ∀ S' H', Step K S env σ H S' ⟨putB env.sl as q, menC sh env.ce ce'⟩ σ H' → PostF K Q E (.ok (.o m)) S' H') ∨ ∃ x, r = .ex x ∧ ∀ S' H', Step K S env σ H S' ⟨putB env.sl as q, menC sh env.ce ce'⟩ σ H' → ∀ cls dd, RepX K S' x cls dd H' → E cls dd H') :
    ∀ x dx, H x = none → H dx = none → dx ≠ x → spM K n mf (.ref x :: vs) (upd (upd H dx (.own x)) x (.ins Ca dx [])) (fun v H2 => v = .non ∧ Q (.ref x) H2) E := by
  intro x dx hx hdx hne
  have st1 : Step K S env σ H S env σ (upd H dx (.own x)) := rel.beside hdx
  have relp : Rel K S (env.pad none) (σ ++ [none]) (upd H dx (.own x)) := st1.rel.pad
  have hx' : (upd H dx (.own x)) x = none := by rw [upd_ne (Ne.symm hne)]; exact hx
  have nb : NotB (env.pad none) env.sl.length := fun m' e => by
    rw [List.getElem?_append_right (Nat.le_refl _), Nat.sub_self] at e
    cases e
  have sO := relp.setO (i := env.sl.length) (m := .ins C []) (p := x) (o := .ins Ca dx []) nb hx' ⟨Ca, dx, [], cn, rfl, rfl⟩
  have hs1 : (env.pad none).set env.sl.length (some (.o (.ins C []))) = env.pad (some (.o (.ins C []))) := by
    show ME.mk _ _ = ME.mk _ _
    rw [set_pad]
  rw [hs1, show env.sl.length = σ.length from rel.len, set_pad] at sO
  obtain ⟨hl2, hni⟩ := lend_pad (x := some (.o (.ins C []))) hl
  have hat : (env.sl ++ [some (.o (.ins C []))])[env.sl.length]? = some (some (.o (.ins C []))) := by
    rw [List.getElem?_append_right (Nat.le_refl _), Nat.sub_self]
    rfl
  refine call_sp (sh := sh) (as := .own env.sl.length :: as) (vs := .ref x :: vs) (sl := .b (.ins C []) :: sl) (sl' := .b m :: q) (ce' := ce') (r := r) sO.rel ⟨.ref x, vs, rfl, ?_, ra.pad⟩ ?_ ?_ (by simpa using hlen) ?_ hm ?_ fun S' H' st => ?_
  · show (σ ++ [some (V.ref x)])[env.sl.length]? = _
    rw [show env.sl.length = σ.length from rel.len, List.getElem?_append_right (Nat.le_refl _), Nat.sub_self]
    rfl
  · rw [ixs_o]
    exact List.nodup_cons.mpr ⟨hni, hn⟩
  · rw [lend_o]
    show kM (env.sl ++ [some (.o (.ins C []))])[env.sl.length]? (lend (env.sl ++ [some (.o (.ins C []))]) as) = _
    rw [hl2, hat]
    rfl
  · cases sh with
    | true => rfl
    | false => simpa using f1
  · cases sh with
    | true => rfl
    | false =>
      have f2' : (q.all Sl.flat) = true ∧ m.flat = true := by simpa using f2
      rcases h with ⟨rfl, _⟩ | ⟨e, rfl, _⟩
      · simp [f2'.2, rFlat, FR.flat]
        simpa using f2'.1
      · simp [f2'.2, rFlat]
        simpa using f2'.1
  · have hp : putB (env.sl ++ [some (.o (.ins C []))]) (.own env.sl.length :: as) (.b m :: q) = putB env.sl as q ++ [some (.o m)] := by
      rw [putB_o, hat, putB_pad hl]
      unfold kPut
      dsimp only
      rw [show env.sl.length = (putB env.sl as q).length from (putB_len env.sl as q).symm, set_pad]
      rfl
    have st : Step K S (env.pad (some (.o (.ins C [])))) (σ ++ [some (.ref x)]) (upd (upd H dx (.own x)) x (.ins Ca dx [])) S' ⟨putB (env.sl ++ [some (.o (.ins C []))]) (.own env.sl.length :: as) (.b m :: q), menC sh env.ce ce'⟩ (σ ++ [some (.ref x)]) H' := st
    rw [hp] at st
    have hat2 : (putB env.sl as q ++ [some (.o m)])[env.sl.length]? = some (some (.o m)) := by
      rw [show env.sl.length = (putB env.sl as q).length from (putB_len env.sl as q).symm, List.getElem?_append_right (Nat.le_refl _), Nat.sub_self]
      rfl
    have hσ : (σ ++ [some (V.ref x)])[env.sl.length]? = some (some (V.ref x)) := by
      rw [show env.sl.length = σ.length from rel.len, List.getElem?_append_right (Nat.le_refl _), Nat.sub_self]
      rfl
    have pl : (putB env.sl as q ++ [some (Sl.o m)]).set env.sl.length none = putB env.sl as q ++ [none] := by
      rw [show env.sl.length = (putB env.sl as q).length from (putB_len env.sl as q).symm, set_pad]
    have pl2 : ME.set ⟨putB env.sl as q ++ [some (Sl.o m)], menC sh env.ce ce'⟩ env.sl.length none = (ME.mk (putB env.sl as q) (menC sh env.ce ce')).pad none := by
      show ME.mk _ _ = ME.mk _ _
      rw [pl]
    rcases h with ⟨rfl, h⟩ | ⟨e, rfl, h⟩
    · have so := st.rel.out hat2 hσ
      rw [pl2] at so
      have T := st1.trans (((sO.trans st).trans so).unpad rel.len)
      obtain ⟨a, o, e1, e2, _, e4⟩ := st.rel.objS hat2 rfl
      rw [hσ] at e1
      cases e1
      have z := h S' (less H' x) T x o less_same e4
      rw [upd_less e2] at z
      exact fun v hv => ⟨hv, z⟩
    · have sf := st.rel.forget (i := env.sl.length) (x := none) fun m' e' => by
        rw [hat2] at e'
        cases e'
      rw [pl2] at sf
      have sl : (σ ++ [some (V.ref x)]).set env.sl.length none = σ ++ [none] := by rw [show env.sl.length = σ.length from rel.len, set_pad]
      rw [sl] at sf
      exact h S' H' (st1.trans (((sO.trans st).trans sf).unpad rel.len))
/-- what the reading of C(..) asks -/
theorem AtF.make {W : WX} {n : Nat} {mf : MF} {C : Str} {Ca : Addr} {ex : List D} {dvs : List V} {fas : EF (List AV)} {Q : VK} (hdv : ∀ S, Reps K S ex dvs) (cn : ClsN K C Ca) (h : AtF K W (eMakeG sh C mf ex fas) S env σ H Q) (hlen : ∀ e as e', fas e = some (.ok as, e') → as.length + ex.length + 1 = n) :
    At K W (RAl K) fas S env σ H fun vs H1 => ∀ x dx, H1 x = none → H1 dx = none → dx ≠ x → spM K n mf (.ref x :: (vs ++ dvs)) (upd (upd H1 dx (.own x)) x (.ins Ca dx [])) (fun v H2 => v = .non ∧ Q (.ref x) H2) fun cls dd H2 => W cls dd σ H2 := by
  obtain ⟨r, env', rel, e, q⟩ := h
  unfold eMakeG eBind at e
  cases ef : fas env with
  | none => rw [ef] at e; cases e
  | some p =>
    obtain ⟨r1, e1⟩ := p
    rw [ef] at e
    cases r1 with
    | ex x =>
      have e' : some (Res.ex x, e1) = some (r, env') := e
      cases e'
      exact ⟨.ex x, _, rel, ef, fun S' H' st => q S' H' st⟩
    | ok as =>
      refine ⟨.ok as, e1, rel, ef, fun S1 H1 st vs rv => ?_⟩
      dsimp only at e
      have rv2 : RAs K σ S1 (as ++ ex.map .d) (vs ++ dvs) := ras_app rv (ras_d (hdv S1.hp))
      have hlen2 : (as ++ ex.map AV.d).length + 1 = n := by rw [List.length_append, List.length_map]; exact hlen _ _ _ ef
      unfold kMakeG at e
      split at e
      · rename_i hn
        split at e
        · rename_i sl hsl
          split at e
          · rename_i f1
            split at e
            · rename_i m q' ce' hm
              split at e
              · rename_i f2
                cases e
                exact make_sp st.rel rv2 cn hn hsl hlen2 f1 hm f2 (.inl ⟨rfl, fun S' H' st' => q S' H' (st.trans st')⟩)
              · cases e
            · rename_i x m q' ce' hm
              split at e
              · rename_i f2
                cases e
                exact make_sp st.rel rv2 cn hn hsl hlen2 f1 hm f2 (.inr ⟨_, rfl, fun S' H' st' => q S' H' (st.trans st')⟩)
              · cases e
            · cases e
          · cases e
        · cases e
      · cases e
end
end Mir

namespace Mir
open PySem PySem.Spec PyProof.Rows L2
section
variable {X : Cx} {W : WX}
/-! ## C(e, ..): the class's own def runs, what it raises is wished for at the caller's slots -/
theorem mk_run {XT : CXT} {k : Nat} {f Ca : Addr} {fd : FuncData} {ps : List Str} {sp : Sp} {dv : List V} {dl : List Value} {E : XK} {pn : List (Addr × Obj)} {σ : St} {h0 : Hp} {s0 : Shared} {G : VK} {us : List Value} {vs : List V}
    (M : Mk X.K Ca f) (F : FnOk X.prog X.w X.K X.mg X.base XT k f fd ps sp) (room : Room (k + 1) X.A) (bd : Binds X.K fd ps dl) (vd : Vals dv dl) (hx : PassesAt XT X σ E) (inv : Inv X pn σ h0 s0) (rv : Vals vs us)
    (hsp : ∀ x dx, h0 x = none → h0 dx = none → dx ≠ x → sp (.ref x :: (vs ++ dv)) (upd (upd h0 dx (.own x)) x (.ins Ca dx [])) (fun v h2 => v = .non ∧ G (.ref x) h2) E) :
    wpAny (model X.prog X.w) X.A (call (.ref Ca) us) (EP X pn σ G) X.xe s0 := by
  have made := Inv.made (C := Ca) inv
  have told := hsp (s0.heap.objs.size + 1) s0.heap.objs.size (inv.hok.fresh (by omega)) (inv.hok.fresh (by omega)) (Nat.ne_of_lt (Nat.lt_succ_self _))
  have all : Vals (V.ref (s0.heap.objs.size + 1) :: (vs ++ dv)) (Value.ref (s0.heap.objs.size + 1) :: (us ++ dl)) := .cons rfl (rv.append vd)
  have many : (Value.ref (s0.heap.objs.size + 1) :: us ++ dl).length = ps.length := by
    rw [← F.len _ _ _ _ told]
    exact all.length.symm
  have ran := F.run _ X.stack _ _ ⟨Value.ref (s0.heap.objs.size + 1) :: us, []⟩ _ _ _ E (room.make Ca us []) (made.env0.make Ca us []) (bd _ (Value.ref (s0.heap.objs.size + 1) :: us) made.kIn many) all told
  refine wpAny_call (make_map (f := f) inv.kIn M.makes M.init (beq_iff_eq.mp M.fn) (codeAny_mono ran fun r s2 hr => ?_))
  match r, hr with
  | .error e, hr => exact hx pn _ _ e s2 made hr
  | .ok (.ret u), hr =>
    obtain ⟨v, h2, inv2, ru, ev, g⟩ := made.after hr
    subst ev
    exact ⟨ru, V.ref (s0.heap.objs.size + 1), h2, inv2, rfl, g⟩
  | .ok .next, hr => exact hr.elim
  | .ok .brk, hr => exact hr.elim
  | .ok .cont, hr => exact hr.elim
def tMk (Ca : Addr) (sp : Sp) (dv : List V) (E : St → XK) (t : TA) : TE := fun σ H Q => t σ H fun vs H1 => ∀ x dx, H1 x = none → H1 dx = none → dx ≠ x → sp (.ref x :: (vs ++ dv)) (upd (upd H1 dx (.own x)) x (.ins Ca dx [])) (fun v H2 => v = .non ∧ Q (.ref x) H2) (E σ)
/-- a class of the program that is made by its own __init__ -/
structure Made (K : PySem.W.Frag) (mg : Str → Option Value) (C : Str) (Ca f : Addr) : Prop where
  mak : Mk K Ca f
  cn : ClsN K C Ca
  at_ : mg C = some (.ref Ca)
variable {k j n : Nat} {f Ca : Addr} {fd : FuncData} {ps : List Str} {mf : MF} {C : Str} {p pos apos : Pos} {e : Expr} {es : List Expr} {fas : EF (List AV)}
theorem df_make {sh : Bool} (ex : List D) {dvs : List V} {dl : List Value} (tk : TkC X W) (M : Made X.K X.mg C Ca f) (F : FnOk X.prog X.w X.K X.mg X.base (L2.CX X.prog X.w) k f fd ps (spM X.K n mf)) (hb : Binds X.K fd ps dl) (hd : Vals dvs dl) (hdv : ∀ S, Reps X.K S ex dvs)
    (hr : Room j X.A) (hj : k + 1 ≤ j) (ha : DA X W (e :: es) fas) (hlen : ∀ en as en', fas en = some (.ok as, en') → as.length + ex.length + 1 = n)
    (hg : Gl X C := by rfl) (hdb : (C == ("__debug__" : Str)) = false := by decide) (he : starEach (e :: es) X.env = (false, eval e X.env) :: starEach es X.env := by rfl) (hpl : (backTo pos (starEach es X.env)).any (·.1) = false := by rfl) :
    DF X W (.Call (.Name C p) (e :: es) [] pos) (eMakeG sh C mf ex fas) := by
  have base : PE X (.Call (.Name C p) (e :: es) [] pos) (tMk Ca (spM X.K n mf) dvs (fun σ cls dd H => W cls dd σ H) (tr X.K W (RAl X.K) fas)) := by
    refine ⟨fun pn s σ H Q inv h => wpAny_Call_Name_kw (ld_glob inv hg M.at_ ?_ hdb)⟩
    refine PySem.W.callWith_K (h₀ := X.base) inv.ok.mod.kin M.mak.kp (thn (PA.run ha pos pn s σ H _ inv h) fun us s1 ⟨vs, H1, inv1, rv, q⟩ => ⟨inv1.kIn, ?_⟩) he hpl
    exact mk_run M.mak F (hr.mono hj) hb hd (tk σ) inv1 rv q
  refine pe_imp base ?_
  rintro σ H Q ⟨S, env, z⟩
  exact ⟨S, env, z.make hdv M.cn hlen⟩
theorem df_make0 {sh : Bool} (ex : List D) {dvs : List V} {dl : List Value} (tk : TkC X W) (M : Made X.K X.mg C Ca f) (F : FnOk X.prog X.w X.K X.mg X.base (L2.CX X.prog X.w) k f fd ps (spM X.K n mf)) (hb : Binds X.K fd ps dl) (hd : Vals dvs dl) (hdv : ∀ S, Reps X.K S ex dvs)
    (hr : Room j X.A) (hj : k + 1 ≤ j) (hlen : ex.length + 1 = n) (hg : Gl X C := by rfl) (hdb : (C == ("__debug__" : Str)) = false := by decide) :
    DF X W (.Call (.Name C p) [] [] pos) (eMakeG sh C mf ex (eRet [])) := by
  have base : PE X (.Call (.Name C p) [] [] pos) (tMk Ca (spM X.K n mf) dvs (fun σ cls dd H => W cls dd σ H) fun _ H Q => Q [] H) := by
    refine ⟨fun pn s σ H Q inv h => wpAny_Call_Name_kw (ld_glob inv hg M.at_ ?_ hdb)⟩
    exact PySem.W.callWith_K0 inv.kIn M.mak.kp (mk_run (us := []) M.mak F (hr.mono hj) hb hd (tk σ) inv .nil h)
  refine pe_imp base ?_
  rintro σ H Q ⟨S, env, z⟩
  have z2 := z.make hdv M.cn fun en as en' h => by
    cases h
    simpa using hlen
  exact z2.ret (R := RAl X.K) rfl
/-! ## o.f -/
/-- a class whose instances are plain: f is the instance's own -/
structure Plain (K : PySem.W.Frag) (C : Str) (Ca : Addr) : Prop where
  cls : Cls K Ca
  cn : ClsN K C Ca
def oFld (C f : Str) : D → Option D
  | .ins c fs => if c = C then fs.lookup f else none
  | _ => none
theorem repF_lookup {K : PySem.W.Frag} {S : Hp} {f : Str} : ∀ {gs : List (Str × D)} {fs : List (Str × V)} {d : D}, RepF K S gs fs → gs.lookup f = some d → ∃ v, fs.lookup f = some v ∧ Rep K S d v
  | [], fs, d, h, e => by simp at e
  | (g, x) :: gs, _, d, h, e => by
    obtain ⟨v, r, rfl, p, q⟩ := h
    rw [List.lookup_cons] at e ⊢
    cases hb : f == g with
    | true =>
      rw [hb] at e
      cases e
      exact ⟨v, rfl, p⟩
    | false =>
      rw [hb] at e
      exact repF_lookup q e
theorem de_fld {o : Expr} {fo : EF AV} {fl : Str} (ho : DV X W o fo) (P : Plain X.K C Ca) (na : NoAttr X.K Ca fl) (hb : attributeBase o fl X.env (eval o X.env) = eval o X.env := by rfl) : DE X W (.Attribute o fl pos) (eBind fo fun a => eOn a (oFld C fl)) := by
  refine pe_imp (pe_fld ho hb) ?_
  rintro σ H Q ⟨S, env, z⟩
  refine ⟨S, env, (At.bind (R := RAv X.K) z).imp fun v H1 ⟨a, S1, e1, ra, st, z1⟩ => ?_⟩
  obtain ⟨d, y, r1, hy, rel, q⟩ := z1.on ra
  cases d with
  | ins c fs =>
    unfold oFld at hy
    dsimp only at hy
    split at hy
    · rename_i hc
      subst hc
      obtain ⟨Ca', a', dx, fv, cn, rfl, hH, rf⟩ := r1
      have hca := cn.inj P.cn
      subst hca
      obtain ⟨w, hw, rw'⟩ := repF_lookup rf hy
      exact ⟨a', _, dx, fv, w, rfl, hH, P.cls, na, hw, q S1 H1 rel.step w rw'⟩
    · cases hy
  | _ => cases hy
/-! ## o.f = e, o a name that holds an object of its own or a lent one -/
def putD (f : Str) (d : D) : List (Str × D) → List (Str × D)
  | [] => [(f, d)]
  | (g, x) :: r => if g = f then (g, d) :: r else (g, x) :: putD f d r
theorem repF_put {K : PySem.W.Frag} {S : Hp} {f : Str} {d : D} {v : V} (h : Rep K S d v) : ∀ {gs : List (Str × D)} {fs : List (Str × V)}, RepF K S gs fs → RepF K S (putD f d gs) (L2.putF f v fs)
  | [], _, r => by
    cases r
    exact ⟨v, [], rfl, h, rfl⟩
  | (g, x) :: gs, _, r => by
    obtain ⟨w, r', rfl, p, q⟩ := r
    unfold putD L2.putF
    by_cases e : g = f
    · rw [if_pos e, if_pos e]
      exact ⟨v, r', rfl, h, q⟩
    · rw [if_neg e, if_neg e]
      exact ⟨w, _, rfl, p, repF_put h q⟩
theorem repF_len {K : PySem.W.Frag} {S : Hp} : ∀ {gs : List (Str × D)} {fs : List (Str × V)}, RepF K S gs fs → gs.length = fs.length
  | [], _, r => by cases r; rfl
  | (g, x) :: gs, _, r => by
    obtain ⟨w, r', rfl, p, q⟩ := r
    simp [repF_len q]
def insAt (env : ME) (i : Nat) : Option (Sl × Str × List (Str × D)) := match env.sl[i]? with
  | some (some s) => match s.mo with
    | some (.ins C fs) => some (s, C, fs)
    | _ => none
  | _ => none
theorem insAt_inv {env : ME} {i : Nat} {s : Sl} {C : Str} {fs : List (Str × D)} (h : insAt env i = some (s, C, fs)) : env.sl[i]? = some (some s) ∧ s.mo = some (.ins C fs) := by
  unfold insAt at h
  split at h
  · rename_i s' hs
    split at h
    · rename_i hm
      cases h
      exact ⟨hs, hm⟩
    · cases h
  · cases h
def sPutF (i : Nat) (C fl : Str) (fe : EF D) : SF := sBind fe fun d env => match insAt env i with
  | some (s, c, fs) => if c = C ∧ fs.length < 900 then some (.nx, env.set i (some (s.put (.ins c (putD fl d fs))))) else none
  | none => none
theorem ds_putF (i : Nat) {x fl : Str} {p tp : Pos} {fe : EF D} (he : DE X W e fe) (P : Plain X.K C Ca) (na : NoAttr X.K Ca fl) (hN : X.N[i]? = some x := by rfl) (hv : Vis X.env.scope x := by first | exact Or.inl rfl | exact Or.inr (Or.inl rfl) | exact Or.inr (Or.inr rfl))
    (hd : (x == ("__debug__" : Str)) = false := by decide) (hcd : (x == ("__classdict__" : Str)) = false := by decide) (hs : swapsWith e (some (.Attribute (.Name x p) fl tp)) pos.line X.env = pure false := by rfl) :
    DS X W (.Assign [.Attribute (.Name x p) fl tp] e pos) (sPutF i C fl fe) := by
  refine ps_imp (ps_fld (pe_var hN hv hd hcd) he hs) ?_
  rintro Dn σ H ⟨S, env, z⟩
  refine ⟨S, env, (AtS.bind (R := RD X.K) z).imp fun v H1 ⟨d, S1, e1, r, st, z1⟩ => ?_⟩
  obtain ⟨o1, e', rel1, ef, q1⟩ := z1
  dsimp only at ef
  split at ef
  · rename_i s c fs hi
    split at ef
    · rename_i hc
      cases ef
      obtain ⟨rfl, hlen⟩ := hc
      obtain ⟨h1, h2⟩ := insAt_inv hi
      obtain ⟨a, o, x1, x2, x3, Ca', dx, fv, cn, rfl, rf⟩ := rel1.objS h1 h2
      have hca := cn.inj P.cn
      subst hca
      refine ⟨.ref a, x1, a, _, dx, fv, rfl, x2, P.cls, na, by rw [← repF_len rf]; omega, ?_⟩
      exact q1 _ _ _ (rel1.mut h1 h2 x1 ⟨_, dx, _, cn, rfl, repF_put r rf⟩)
    · cases ef
  · cases ef
end
end Mir

namespace Mir
open PySem PySem.Spec PyProof.Rows L2
section
variable {X : Cx} {W : WX} {k j n : Nat} {f Ca : Addr} {fd : FuncData} {ps : List Str} {mf : MF} {C : Str} {p pos apos : Pos} {e o : Expr} {es : List Expr} {fas : EF (List AV)}
/-! ## o.m(e, ..) -/
/-- the class of an object, and whether it has an attribute of its own -/
def insM (m : Str) : MO → Option (Str × Bool)
  | .ins C fs => some (C, (fs.lookup m).isSome)
  | .insA C fs => some (C, (fs.lookup m).isSome)
  | _ => none
def insS (m : Str) : Option (Option Sl) → Option (Str × Bool)
  | some (some (.o o)) => insM m o
  | some (some (.b o)) => insM m o
  | _ => none
def insC (m : Str) : Option (Option MO) → Option (Str × Bool)
  | some (some o) => insM m o
  | _ => none
def insV (m : Str) : AV → ME → Option (Str × Bool)
  | .d (.ins C fs), _ => some (C, (fs.lookup m).isSome)
  | .d _, _ => none
  | .own i, env => insS m env.sl[i]?
  | .hd n, env => insC m env.ce[n]?
def kMeth (sh : Bool) (C m : Str) (mf : MF) (ex : List D) (fas : EF (List AV)) (a : AV) : EF FR := fun env => match insV m a env with
  | some (c, false) => if c = C then eBind fas (fun as => kCallG sh mf (a :: (as ++ ex.map .d))) env else none
  | _ => none
def eMethG (sh : Bool) (C m : Str) (mf : MF) (ex : List D) (fo : EF AV) (fas : EF (List AV)) : EF FR := eBind fo (kMeth sh C m mf ex fas)
abbrev eMeth (C m : Str) (mf : MF) (ex : List D) (fo : EF AV) (fas : EF (List AV)) : EF FR := eMethG false C m mf ex fo fas
theorem rhk_lookup {K : PySem.W.Frag} {S : SS} {f : Str} : ∀ {gs : List (Str × HV)} {fs : List (Str × V)}, RHK K S gs fs → (∀ d, gs.lookup f = some d → ∃ v, fs.lookup f = some v ∧ RH K S d v) ∧ (gs.lookup f = none → fs.lookup f = none)
  | [], fs, e => by
    cases e
    exact ⟨fun d h => by simp at h, fun _ => rfl⟩
  | (g, x) :: gs, _, e => by
    obtain ⟨v, r, rfl, p, q⟩ := e
    rw [List.lookup_cons, List.lookup_cons]
    cases hb : f == g with
    | true => exact ⟨fun d h => by cases h; exact ⟨v, rfl, p⟩, fun h => by cases h⟩
    | false => exact rhk_lookup q
theorem repF_none {K : PySem.W.Frag} {S : Hp} {f : Str} : ∀ {gs : List (Str × D)} {fs : List (Str × V)}, RepF K S gs fs → gs.lookup f = none → fs.lookup f = none
  | [], _, r, _ => by cases r; rfl
  | (g, x) :: gs, _, r, e => by
    obtain ⟨w, r', rfl, p, q⟩ := r
    rw [List.lookup_cons] at e ⊢
    cases hb : f == g with
    | true => rw [hb] at e; cases e
    | false => rw [hb] at e; exact repF_none q e
/-- what a method's call is, by the model's own words -/
def MShape (X : Cx) (o : Expr) (m : Str) (es : List Expr) (apos pos : Pos) (pl : Sem Bool) : Prop := eval (.Call (.Attribute o m apos) es [] pos) X.env = (do let ov ← eval o X.env; standAt apos.atName; let (g, one) ← holding [ov] (getMethod ov m pl); callWith pos g one (backTo pos (starEach es X.env)) (backToKw pos (keywordEach [] X.env)))
def tMt (Ca : Addr) (m : Str) (sp : Sp) (dv : List V) (E : St → XK) (ta : TE) (t : TA) : TE := fun σ H Q => ta σ H fun x H1 => ∃ a dx fs, x = .ref a ∧ H1 a = some (.ins Ca dx fs) ∧ fs.lookup m = none ∧ t σ H1 fun vs H2 => sp (x :: (vs ++ dv)) H2 Q (E σ)
theorem insM_rep {K : PySem.W.Frag} {S : SS} {m C : Str} {o : MO} {u : HO} (h : RepO K S o u) (hi : insM m o = some (C, false)) : ∃ Ca dx fs, ClsN K C Ca ∧ u = .ins Ca dx fs ∧ fs.lookup m = none := by
  cases o with
  | ins c gs =>
    unfold insM at hi
    obtain ⟨Ca, dx, fs, cn, rfl, rf⟩ := h
    simp only [Option.some.injEq, Prod.mk.injEq] at hi
    obtain ⟨rfl, hi⟩ := hi
    exact ⟨Ca, dx, fs, cn, rfl, repF_none rf (by simpa using hi)⟩
  | insA c gs =>
    unfold insM at hi
    obtain ⟨Ca, dx, fs, cn, rfl, rf⟩ := h
    simp only [Option.some.injEq, Prod.mk.injEq] at hi
    obtain ⟨rfl, hi⟩ := hi
    exact ⟨Ca, dx, fs, cn, rfl, (rhk_lookup rf).2 (by simpa using hi)⟩
  | lst ds => cases hi
  | dK ds => cases hi
  | lsA ds => cases hi
  | dA ds => cases hi
theorem insV_rep {K : PySem.W.Frag} {S : SS} {env : ME} {σ : St} {H : Hp} {m C : Str} {a : AV} {v : V} (r : Rel K S env σ H) (ra : RA K σ S a v) (hi : insV m a env = some (C, false)) : ∃ b Ca dx fs, ClsN K C Ca ∧ v = .ref b ∧ H b = some (.ins Ca dx fs) ∧ fs.lookup m = none := by
  cases a with
  | d d =>
    cases d with
    | ins c gs =>
      unfold insV at hi
      obtain ⟨Ca, b, dx, fs, cn, rfl, e, rf⟩ := ra
      simp only [Option.some.injEq, Prod.mk.injEq] at hi
      obtain ⟨rfl, hi⟩ := hi
      exact ⟨b, Ca, dx, fs, cn, rfl, r.sub _ _ e, repF_none rf (by simpa using hi)⟩
    | _ => cases hi
  | own i =>
    unfold insV at hi
    have key : ∀ s o, env.sl[i]? = some (some s) → s.mo = some o → insM m o = some (C, false) → ∃ b Ca dx fs, ClsN K C Ca ∧ v = .ref b ∧ H b = some (.ins Ca dx fs) ∧ fs.lookup m = none := fun s o h1 h2 h3 => by
      obtain ⟨b, u, e1, e2, e3, e4⟩ := r.objS h1 h2
      have ra' : σ[i]? = some (some v) := ra
      rw [e1] at ra'
      cases ra'
      obtain ⟨Ca, dx, fs, cn, rfl, l⟩ := insM_rep e4 h3
      exact ⟨b, Ca, dx, fs, cn, rfl, e2, l⟩
    dsimp only at hi
    cases hs : env.sl[i]? with
    | none => rw [hs] at hi; cases hi
    | some s =>
      rw [hs] at hi
      cases s with
      | none => cases hi
      | some s =>
        cases s with
        | v d => cases hi
        | h d => cases hi
        | o z => exact key _ z hs rfl hi
        | b z => exact key _ z hs rfl hi
  | hd n =>
    unfold insV at hi
    dsimp only at hi
    cases hs : env.ce[n]? with
    | none => rw [hs] at hi; cases hi
    | some s =>
      rw [hs] at hi
      cases s with
      | none => cases hi
      | some z =>
        obtain ⟨b, u, e1, e2, e3, e4⟩ := r.objC hs
        obtain ⟨b', q1, rfl⟩ := ra
        rw [e1] at q1
        cases q1
        obtain ⟨Ca, dx, fs, cn, rfl, l⟩ := insM_rep e4 hi
        exact ⟨b, Ca, dx, fs, cn, rfl, e2, l⟩
theorem meth_at {sh : Bool} {S : SS} {env : ME} {σ : St} {H : Hp} {Q : VK} {m : Str} {ex : List D} {dvs : List V} {fo : EF AV} (P : Plain X.K C Ca) (hdv : ∀ S, Reps X.K S ex dvs) (hlen : ∀ en as en', fas en = some (.ok as, en') → as.length + ex.length + 1 = n) (z : AtF X.K W (eMethG sh C m mf ex fo fas) S env σ H Q) :
    At X.K W (RAv X.K) fo S env σ H fun x H1 => ∃ a dx fs, x = .ref a ∧ H1 a = some (.ins Ca dx fs) ∧ fs.lookup m = none ∧ tr X.K W (RAl X.K) fas σ H1 fun vs H2 => spM X.K n mf (x :: (vs ++ dvs)) H2 Q fun cls dd H3 => W cls dd σ H3 := by
  refine (AtF.bind (R := RAv X.K) z).imp fun x H1 ⟨a, S1, e1, ra, st, z1⟩ => ?_
  obtain ⟨r, env', rel, ef, q⟩ := z1
  unfold kMeth at ef
  split at ef
  · rename_i c hv
    split at ef
    · rename_i hc
      subst hc
      obtain ⟨a', Ca', dx, fv, cn, rfl, hH, hf⟩ := insV_rep rel ra hv
      have hca := cn.inj P.cn
      subst hca
      refine ⟨a', dx, fv, rfl, hH, hf, S1, e1, ?_⟩
      unfold eBind at ef
      cases ea : fas e1 with
      | none => rw [ea] at ef; cases ef
      | some p =>
        obtain ⟨r2, e2⟩ := p
        rw [ea] at ef
        cases r2 with
        | ex x =>
          have ef' : some (Res.ex x, e2) = some (r, env') := ef
          cases ef'
          exact ⟨.ex x, _, rel, ea, fun S2 H2 st2 => q S2 H2 st2⟩
        | ok as =>
          refine ⟨.ok as, e2, rel, ea, fun S2 H2 st2 vs rv => ?_⟩
          have z3 : AtF X.K W (kCallG sh mf (a :: (as ++ ex.map .d))) S2 e2 σ H2 Q := ⟨r, env', st2.rel, ef, fun S' H' st' => q S' H' (st2.trans st')⟩
          refine z3.kcall ⟨.ref a', vs ++ dvs, rfl, ra.mono st2.nle, ras_app rv (ras_d (hdv S2))⟩ ?_
          rw [List.length_cons, List.length_append, List.length_map]
          exact hlen _ _ _ ea
    · cases ef
  · cases ef
theorem df_meth {sh : Bool} (ex : List D) {m : Str} {fo : EF AV} {dvs : List V} {dl : List Value} {pl : Sem Bool} (tk : TkC X W) (ho : DV X W o fo) (P : Plain X.K C Ca) (hm : Meth X.K Ca m f) (F : FnOk X.prog X.w X.K X.mg X.base (L2.CX X.prog X.w) k f fd ps (spM X.K n mf))
    (hb : Binds X.K fd ps dl) (hd : Vals dvs dl) (hdv : ∀ S, Reps X.K S ex dvs) (hr : Room j X.A) (hj : k ≤ j) (ha : DA X W (e :: es) fas) (hlen : ∀ en as en', fas en = some (.ok as, en') → as.length + ex.length + 1 = n)
    (hst : starEach (e :: es) X.env = (false, eval e X.env) :: starEach es X.env := by rfl) (hpl : (backTo pos (starEach es X.env)).any (·.1) = false := by rfl)
    (ht : MShape X o m (e :: es) apos pos pl := by unfold MShape; rfl) :
    DF X W (.Call (.Attribute o m apos) (e :: es) [] pos) (eMethG sh C m mf ex fo fas) := by
  have base : PE X (.Call (.Attribute o m apos) (e :: es) [] pos) (tMt Ca m (spM X.K n mf) dvs (fun σ cls dd H => W cls dd σ H) (tr X.K W (RAv X.K) fo) (tr X.K W (RAl X.K) fas)) := by
    refine ⟨fun pn s σ H Q inv h => PySem.W.methodCall_KW (pl := pl) (thn (PE.run ho pn s σ H _ inv h) fun u s1 ⟨x, H1, inv1, rx, a, dx, fs, ex, ea, l, q⟩ => ?_) ht⟩
    subst ex
    obtain rfl : u = Value.ref a := rx
    refine getmeth_ok inv1 ea P.cls hm l (PySem.W.callWith_K (first := [.ref a]) (h₀ := X.base) inv.ok.mod.kin hm.kp (thn (PA.run ha pos pn s1 σ H1 _ inv1 q) fun us s2 ⟨vs, H2, inv2, r, q2⟩ => ⟨inv2.kIn, ?_⟩) hst hpl)
    exact run_fnSD (E := fun σ cls dd H => W cls dd σ H) (us := .ref a :: us) (vs := .ref a :: vs) F (hr.mono hj) hb hd (tk σ) inv2 (.cons rfl r) q2
  refine pe_imp base ?_
  rintro σ H Q ⟨S, env, z⟩
  exact ⟨S, env, meth_at P hdv hlen z⟩
theorem df_meth0 {sh : Bool} (ex : List D) {m : Str} {fo : EF AV} {dvs : List V} {dl : List Value} {pl : Sem Bool} (tk : TkC X W) (ho : DV X W o fo) (P : Plain X.K C Ca) (hm : Meth X.K Ca m f) (F : FnOk X.prog X.w X.K X.mg X.base (L2.CX X.prog X.w) k f fd ps (spM X.K n mf))
    (hb : Binds X.K fd ps dl) (hd : Vals dvs dl) (hdv : ∀ S, Reps X.K S ex dvs) (hr : Room j X.A) (hj : k ≤ j) (hlen : ex.length + 1 = n)
    (ht : MShape X o m [] apos pos pl := by unfold MShape; rfl) :
    DF X W (.Call (.Attribute o m apos) [] [] pos) (eMethG sh C m mf ex fo (eRet [])) := by
  have base : PE X (.Call (.Attribute o m apos) [] [] pos) (tMt Ca m (spM X.K n mf) dvs (fun σ cls dd H => W cls dd σ H) (tr X.K W (RAv X.K) fo) fun _ H Q => Q [] H) := by
    refine ⟨fun pn s σ H Q inv h => PySem.W.methodCall_KW (pl := pl) (thn (PE.run ho pn s σ H _ inv h) fun u s1 ⟨x, H1, inv1, rx, a, dx, fs, ex, ea, l, q⟩ => ?_) ht⟩
    subst ex
    obtain rfl : u = Value.ref a := rx
    refine getmeth_ok inv1 ea P.cls hm l (PySem.W.callWith_K0 (first := [.ref a]) inv1.kIn hm.kp ?_)
    exact run_fnSD (E := fun σ cls dd H => W cls dd σ H) (us := [.ref a]) (vs := [.ref a]) F (hr.mono hj) hb hd (tk σ) inv1 (.cons rfl .nil) q
  refine pe_imp base ?_
  rintro σ H Q ⟨S, env, z⟩
  refine ⟨S, env, (meth_at P hdv (fun en as en' h => by cases h; simpa using hlen) z).imp fun x H1 ⟨a, dx, fs, h1, h2, h3, S1, e1, z1⟩ => ⟨a, dx, fs, h1, h2, h3, z1.ret (R := RAl X.K) rfl⟩⟩
/-! ## isinstance(e, C) of a class of the program -/
structure IsC (K : PySem.W.Frag) (C : Str) (Ca : Addr) : Prop where
  cn : ClsN K C Ca
  ty : ((PySem.W.clsIn K Ca).isSome && PySem.W.typeIn K (.ref Ca) == some (.type "type")) = true
/-- what isinstance asks of an instance's class -/
structure InsT (K : PySem.W.Frag) (Cc : Addr) : Prop where
  cls : Cls K Cc
  fc : PySem.W.findIn K (.ref Cc) "__class__" = some (some (.builtin "object.__class__"))
  sg : PySem.W.specialIn K (.builtin "object.__class__") "__get__" = some (some (.builtin "getset_descriptor.__get__"))
  tk : PySem.W.takesIn K (.builtin "object.__class__") = some true
  ob : PySem.W.mroIn K Cc (.type "object") = some true
/-- what is told of the classes cs against C -/
def SubC (K : PySem.W.Frag) (Ca : Addr) (cs : List (Str × Bool)) : Prop := ∀ c b, cs.lookup c = some b → ∃ Cc, ClsN K c Cc ∧ InsT K Cc ∧ PySem.W.kitOne K (.ref Cc) (.ref Ca) = some b
def oIsC (cs : List (Str × Bool)) : D → Option D
  | .ins c _ => (cs.lookup c).map .bl
  | d => (tyN d).map fun _ => .bl false
theorem kit_no {K : PySem.W.Frag} {Ca : Addr} {t : String} (ht : t = "NoneType" ∨ t = "bool" ∨ t = "int" ∨ t = "str" ∨ t = "tuple" ∨ t = "list" ∨ t = "dict") (h : ((PySem.W.clsIn K Ca).isSome && PySem.W.typeIn K (.ref Ca) == some (.type "type")) = true) : PySem.W.kitOne K (.type t) (.ref Ca) = some false := by
  unfold PySem.W.kitOne
  rw [if_neg (by simp)]
  show (if _ then _ else _) = _
  rw [if_pos h]
  rcases ht with rfl | rfl | rfl | rfl | rfl | rfl | rfl <;> rfl
theorem de_isiC {a : Expr} {fa : EF AV} {p2 : Pos} (cs : List (Str × Bool)) (hm : X.mg "isinstance" = none) (I : IsC X.K C Ca) (hC : X.mg C = some (.ref Ca)) (hsub : SubC X.K Ca cs) (ha : DV X W a fa) (hg : Gl X "isinstance" := by rfl) (hg2 : Gl X C := by rfl) (hdb : (C == ("__debug__" : Str)) = false := by decide)
    (he : starEach [a, .Name C p2] X.env = (false, eval a X.env) :: starEach [.Name C p2] X.env := by rfl) (he2 : starEach [.Name C p2] X.env = (false, eval (.Name C p2) X.env) :: starEach [] X.env := by rfl) (hpl : (backTo pos (starEach [.Name C p2] X.env)).any (·.1) = false := by rfl) :
    DE X W (.Call (.Name "isinstance" p) [a, .Name C p2] [] pos) (eBind fa fun a => eOn a (oIsC cs)) := by
  have h2 : PE X (.Name C p2) (tC (.ref Ca)) := pe_glob hg2 hC rfl hdb
  refine pe_imp (pe_callB call_isi hg hm PyProof.Rows.boot_isinstance (pa_cons ha (pa_cons h2 pa_nil he2) he) (he := he) (hpl := hpl)) ?_
  rintro σ H Q ⟨S, env, z⟩
  refine ⟨S, env, (At.bind (R := RAv X.K) z).imp fun x H1 ⟨a, S1, e1, ra, st, z1⟩ => ?_⟩
  obtain ⟨d, y, r1, hy, rel, q⟩ := z1.on ra
  have rest : ∀ t : String, tyN d = some t → y = .bl false → rIsi X.K [x, .ref Ca] H1 Q := fun t ht hy => by
    subst hy
    obtain ⟨tx, hts⟩ := tyX_of r1 ht
    exact ⟨x, .ref Ca, .type t, .ref Ca, false, rfl, .own Ca, tx, kit_no hts I.ty, q S1 H1 rel.step _ rfl⟩
  cases d with
  | ins c fs =>
    unfold oIsC at hy
    obtain ⟨b, hb, rfl⟩ := Option.map_eq_some_iff.mp hy
    obtain ⟨Cc, cn, it, hk⟩ := hsub c b hb
    obtain ⟨Ca', a', dx, fv, cn', rfl, hH, rf⟩ := r1
    have hca := cn'.inj cn
    subst hca
    exact ⟨_, .ref Ca, .ref Ca', .ref Ca, b, rfl, .own Ca, .base (.ins hH it.cls it.fc it.sg it.tk it.ob), hk, q S1 H1 rel.step _ rfl⟩
  | non => cases hy; exact rest _ rfl rfl
  | bl b => cases hy; exact rest _ rfl rfl
  | int b => cases hy; exact rest _ rfl rfl
  | str b => cases hy; exact rest _ rfl rfl
  | tup b => cases hy; exact rest _ rfl rfl
  | lst b => cases hy; exact rest _ rfl rfl
  | frl b => cases hy; exact rest _ rfl rfl
  | dK b => cases hy; exact rest _ rfl rfl
  | ty b => cases hy
  | exc b c => cases hy
  | ref b => cases hy
end
end Mir

/-! ## own exceptions made with keywords too; the __new__ may be an ancestor's (KeyError: LookupError's) -/
namespace PySem.PX
open PySem PySem.Spec PyProof.Rows
section
variable {prog : Program} {w : World} {A : Around} {E : Value → Shared → Prop} {R : Result → Shared → Prop} {h : Heap} {g : Array GenState} {d : Drawn} {t : Nat} {os : OsState}
variable {nm q : Str} {C N : Addr} {bs bm bmB : List Value} {hdct : Bool} {sn : List Str} {sub : List Value} {ab : Bool} {col : Option Bool} {dd : Option Addr} {k0 k1 k2 k3 k5 : Option Value} {B newId initId : String}
theorem mir_checkNew (F : ExcBaseFacts B newId initId bmB) (hB : bm.contains (.type B) = true) {rest : List Value} {kw : List (Str × Value)} {Q : Unit → Shared → Prop}
    (hC : h.get? C = some (excClassObj nm q C N bs bm hdct sn sub ab col dd k0 k1 k2 k3 k5 newId)) (hq : Q () ⟨h, g, d, t, os⟩) : wpAny (model prog w) A (checkBuiltinCall newId ⟨.ref C :: rest, kw⟩) Q E ⟨h, g, d, t, os⟩ := by
  have hc : (Value.ref C :: bm).contains (.type B) = true := by rw [List.contains_cons, hB, Bool.or_true]
  have hs := F.noStar
  simp only [checkBuiltinCall, F.newKind, F.newSplit, F.newRow]
  repeat (first | refine wpAny_loadPart_at hC ?_ | (refine wpAny_isSubtype_exc hC ?_; rw [hc]) | refine wpAny_staticBase_exc hC ?_ | refine wpAny_madeBy_exc hC ?_ | (simp only [bne_self_eq_false, Bool.false_eq_true, if_false]; skip) | wp_step)
  exact hq
theorem mir_new (F : ExcBaseFacts B newId initId bmB) (hB : bm.contains (.type B) = true) (hA : bm.contains (.type "AttributeError") = false) (hNm : bm.contains (.type "NameError") = false) {rest : List Value} {kw : List (Str × Value)}
    (hC : h.get? C = some (excClassObj nm q C N bs bm hdct sn sub ab col dd k0 k1 k2 k3 k5 newId)) (hrest : rest.length ≤ sizeLine)
    (hq : R (.ok (.ret (.ref (h.objs.size + 1)))) ⟨(h.push (W.kdv_tup rest)).push (excO C h.objs.size), g, d, t, os⟩) : codeAny (model prog w) A (.builtin newId ⟨.ref C :: rest, kw⟩) R ⟨h, g, d, t, os⟩ := by
  have he := F.ends
  have c1 : (Value.ref C :: bm).contains (.type B) = true := by rw [List.contains_cons, hB, Bool.or_true]
  have c2 : (Value.ref C :: bm).contains (.type "AttributeError") = false := by rw [List.contains_cons, hA]; rfl
  have c3 : (Value.ref C :: bm).contains (.type "NameError") = false := by rw [List.contains_cons, hNm]; rfl
  refine codeAny_builtinAt F.entry ?_
  unfold Builtin.«BaseException.__new__»
  refine wpAt_bind ?_
  show wpAt _ _ _ (stack >>= _) _ _ _
  refine wpAt_bind (wpAt_stack fun p below => wpAt_of_wpAny ?_)
  wp_walk
  refine wpAt_of_wpAny ?_
  rw [F.owner]
  repeat (first | with_reducible refine wpAny_madeHere_exc F.canon hC ?_ | with_reducible refine wpAny_loadPart_at hC ?_ | (with_reducible refine wpAny_isSubtype_exc hC ?_; first | rw [c1] | rw [c2] | rw [c3]) | wp_step)
  show R _ _
  rw [Heap.size_push]
  exact hq
theorem mir_typeCall (F : ExcBaseFacts B newId initId bmB) (hB : bm.contains (.type B) = true) (hA : bm.contains (.type "AttributeError") = false) (hNm : bm.contains (.type "NameError") = false) {rest : List Value} {kw : List (Str × Value)} {fI : Addr} {Q : Fin → Shared → Prop}
    (hC : h.get? C = some (excClassObj nm q C N bs bm hdct sn sub ab col dd k0 k1 k2 k3 k5 newId)) (hi : W.Looks (model prog w) h (typeLookup (.ref C) "__init__") (some (.ref fI))) (hb : ∀ self, W.Looks (model prog w) h (bindSpecial (.ref fI) self) (.ref fI, [self])) (hrest : rest.length ≤ sizeLine)
    (hq : codeAny (model prog w) A (.call (.ref fI) ⟨.ref (h.objs.size + 1) :: rest, kw⟩) (fun r s' => match r with | .ok (.ret v) => v = .none ∧ Q (.done (.ret (.ref (h.objs.size + 1)))) s' | .ok _ => False | .error e => E e s') ⟨(h.push (W.kdv_tup rest)).push (excO C h.objs.size), g, d, t, os⟩) :
    wpAny (model prog w) A (Builtin.«type.__call__» ⟨.ref C :: rest, kw⟩) Q E ⟨h, g, d, t, os⟩ := by
  repeat (first | with_reducible refine wpAny_loadPart_at hC ?_ | with_reducible refine wpAny_madeBy_exc hC ?_ | wp_step)
  refine codeAny_call_builtin_code (Code.quiet_builtin _ F.quiet) (mir_checkNew F hB hC ?_)
  refine mir_new F hB hA hNm hC hrest ?_
  show wpAny _ _ _ _ _ _
  have k : ∀ b o, h.get? b = some o → ((h.push (W.kdv_tup rest)).push (excO C h.objs.size)).get? b = some o := fun b o e => Heap.get?_push_of_some _ (Heap.get?_push_of_some _ e)
  have hC1 := k _ _ hC
  have hg : ((h.push (W.kdv_tup rest)).push (excO C h.objs.size)).get? (h.objs.size + 1) = some (excO C h.objs.size) := by heap_get
  have hcC : (Value.ref C :: bm).contains (.ref C) = true := by simp
  have i1 := hi.keeps k
  have b1 := (hb (.ref (h.objs.size + 1))).keeps k
  unfold isInstance
  repeat (first | with_reducible refine wpAny_loadPart_at hg ?_ | (with_reducible refine wpAny_isSubtype_exc hC1 ?_; rw [hcC]) | wp_step)
  show wpAny _ _ (typeLookup (.ref C) _) _ _ _
  refine i1.at (wpAny_holding (wpAny_bind (b1.at (wpAny_bind (wpAny_call (codeAny_mono hq fun r s' z => ?_))))))
  rcases r with e | (v | _ | _ | _) <;> first | exact z | exact z.elim | skip
  obtain ⟨rfl, z⟩ := z
  first
    | exact wpAny_pure (wpAny_pure z)
    | (wp_walk; exact z)
theorem mir_checkCall {rest : List Value} {kw : List (Str × Value)} {Q : Unit → Shared → Prop} (hC : h.get? C = some (excClassObj nm q C N bs bm hdct sn sub ab col dd k0 k1 k2 k3 k5 newId))
    (hq : Q () ⟨h, g, d, t, os⟩) : wpAny (model prog w) A (checkBuiltinCall "type.__call__" ⟨.ref C :: rest, kw⟩) Q E ⟨h, g, d, t, os⟩ := by
  have f3 := tc_sub
  have hTy : (⟨h, g, d, t, os⟩ : Shared).TypeIs (.ref C) "type" := ⟨_, hC, rfl⟩
  simp only [checkBuiltinCall, tc_kind, tc_split]
  repeat (any_goals (first | assumption | (with_reducible refine wpAny_loadPart_at hC ?_) | (with_reducible refine wpAny_onRaise ?_) | (with_reducible refine wpAny_map ?_) | wp_step))
theorem mir_call (F : ExcBaseFacts B newId initId bmB) (hB : bm.contains (.type B) = true) (hA : bm.contains (.type "AttributeError") = false) (hNm : bm.contains (.type "NameError") = false) {rest : List Value} {kw : List (Str × Value)} {fI : Addr}
    (hC : h.get? C = some (excClassObj nm q C N bs bm hdct sn sub ab col dd k0 k1 k2 k3 k5 newId)) (hi : W.Looks (model prog w) h (typeLookup (.ref C) "__init__") (some (.ref fI))) (hb : ∀ self, W.Looks (model prog w) h (bindSpecial (.ref fI) self) (.ref fI, [self])) (hrest : rest.length ≤ sizeLine)
    (hq : codeAny (model prog w) (A.under (.builtin "type.__call__" ⟨.ref C :: rest, kw⟩)) (.call (.ref fI) ⟨.ref (h.objs.size + 1) :: rest, kw⟩) (W.InitBack (h.objs.size + 1) R) ⟨(h.push (W.kdv_tup rest)).push (excO C h.objs.size), g, d, t, os⟩) :
    codeAny (model prog w) A (.call (.ref C) ⟨rest, kw⟩) R ⟨h, g, d, t, os⟩ := by
  have f1 := tc_lookup
  have f2 := tc_bind (.ref C)
  have hTy : (⟨h, g, d, t, os⟩ : Shared).TypeIs (.ref C) "type" := ⟨_, hC, rfl⟩
  refine codeAny_of_tree ?_
  show wpAny _ _ (callAny (.ref C) _) _ _ _
  repeat (any_goals (first | assumption | with_reducible refine wpAny_loadPart_at hC ?_ | wp_step))
  refine ⟨rfl, ?_⟩
  refine codeAny_call_builtin_at (Code.quiet_builtin _ (by decide +kernel)) entry_typeCall (mir_checkCall hC (mir_typeCall F hB hA hNm hC hi hb hrest ?_))
  refine codeAny_mono hq fun r s' z => ?_
  rcases r with e | (v | _ | _ | _) <;> exact z
end
end PySem.PX
namespace Mir
open PySem PySem.Spec PyProof.Rows L2
/-- what is told of a built-in exception's __init__ -/
structure InitF (B i : String) : Prop where
  kind : builtinKind i = some .slot
  row : Manifest.signature? i = some ⟨.positional, "*", B, .self, [⟨"args", .varPos, false⟩]⟩
  star : (B != "*") = true
  entry : entryFor table i = some Builtin.«BaseException.__init__»
  plain : plainId i = true
section
variable {prog : Program} {w : World} {A : Around} {E : Value → Shared → Prop} {s : Shared} {h₀ : Heap} {L : Addr} {m : Str → Option Value} {news : List (Addr × Obj)} {K : PySem.W.Frag} {x C u : Addr} {B i newId : String} {bmB : List Value}
theorem bound_init (T : InitF B i) {h : Heap} {g : Array GenState} {d : Drawn} {t : Nat} {os : OsState} {nm q : Str} {N e : Addr} {oe : Obj} {bs bm : List Value} {hdct : Bool} {sn : List Str} {sub : List Value} {ab : Bool} {col : Option Bool} {dd : Option Addr} {k0 k1 k2 k3 k5 : Option Value} {rest : List Value} {Q : Unit → Shared → Prop}
    (hC : h.get? C = some (excClassObj nm q C N bs bm hdct sn sub ab col dd k0 k1 k2 k3 k5 newId)) (he : h.get? e = some oe) (hcls : oe.cls = .ref C) (hq : Q () ⟨h, g, d, t, os⟩) : wpAny (model prog w) A (checkBoundCall i ⟨.ref e :: rest, []⟩) Q E ⟨h, g, d, t, os⟩ := by
  have hs := T.star
  simp only [checkBoundCall, T.kind, T.row]
  repeat (first | ((with_reducible refine wpAny_loadPart_at he ?_); rw [hcls]) | (with_reducible refine wpAny_loadPart_at hC ?_) | wp_step)
  refine wpAny_onRaise ?_
  rw [show ∀ (a b : String) (n : Nat), Bind.check ⟨.positional, "*", B, .self, [⟨"args", .varPos, false⟩]⟩ a b n (List.map (fun x => x.fst) ({ pos := Value.ref e :: rest } : Args).kw) = pure () from fun a b n => check_star_args _ _ _ _ _ _]
  exact wpAny_pure hq
open PySem.W in
/-- super().__init__(..) called -/
theorem super_call {t : Addr} {dv : Option Addr} {c2 : Value} {rest : List Value} {nw : Obj → List (Addr × Obj)} {Q : Value → Shared → Prop} (F : Fr h₀ L s.heap m) (X₀ : K.In h₀) (N : News h₀ L s.heap news) (FB : InitF B i) (q : excInitIn K C bmB newId = true) (hm : (u, kxs_mw i x) ∈ news)
    (U : UpdF x (excObj C t dv c2) news nw) (hz : rest.length ≤ sizeLine) (h : ∀ t' h', Fr h₀ L h' m → News h₀ L h' ((t', excTup rest) :: nw (excObj C t' dv c2)) → (∀ p ∈ news, p.1 < t') → Q .none { s with heap := h' }) : wpAny (model prog w) A (call (.ref u) rest) Q E s := by
  obtain ⟨nm, N', qn, bs, bm, hdct, sn, sub, ab, col, dd, k0, k1, k2, k3, k5, hC, hT⟩ := excInit_of (X₀.keeps F.keep) q
  have gu := (N _ hm).1
  obtain ⟨pre, post, rfl, hg, a, b⟩ := U.split
  have me : (x, excObj C t dv c2) ∈ pre ++ (x, excObj C t dv c2) :: post := by simp
  have ge := (N _ me).1
  have old : ∀ p ∈ pre ++ (x, excObj C t dv c2) :: post, p.1 < s.heap.objs.size := fun p hp => Heap.lt_size (N p hp).1
  have done : ∀ h', (∀ b o, b ≠ x → s.heap.get? b = some o → h'.get? b = some o) → h'.get? x = some (excObj C s.heap.objs.size dv c2) → h'.get? s.heap.objs.size = some (excTup rest) → Q .none { s with heap := h' } := by
    intro h' k e' t'
    obtain ⟨oL, es, ep, hL, r⟩ := F.ns
    have sL : L < s.heap.objs.size := Heap.lt_size (show s.heap.get? L = some oL from hL)
    have keep2 : ∀ b o, h₀.get? b = some o → h'.get? b = some o := fun b o z => k b o (fun y => by have w0 := (N _ me).2.2; rw [y] at z; rw [show h₀.get? x = none from w0] at z; cases z) (F.keep b o z)
    refine h s.heap.objs.size h' ⟨⟨oL, es, ep, k _ _ (fun z => (N _ me).2.1 z.symm) hL, r⟩, keep2, F.above⟩ (fun p hp => ?_) old
    rw [hg] at hp
    have stay : ∀ p ∈ pre ++ (x, excObj C t dv c2) :: post, p.1 ≠ x → h'.get? p.1 = some p.2 ∧ p.1 ≠ L ∧ h₀.get? p.1 = none := fun p hp n => ⟨k _ _ n (N p hp).1, (N p hp).2⟩
    rcases List.mem_cons.mp hp with rfl | hp
    · refine ⟨t', Nat.ne_of_gt sL, ?_⟩
      cases z : h₀.get? s.heap.objs.size with
      | none => rfl
      | some o => exact absurd (Heap.lt_size (F.keep _ _ z)) (Nat.lt_irrefl _)
    · rcases List.mem_append.mp hp with hp | hp
      · exact stay p (List.mem_append_left _ hp) (a p hp)
      · rcases List.mem_cons.mp hp with rfl | hp
        · exact ⟨e', (N _ me).2⟩
        · exact stay p (List.mem_append_right _ (.tail _ hp)) (b p hp)
  clear h
  obtain ⟨hh, g, d, tk, os⟩ := s
  refine wpAny_call (codeAny_of_tree ?_)
  show wpAny _ A.in1 (callAny (.ref u) ⟨rest, []⟩) _ _ _
  simp only [callAny]
  refine wpAny_bind (wpAny_load gu ?_)
  simp only [kxs_mw, show (Value.type "method-wrapper" == Value.type "method" || Value.type "method-wrapper" == Value.type "builtin_function_or_method" || Value.type "method-wrapper" == Value.type "method-wrapper") = true by decide, if_true]
  refine KFB.if_so (by decide) (wpAny_bind (bound_init FB hC ge rfl (wpAny_bind (wpAny_pure (wpAny_pure ?_)))))
  exact ⟨plainId_quiet FB.plain _, codeAny_builtin FB.entry (exc_init_tree (cls := .ref C) (t0 := t) (dv := dv) (c2 := c2) (c3 := .none) (b4 := .bool false) ge hz done)⟩
end
end Mir
namespace Mir
open PySem PySem.Calls PyProof.Rows
/-! ## an exception of a class whose def is: super().__init__(text); self.f = p -/
/-- what super().__init__(text) is, by the model's own words -/
def SShape (o : Expr) (m : Str) (apos : Pos) (args : List Expr) (pos : Pos) (env : Env) (pl : Sem Bool) : Prop := eval (.Call (.Attribute o m apos) args [] pos) env = (do let ov ← attributeBase o m env (eval o env); standAt apos.atName; let (g, one) ← holding [ov] (getMethod ov m pl); callWith pos g one (backTo pos (starEach args env)) [])
/-- what is told of such a class: its def in the written part, the built-in base B -/
structure ExcK (prog : Program) (K : PySem.W.Frag) (C : Addr) (par fld : Str) (B i newId : String) (bmB : List Value) where
  fI : Addr
  oc : Value
  od : Option Addr
  osl : Array (Option Value)
  name : Str
  qual : Str
  params : Arguments
  body : List Stmt
  scope : Scope
  dV : Value
  kV : Value
  dc : Value
  pm : Value
  an : Option Addr
  ct : Value
  cda : Addr
  cc : Addr
  ccl : Value
  cdd : Option Addr
  vs : Array Value
  ccs : Array (Option Value)
  file : Str
  tf : Tok
  cl : Value
  cld : Option Addr
  csl : Array (Option Value)
  txt : Str
  j : Nat
  ps : Nat → Pos
  hbody : body = [.Expr (.Call (.Attribute (.Call (.Name "super" (ps 0)) [] [] (ps 1)) "__init__" (ps 2)) [.Constant (.str txt) j (ps 3)] [] (ps 4)) (ps 5), .Assign [.Attribute (.Name "self" (ps 6)) fld (ps 7)] (.Name par (ps 8)) (ps 9)]
  hshape : ∃ pl : Env → Sem Bool, ∀ env, SShape (.Call (.Name "super" (ps 0)) [] [] (ps 1)) "__init__" (ps 2) [.Constant (.str txt) j (ps 3)] (ps 4) env (pl env)
  hf : K.lookup fI = some ⟨oc, od, .func (PySem.W.ksFn name qual params body scope dV kV dc pm an (.ref cda) ct cc), osl⟩
  hcode : K.lookup cda = some ⟨ccl, cdd, .fields vs, ccs⟩
  hrec : PySem.W.codeIn K (.ref cda) qual = true
  hvs : vs[2]? = some (.str file tf)
  hfile : ((prog.main.file : Str) == file) = true
  hcell : K.lookup cc = some ⟨cl, cld, .cell (some (.ref C)), csl⟩
  par1 : ∃ ar, (params.posonlyargs ++ params.args).head? = some ar ∧ ar.arg = "self"
  kSuper : scope.names.lookup ("super" : Str) = some .globalImplicit
  kClass : scope.names.lookup ("__class__" : Str) = some .free
  kSelf : scope.names.lookup ("self" : Str) = some .local
  kPar : scope.names.lookup par = some .local
  kCell : ∀ x ∈ scope.names, x.2 ≠ .cell
  kCo : scope.isCoroutine = false
  kGen : scope.isGenerator = false
  kFn : scope.kind = .function
  neP : (par == ("self" : Str)) = false
  neD : (par == ("__debug__" : Str)) = false
  top : (prog.main.scope.names.lookup ("super" : Str)).isSome = false
  bind : ∀ us v, bindArgs (PySem.W.ksFn name qual params body scope dV kV dc pm an (.ref cda) ct cc) ⟨[us, v], []⟩ = pure [(("self" : Str), us), (par, v)]
  bindK : ∀ us v, bindArgs (PySem.W.ksFn name qual params body scope dV kV dc pm an (.ref cda) ct cc) ⟨[us], [(par, v)]⟩ = pure [(("self" : Str), us), (par, v)]
  cls : ∃ cd, PySem.W.clsIn K C = some cd
  sub : PySem.W.mroIn K C (.ref C) = some true
  any : PySem.W.nsIn K PySem.cStatics "thirdparty.any" = some none
  sup : PySem.W.ks_superIn K C C "__init__" = some (some (.builtin i))
  subB : PySem.W.subIn K (.ref C) (.type B) = some true
  init : PySem.W.findIn K (.ref C) "__init__" = some (some (.ref fI))
  isF : PySem.W.isFn K (.ref fI) = true
  xi : PySem.W.excInitIn K C bmB newId = true
  sa : PySem.W.findIn K (.ref C) "__setattr__" = some (some (.builtin "object.__setattr__"))
  ov : PySem.W.excOver K C bmB = true
  tk : PySem.W.takerIn K C fld = some none
  hd : PySem.W.hasDictIn K C = true
/-- what is told of the built-in base -/
structure ExcB0 (B i newId : String) (bmB : List Value) : Prop where
  kf : PySem.W.KxsFacts B i
  inf : InitF B i
  nw : ∃ (N initN : String) (bmN : List Value), ExcBaseFacts N newId initN bmN ∧ bmB.contains (.type N) = true
  bA : bmB.contains (.type "AttributeError") = false
  bN : bmB.contains (.type "NameError") = false
  sf : StoreFacts B bmB "object.__setattr__" "object"
theorem ExcB0.of {B i newId : String} {bmB : List Value} (kf : PySem.W.KxsFacts B i) (fb : ExcBaseFacts B newId i bmB) (sf : StoreFacts B bmB "object.__setattr__" "object") : ExcB0 B i newId bmB :=
  ⟨kf, ⟨fb.initKind, fb.initRow, fb.noStar, fb.initEntry, fb.init.plain⟩, ⟨B, i, bmB, fb, fb.hasB⟩, fb.noAttr, fb.noName, sf⟩
section
variable {prog : Program} {w : World} {A : Around} {E : Value → Shared → Prop} {s : Shared} {h₀ : Heap} {L : Addr} {m mg mb : Str → Option Value} {K : PySem.W.Frag} {C : Addr} {par fld : Str} {B i newId : String} {bmB : List Value}
abbrev ExcK.env (D : ExcK prog K C par fld B i newId bmB) (L : Addr) : Env := PySem.W.ksEnv D.qual D.scope L D.fI (.ref D.cda) D.cc
/-- super(), in front of .__init__ -/
theorem x_super (D : ExcK prog K C par fld B i newId bmB) {news : List (Addr × Obj)} {body : List Stmt} {x : Addr} {ox : Obj} {odx : Option Obj} {p0 p1 : Pos} {whole : Sem Value} {Q : Value → Shared → Prop} (F : Fr h₀ L s.heap m) (X₀ : K.In h₀) (N : News h₀ L s.heap news)
    (g : s.heap.Ns mainGlobals mg) (gs : mg "super" = none) (bl : s.heap.Ns builtinsNs mb) (bs : mb "super" = some (.type "super")) (hv : m "self" = some (.ref x)) (I : PySem.W.InstAt s.heap x ox C odx)
    (h : ∀ so h', Fr h₀ L h' m → News h₀ L h' ((so, PySem.W.ks_superObj C x C) :: news) → (∀ p ∈ news, p.1 < so) → Q (.ref so) { s with heap := h' }) :
    _root_.PySem.wpAt (model prog w) A (.func body (D.env L)) (attributeBase (.Call (.Name "super" p0) [] [] p1) "__init__" (D.env L) whole) Q E s := by
  have X : K.In s.heap := X₀.keeps F.keep
  obtain ⟨cdD, hD⟩ := D.cls
  obtain ⟨ar, ha1, ha2⟩ := D.par1
  obtain ⟨hh, gn, d, t, os⟩ := s
  obtain ⟨oD, hD1, hD2⟩ : ∃ oD, hh.get? C = some oD ∧ oD.data = .cls cdD := by
    unfold PySem.W.clsIn at hD
    split at hD
    · rename_i c d cd' sl ho
      cases hD
      exact ⟨_, X _ _ ho, rfl⟩
    · cases hD
  refine PySem.ks_wpAt_super_base (env := D.env L) D.kSuper D.kClass (by decide) rfl (X _ _ D.hf) rfl ha1 rfl (X _ _ D.hcode) rfl D.hvs D.hfile D.top ?_
  refine PySem.W.ks_loadName_global D.kFn D.kSuper (loadGlobal_builtin (env := D.env L) g gs bl bs ⟨rfl, ?_⟩)
  refine wpAny_loadName_free D.kFn D.kClass rfl ⟨_, X _ _ D.hcell, rfl⟩ ?_
  rw [ha2]
  refine wpAny_loadName_local D.kFn D.kSelf F.ns hv ?_
  refine PySem.ks_wpAny_isType_cls hD1 hD2 ⟨rfl, ?_⟩
  refine PySem.ks_wpAny_call_super hD1 hD2 I.at_ I.cls (fun c e => ?_) (PySem.W.looks_mroIn X D.sub) (fun h' e k => ?_)
  · have z := I.no
    unfold PySem.W.notCls at z
    rw [e] at z
    exact Bool.noConfusion z
  · obtain ⟨F', N', lt⟩ := PySem.W.ks_newsPush (s := ⟨hh, gn, d, t, os⟩) F N rfl e k
    exact h _ _ F' N' lt
/-- the dict that the one field makes -/
abbrev xEs (w : World) (fld : Str) (k : Nat) (v : Value) : List DictEntry := [⟨PyData.keyHash w.params fld, .str fld k, v⟩]
/-- the def's body -/
theorem x_body (T : ExcB0 B i newId bmB) (D : ExcK prog K C par fld B i newId bmB) {e t : Addr} {v : Value} {Q : Flow → Shared → Prop} (F : Fr h₀ L s.heap m) (X₀ : K.In h₀) (N : News h₀ L s.heap [(e, PySem.W.excObj C t none .none)])
    (g : h₀.Ns mainGlobals mg) (gs : mg "super" = none) (bl : h₀.Ns builtinsNs mb) (bs : mb "super" = some (.type "super")) (hv : m "self" = some (.ref e)) (hp : m par = some v)
    (h : ∀ t2 dx k tk h', Fr h₀ L h' m → News h₀ L h' [(dx, PySem.W.dictOf (xEs w fld k v) 1), (e, PySem.W.excObj C t2 (some dx) .none)] → e < dx → Q .next { s with heap := h', toks := tk }) :
    _root_.PySem.wpAt (model prog w) A (.func D.body (D.env L)) (execs D.body (D.env L)) Q E s := by
  have key : ∀ st st2, D.body = [st, st2] → _root_.PySem.wpAt (model prog w) A (.func D.body (D.env L)) (execs [st, st2] (D.env L)) Q E s → _root_.PySem.wpAt (model prog w) A (.func D.body (D.env L)) (execs D.body (D.env L)) Q E s := fun st st2 e z => by
    have : execs D.body (D.env L) = execs [st, st2] (D.env L) := by rw [e]
    rw [this]
    exact z
  refine key _ _ D.hbody ?_
  obtain ⟨pl, hpl⟩ := D.hshape
  have hint : interactive (D.env L) = false := by
    unfold interactive
    simp [PySem.W.ksEnv, PySem.W.envX, D.kFn]
  refine ks_wpAt_execs_cons (ks_wpAt_Expr_any (ks_wpAt_MethodCall (pl := pl (D.env L)) (he := hpl (D.env L)) (x_super D F X₀ N (g.keeps F.keep) gs (bl.keeps F.keep) bs hv (PySem.W.InstAt.of_exc0 (t := t) (c2 := .none) N (by simp)) fun so h1 F1 N1 l1 => ?_)) hint rfl)
  refine PySem.W.kxs_method T.kf (s := { s with heap := h1 }) F1 X₀ N1 (so := so) (D := C) (x := e) (C := C) (by simp) (PySem.W.InstAt.of_exc0 (t := t) (c2 := .none) N1 (by simp)) D.any D.sup D.subB (by decide) fun q h2 F2 N2 l2 => ?_
  have qe : e < q := l2 (e, PySem.W.excObj C t none .none) (by simp)
  have N2' : News h₀ L h2 [(q, PySem.W.kxs_mw i e), (e, PySem.W.excObj C t none .none)] := fun p hp => N2 p (by simp at hp ⊢; rcases hp with h | h; exact .inl h; exact .inr (.inr h))
  refine PySem.W.kxs_callWith1 (s := { s with heap := h2, toks := s.toks + 1 }) (i := i) (x := e) (u := q) N2' (by simp) ?_
  refine Calls.spliced_cons ?_
  show wpAny _ _ (eval (.Constant (.str D.txt) D.j (D.ps 3)) (D.env L)) _ _ _
  refine Calls.Constant_str ?_
  refine Calls.spliced_nil ⟨(N2' (q, PySem.W.kxs_mw i e) (by simp)).1, ?_⟩
  refine super_call (s := { s with heap := h2, toks := s.toks + 1 + 1 }) (u := q) (x := e) (t := t) (dv := none) (c2 := .none) F2 X₀ N2' T.inf D.xi (by simp) (.tail (Ne.symm (Nat.ne_of_lt qe)) (.head (by simp))) (by show 1 ≤ sizeLine; decide) fun t2 h3 F3 N3 l3 => ?_
  have N3' : News h₀ L h3 [(e, PySem.W.excObj C t2 none .none)] := fun p hp => N3 p (by simp at hp ⊢; exact .inr (.inr hp))
  refine ks_wpAt_execs_cons (ks_wpAt_Assign_Attr (wpAt_of_wpAny (wpAny_Name (wpAny_loadName_local D.kFn D.kPar F3.ns hp (wpAny_Name (wpAny_loadName_local D.kFn D.kSelf F3.ns hv ?_) (by decide))) D.neD)) rfl)
  refine PySem.W.set_exc0 T.sf F3 X₀ N3' (x := e) (t := t2) (c2 := .none) (by simp) D.sa D.ov D.tk D.hd rfl (.head (by simp)) (by show 1 ≤ 1000; decide) fun dx h4 F4 N4 l4 => ?_
  exact wpAt_of_wpAny (wpAny_pure (h t2 dx _ _ h4 F4 N4 (l4 (e, PySem.W.excObj C t2 none .none) (by simp))))
end
end Mir

namespace Mir
open PySem PySem.Calls PyProof.Rows
section
variable {prog : Program} {w : World} {A : Around} {E : Value → Shared → Prop} {mg mb : Str → Option Value} {K : PySem.W.Frag} {C : Addr} {par fld : Str} {B i newId : String} {bmB : List Value}
/-- C(v): the exception lies behind the heap, its dict behind it -/
theorem x_call (T : ExcB0 B i newId bmB) (D : ExcK prog K C par fld B i newId bmB) {hh : Heap} {gn : Array GenState} {d : Drawn} {tk : Nat} {os : OsState} {v : Value} {us : List Value} {kw : List (Str × Value)} {Q : Value → Shared → Prop} (hu : (us = [v] ∧ kw = []) ∨ (us = [] ∧ kw = [(par, v)])) (X : K.In hh) (lim : hh.NoLimit) (g : hh.Ns mainGlobals mg) (gs : mg "super" = none) (bl : hh.Ns builtinsNs mb) (bs : mb "super" = some (.type "super"))
    (room : (A.under (.builtin "type.__call__" ⟨.ref C :: us, kw⟩)).depth < recursionLimit)
    (h : ∀ t2 dx k tk' h', (∀ b o, hh.get? b = some o → h'.get? b = some o) → h'.get? (hh.objs.size + 1) = some (PySem.W.excObj C t2 (some dx) .none) → h'.get? dx = some (PySem.W.dictOf (xEs w fld k v) 1) → hh.objs.size + 1 < dx → Q (.ref (hh.objs.size + 1)) ⟨h', gn, d, tk', os⟩) :
    wpAny (model prog w) A (call (.ref C) us kw) Q E ⟨hh, gn, d, tk, os⟩ := by
  obtain ⟨nm, N', qn, bs', bm, hdct, sn, sub, ab, col, dd, k0, k1, k2, k3, k5, hC, hT⟩ := PySem.W.excInit_of X D.xi
  obtain ⟨oI, hoI, hcI⟩ : ∃ oI, hh.get? D.fI = some oI ∧ oI.cls = .type "function" := by
    obtain ⟨o, ho, hc⟩ := Option.map_eq_some_iff.mp (show (K.lookup D.fI).map (·.cls) = some (.type "function") from beq_iff_eq.mp D.isF)
    exact ⟨o, X _ _ ho, hc⟩
  have kk : ∀ b o, hh.get? b = some o → ((hh.push (PySem.W.kdv_tup us)).push (PySem.PX.excO C hh.objs.size)).get? b = some o := fun b o e => Heap.get?_push_of_some _ (Heap.get?_push_of_some _ e)
  have sz : ((hh.push (PySem.W.kdv_tup us)).push (PySem.PX.excO C hh.objs.size)).objs.size = hh.objs.size + 2 := by rw [Heap.size_push, Heap.size_push]
  have hget : ((hh.push (PySem.W.kdv_tup us)).push (PySem.PX.excO C hh.objs.size)).get? (hh.objs.size + 1) = some (PySem.PX.excO C hh.objs.size) := by
    have z := Heap.get?_push_size (hh.push (PySem.W.kdv_tup us)) (o := PySem.PX.excO C hh.objs.size) rfl
    rwa [Heap.size_push] at z
  obtain ⟨N0, iN, bmN, fb, hN0⟩ := T.nw
  have len : us.length ≤ sizeLine := by
    rcases hu with ⟨rfl, _⟩ | ⟨rfl, _⟩
    · show 1 ≤ sizeLine; decide
    · show 0 ≤ sizeLine; decide
  refine wpAny_call (PySem.PX.mir_call fb ((hT _).trans hN0) ((hT _).trans T.bA) ((hT _).trans T.bN) hC (PySem.W.looks_findIn X D.init) (fun self => PySem.W.exc_bind hoI hcI self) len (codeAny_mono (R := PySem.W.InitBack (hh.objs.size + 1) fun r s' => r = .ok (.ret (.ref (hh.objs.size + 1))) ∧ Q (.ref (hh.objs.size + 1)) s') ?_ fun r s' z => ?_))
  · refine ks_codeAny_call_defAt (s := ⟨_, gn, d, tk, os⟩) (fd := PySem.W.ksFn D.name D.qual D.params D.body D.scope D.dV D.kV D.dc D.pm D.an (.ref D.cda) D.ct D.cc) (body := D.body) (binds := [(("self" : Str), .ref (hh.objs.size + 1)), (par, v)]) room (kk _ _ (X _ _ D.hf)) rfl (lim.keeps kk)
      (PySem.W.codeRec_of (X.keeps kk) D.hrec) rfl (by rcases hu with ⟨rfl, rfl⟩ | ⟨rfl, rfl⟩; exact .of_eq (D.bind _ _); exact .of_eq (D.bindK _ _)) D.kCell (fun y hy => ?_) (fun h1 hns hk1 => ?_) D.kCo D.kGen D.kFn
    · simp at hy
      rcases hy with rfl | rfl
      · exact D.kSelf
      · exact D.kPar
    · have F1 : Fr hh ((hh.push (PySem.W.kdv_tup us)).push (PySem.PX.excO C hh.objs.size)).objs.size h1 _ := ⟨hns, fun b o e => hk1 b o (kk b o e), by rw [sz]; omega⟩
      have N1 : News hh ((hh.push (PySem.W.kdv_tup us)).push (PySem.PX.excO C hh.objs.size)).objs.size h1 [(hh.objs.size + 1, PySem.W.excObj C hh.objs.size none .none)] := fun p hp => by
        simp at hp
        subst hp
        refine ⟨hk1 _ _ hget, by rw [sz]; exact Nat.ne_of_lt (Nat.lt_succ_self _), ?_⟩
        cases z : hh.get? (hh.objs.size + 1) with
        | none => rfl
        | some o => exact absurd (Heap.lt_size z) (Nat.not_lt.mpr (Nat.le_succ _))
      refine x_body (s := ⟨h1, gn, d, _, os⟩) T D (e := hh.objs.size + 1) (v := v) F1 X N1 g gs bl bs ?_ ?_ fun t2 dx k tk' h' F' N2 lt => ?_
      · show List.lookup _ [(par, v), (("self" : Str), Value.ref (hh.objs.size + 1))] = _
        rw [List.lookup_cons]
        have : (("self" : Str) == par) = false := by
          have z := D.neP
          rw [beq_eq_false_iff_ne] at z ⊢
          exact Ne.symm z
        rw [this]
        simp
      · show List.lookup _ [(par, v), (("self" : Str), Value.ref (hh.objs.size + 1))] = _
        first | (rw [List.lookup_cons]; simp; done) | simp
      · exact ⟨rfl, rfl, h t2 dx k tk' h' F'.keep (N2 (hh.objs.size + 1, _) (by simp)).1 (N2 (dx, _) (by simp)).1 lt⟩
  · rcases r with x | f
    · cases z.1
    · cases f with
      | ret u =>
        obtain ⟨e, _, q⟩ := z
        exact ⟨e, q⟩
      | _ => exact z.elim
end
end Mir

namespace Mir
open PySem PySem.Spec PyProof.Rows L2
/-! ## raise C(e) -/
def tXc (C : Addr) (fld : Str) (te : TE) : St → Hp → XK → Prop := fun σ H Q => te σ H fun x H1 => ∀ dx, H1 dx = none → Q (.ref C) (some dx) (upd H1 dx (.xd [(fld, x)]))
theorem ns_one {h : Heap} {w : World} {dx : Addr} {fld : Str} {k : Nat} {v : Value} (e : h.get? dx = some (PySem.W.dictOf (xEs w fld k v) 1)) : h.Ns1 dx fun y => if y = fld then some v else none := by
  refine ⟨_, _, _, e, rfl, fun e he => ?_, ?_, fun y => ?_⟩
  · simp [xEs] at he
    subst he
    exact ⟨_, _, rfl⟩
  · show List.Pairwise _ _
    simp [xEs]
  · unfold nsFind findBy
    by_cases hy : y = fld
    · subst hy
      simp [xEs, Value.isStr]
    · have : (fld == y) = false := by
        rw [beq_eq_false_iff_ne]
        exact Ne.symm hy
      simp [xEs, Value.isStr, hy, this]
/-- the exception set apart: what is left of the heap, with its dict -/
theorem x_apart {X : Cx} {pins : List (Addr × Obj)} {σ : St} {H : Hp} {Q : XK} {hp h2 : Heap} {g : Array GenState} {d : Drawn} {tk tk' k : Nat} {os : OsState} {C t2 dx : Addr} {fld : Str} {x : V} {v : Value} (R : Raises X (.ref C)) (I : Inv X pins σ H ⟨hp, g, d, tk, os⟩) (rx : RelV x v)
    (kk : ∀ b o, hp.get? b = some o → h2.get? b = some o) (he : h2.get? (hp.objs.size + 1) = some (PySem.W.excObj C t2 (some dx) .none)) (hd : h2.get? dx = some (PySem.W.dictOf (xEs X.w fld k v) 1)) (lt : hp.objs.size + 1 < dx)
    (q : Q (.ref C) (some dx) (upd H dx (.xd [(fld, x)]))) : MkP X pins σ Q (.ref (hp.objs.size + 1)) ⟨h2, g, d, tk', os⟩ := by
  obtain ⟨G, g1, g2⟩ := restrict h2 fun b => decide (b ≠ hp.objs.size + 1)
  have gk : ∀ b, b ≠ hp.objs.size + 1 → G.get? b = h2.get? b := fun b hb => g1 b (decide_eq_true hb)
  have ge : G.get? (hp.objs.size + 1) = none := g2 _ (by simp)
  have old : ∀ b o, hp.get? b = some o → b ≠ hp.objs.size + 1 := fun b o e z => absurd (Heap.lt_size e) (by rw [z]; exact Nat.not_lt.mpr (Nat.le_succ _))
  have ns := ns_one (h := G) ((gk dx (Nat.ne_of_gt lt)).trans hd)
  have J : Inv X pins σ (upd H dx (.xd [(fld, x)])) ⟨G, g, d, tk', os⟩ := I.laid (t' := tk') (a := dx) (o := .xd [(fld, x)]) (h' := G) (fun b o e => (gk b (old b o e)).trans (kk b o e)) (Nat.le_of_lt (Nat.lt_of_succ_lt lt)) ⟨_, ns, fun f => by
    by_cases hf : f = fld
    · subst hf
      have z : RelO (some x) (some v) := rx
      simpa using z
    · have : (f == fld) = false := by
        rw [beq_eq_false_iff_ne]
        exact hf
      have z : List.lookup f [(fld, x)] = none := by simp [List.lookup, this]
      rw [z]
      simp only [if_neg hf]
      exact trivial⟩
  have nH : H (hp.objs.size + 1) = none := I.hok.fresh (Nat.le_succ _)
  refine ⟨_, _, _, ⟨G, g, d, tk', os⟩, _, .ref C, some dx, rfl, J, fun b o e => ?_, ge, he, ⟨rfl, rfl⟩, rfl, rfl, ?_, rfl, I.bare, R, q⟩
  · by_cases hb : b = hp.objs.size + 1
    · rw [hb, ge] at e
      cases e
    · exact (gk b hb).symm.trans e
  · rw [upd_ne (Nat.ne_of_lt lt)]
    exact nH
section
variable {X : Cx} {W : WX} {B i newId : String} {bmB : List Value} {Ca : Addr} {par fld C : Str} {e : Expr} {te : TE} {p pos pos' : Pos} {k : Nat}
/-- an own exception of the program, named C in the main module -/
structure ExcN (X : Cx) (C : Str) (Ca : Addr) : Prop where
  at_ : X.mg C = some (.ref Ca)
  cn : ClsN X.K C Ca
  kp : PySem.W.keepIn X.K (.ref Ca) = true
  base : PySem.W.subIn X.K (.ref Ca) (.type "BaseException") = some true
  ty : PySem.W.typeIn X.K (.ref Ca) = some (.type "type")
theorem pmk_x (T : ExcB0 B i newId bmB) (D : ExcK X.prog X.K Ca par fld B i newId bmB) (N : ExcN X C Ca) (hr : Room (k + 1) X.A) (gs : X.mg "super" = none) (he : PE X e te) (hg : Gl X C := by rfl) (hdb : (C == ("__debug__" : Str)) = false := by decide)
    (hst : starEach [e] X.env = (false, eval e X.env) :: starEach [] X.env := by rfl) : PMk X (.Call (.Name C p) [e] [] pos) (tXc Ca fld te) := by
  intro pins s σ H Q I h
  refine wpAny_Call_Name_kw (ld_glob I hg N.at_ ?_ hdb)
  refine PySem.W.callWith_K (h₀ := X.base) I.ok.mod.kin N.kp (thn ((pa_cons he pa_nil hst).run pos pins s σ H (fun vs H1 => match vs with
      | [x] => ∀ dx, H1 dx = none → Q (.ref Ca) (some dx) (upd H1 dx (.xd [(fld, x)]))
      | _ => False) I h) fun us s1 ⟨vs, H1, I1, r, q⟩ => ⟨I1.kIn, ?_⟩) hst rfl
  match vs, q with
  | [x], q =>
      obtain ⟨v, rfl, rx⟩ := vals1 r
      obtain ⟨hp, g, d, tk, os⟩ := s1
      obtain ⟨mb, hb1, hb2⟩ := I1.ok.mod.blt
      have hroom : (X.A.under (.builtin "type.__call__" ⟨[.ref Ca, v], []⟩)).depth < recursionLimit := by
        have := hr.dp
        rw [make_depth]
        omega
      refine x_call T D (.inl ⟨rfl, rfl⟩) I1.kIn I1.nolimit (I1.ok.mod.glob.keeps I1.bk) gs (hb1.keeps I1.bk) ((hb2 _ (by decide)).trans rfl) hroom fun t2 dx kz tk' h' k1 k2 k3 k4 => ?_
      exact x_apart (raises_own N.base N.ty) I1 rx k1 k2 k3 k4 (q dx (I1.hok.fresh (Nat.le_of_lt (Nat.lt_of_succ_lt k4))))
end
end Mir

namespace Mir
open PySem PySem.Spec PyProof.Rows L2
/-! ## the built-in bases -/
theorem b_value : ExcB0 "ValueError" "ValueError.__init__" "ValueError.__new__" [.type "ValueError", .type "Exception", .type "BaseException", .type "object"] := .of PySem.W.kxs_ValueError PySem.F.excBase_ValueError PySem.F.store_ValueError
theorem b_overflow : ExcB0 "OverflowError" "OverflowError.__init__" "OverflowError.__new__" [.type "OverflowError", .type "ArithmeticError", .type "Exception", .type "BaseException", .type "object"] := .of PySem.W.kxs_OverflowError PySem.F.excBase_OverflowError PySem.F.store_OverflowError
theorem b_runtime : ExcB0 "RuntimeError" "RuntimeError.__init__" "RuntimeError.__new__" [.type "RuntimeError", .type "Exception", .type "BaseException", .type "object"] := .of PySem.W.kxs_RuntimeError PySem.F.excBase_RuntimeError PySem.F.store_RuntimeError
/-! ## what is not reached -/
variable {X : Cx} {W : WX}
theorem ds_no {st : Stmt} : DS X W st (fun _ => none) := ⟨fun pins s σ H D I h => by
  obtain ⟨S, env, o, e', _, h, _⟩ := h
  cases h⟩
theorem de_no {e : Expr} : DE X W e (fun _ => none) := ⟨fun pins s σ H D I h => by
  obtain ⟨S, env, o, e', _, h, _⟩ := h
  cases h⟩
theorem df_no {e : Expr} : DF X W e (fun _ => none) := ⟨fun pins s σ H D I h => by
  obtain ⟨S, env, o, e', _, h, _⟩ := h
  cases h⟩
theorem dt_no {e : Expr} : DT X W e (fun _ => none) := ⟨fun pins s σ H D I h => by
  obtain ⟨S, env, o, e', _, h, _⟩ := h
  cases h⟩
theorem db_no {st : List Stmt} : DB X W st (fun _ => none) := ⟨fun pins s σ H D I h => by
  obtain ⟨S, env, o, e', _, h, _⟩ := h
  cases h⟩
/-! ## raise C(e) -/
def sRaise (C fld : Str) (fe : EF D) : SF := sBind fe fun d e => some (.ex (.own C [(fld, d)]), e)
theorem ds_raise {B i newId : String} {bmB : List Value} {Ca : Addr} {par fld C : Str} {e : Expr} {fe : EF D} {p pos pos' : Pos} {k : Nat} (hc : X.calm = true) (tk : Takes X W) (T : ExcB0 B i newId bmB) (Df : ExcK X.prog X.K Ca par fld B i newId bmB) (N : ExcN X C Ca) (hr : Room (k + 1) X.A) (gs : X.mg "super" = none)
    (he : DE X W e fe) (hg : Gl X C := by rfl) (hdb : (C == ("__debug__" : Str)) = false := by decide) (hst : starEach [e] X.env = (false, eval e X.env) :: starEach [] X.env := by rfl) : DS X W (.Raise (some (.Call (.Name C p) [e] [] pos')) none pos) (sRaise C fld fe) := by
  refine ps_imp (ps_raise hc tk (pmk_x T Df N hr gs he hg hdb hst)) ?_
  rintro Dn σ H ⟨S, env, z⟩
  refine ⟨S, env, (AtS.bind (R := RD X.K) z).imp fun x H1 ⟨d, S1, e1, rd, st, z1⟩ => ?_⟩
  intro dx hdx
  have sa := z1.choose_spec.choose_spec.1.alloc (o := .xd [(fld, x)]) hdx
  exact z1.end rfl sa (.ref Ca) (some dx) ⟨Ca, N.cn, rfl, dx, [(fld, x)], rfl, upd_same, x, [], rfl, rd.mono sa.le, rfl⟩
end Mir

namespace Mir
open PySem PySem.Spec PyProof.Rows L2
/-! ## sorted texts -/
def leS (a b : Str) : Bool := !ltCps b.cps.toList a.cps.toList
theorem leS_iff (a b : Str) : leS a b = true ↔ ¬ b.cps.toList < a.cps.toList := by
  unfold leS
  rw [ltCps_eq]
  simp
theorem leS_trans (a b c : Str) (h : leS a b = true) (h' : leS b c = true) : leS a c = true := by
  rw [leS_iff] at *
  exact List.le_trans h h'
theorem leS_total (a b : Str) : (leS a b || leS b a) = true := by
  rw [Bool.or_eq_true, leS_iff, leS_iff]
  exact List.le_total a.cps.toList b.cps.toList
theorem str_ext {a b : Str} (h : a.cps.toList = b.cps.toList) : a = b := by
  obtain ⟨x⟩ := a
  obtain ⟨y⟩ := b
  have : x = y := Array.toList_inj.mp h
  rw [this]
theorem leS_anti {a b : Str} (h : leS a b = true) (h' : leS b a = true) : a = b := by
  rw [leS_iff] at *
  exact str_ext (List.le_antisymm h h')
theorem rising_pw : ∀ (p : Str) (l : List Str), risingS p l = true → (p :: l).Pairwise (fun a b => leS a b = true)
  | p, [], _ => by simp
  | p, x :: r, h => by
    obtain ⟨h1, h2⟩ := Bool.and_eq_true_iff.mp (show (!ltCps x.cps.toList p.cps.toList && risingS x r) = true from h)
    have ih := rising_pw x r h2
    refine List.pairwise_cons.mpr ⟨fun y hy => ?_, ih⟩
    rcases List.mem_cons.mp hy with rfl | hy
    · exact h1
    · exact leS_trans p x y h1 ((List.pairwise_cons.mp ih).1 y hy)
theorem sorted_pw : ∀ (l : List Str), sortedS l = true → l.Pairwise (fun a b => leS a b = true)
  | [], _ => List.Pairwise.nil
  | x :: r, h => rising_pw x r h
theorem pw_unique : ∀ {l m : List Str}, l.Perm m → l.Pairwise (fun a b => leS a b = true) → m.Pairwise (fun a b => leS a b = true) → l = m
  | [], m, h, _, _ => h.nil_eq
  | x :: l, [], h, _, _ => (h.symm.nil_eq).symm
  | x :: l, y :: m, h, h1, h2 => by
    have hx : x ∈ y :: m := h.subset List.mem_cons_self
    have hy : y ∈ x :: l := h.symm.subset List.mem_cons_self
    have e : x = y := by
      rcases List.mem_cons.mp hx with e | hx
      · exact e
      · rcases List.mem_cons.mp hy with e | hy
        · exact e.symm
        · exact leS_anti ((List.pairwise_cons.mp h1).1 y hy) ((List.pairwise_cons.mp h2).1 x hx)
    subst e
    rw [pw_unique ((List.perm_cons x).mp h) (List.pairwise_cons.mp h1).2 (List.pairwise_cons.mp h2).2]
/-- a list of texts in order -/
def putS (x : Str) : List Str → List Str
  | [] => [x]
  | y :: r => if leS x y = true then x :: y :: r else y :: putS x r
def srt : List Str → List Str
  | [] => []
  | x :: l => putS x (srt l)
theorem putS_perm (x : Str) : ∀ l : List Str, (putS x l).Perm (x :: l)
  | [] => List.Perm.refl _
  | y :: r => by
    unfold putS
    split
    · exact List.Perm.refl _
    · exact ((putS_perm x r).cons y).trans (List.Perm.swap x y r)
theorem srt_perm : ∀ l : List Str, (srt l).Perm l
  | [] => List.Perm.refl _
  | x :: l => (putS_perm x (srt l)).trans ((srt_perm l).cons x)
theorem putS_pw (x : Str) : ∀ l : List Str, l.Pairwise (fun a b => leS a b = true) → (putS x l).Pairwise (fun a b => leS a b = true)
  | [], _ => by simp [putS]
  | y :: r, h => by
    obtain ⟨h1, h2⟩ := List.pairwise_cons.mp h
    unfold putS
    split
    · rename_i hx
      exact List.pairwise_cons.mpr ⟨fun z hz => by
        rcases List.mem_cons.mp hz with rfl | hz
        · exact hx
        · exact leS_trans x y z hx (h1 z hz), h⟩
    · rename_i hx
      refine List.pairwise_cons.mpr ⟨fun z hz => ?_, putS_pw x r h2⟩
      rcases List.mem_cons.mp ((putS_perm x r).subset hz) with rfl | hz
      · have := leS_total y z
        rw [Bool.or_eq_true] at this
        rcases this with q | q
        · exact q
        · exact absurd q hx
      · exact h1 z hz
theorem srt_pw : ∀ l : List Str, (srt l).Pairwise (fun a b => leS a b = true)
  | [] => List.Pairwise.nil
  | x :: l => putS_pw x (srt l) (srt_pw l)
theorem srt_of {l m : List Str} (h : m.Perm l) (hs : sortedS m = true) : m = srt l := pw_unique (h.trans (srt_perm l).symm) (sorted_pw m hs) (srt_pw l)
theorem srt_eq {l m : List Str} (h : l.Perm m) : srt l = srt m := pw_unique ((srt_perm l).trans (h.trans (srt_perm m).symm)) (srt_pw l) (srt_pw m)
/-- sorted(xs), xs a list of fewer than 64 texts: a new list -/
def oSrt : D → Option D
  | .lst ds => match dStrs ds with
    | some xs => if xs.length < 64 then some (.lst ((srt xs).map .str)) else none
    | none => none
  | _ => none
theorem reps_strs {K : PySem.W.Frag} {S : Hp} : ∀ {xs : List Str}, (∀ x ∈ xs, x.length ≤ sizeLine) → Reps K S (xs.map .str) (xs.map V.str)
  | [], _ => rfl
  | x :: xs, h => ⟨.str x, _, rfl, ⟨rfl, h x List.mem_cons_self⟩, reps_strs fun y hy => h y (List.mem_cons_of_mem _ hy)⟩
theorem de_srt {X : Cx} {W : WX} {p pos : Pos} {e : Expr} {es : List Expr} {fas : EF (List AV)} (hm : X.mg "sorted" = none) (ha : DA X W (e :: es) fas) (hg : Gl X "sorted" := by rfl) (he : starEach (e :: es) X.env = (false, eval e X.env) :: starEach es X.env := by rfl) (hpl : (backTo pos (starEach es X.env)).any (·.1) = false := by rfl) :
    DE X W (.Call (.Name "sorted" p) (e :: es) [] pos) (eBind fas (g1 fun a => eOn a oSrt)) := by
  refine de_callB cr_sortedS hm rfl ha (fun S env σ H Q as vs rv z => ?_) hg (he := he) (hpl := hpl)
  obtain ⟨a, v, rfl, ra, z⟩ := z.g1 rv
  obtain ⟨d, x, r1, ho, rel, q⟩ := z.on ra
  cases d with
  | lst ds =>
    unfold oSrt at ho
    dsimp only at ho
    split at ho
    · rename_i xs hx
      split at ho
      · rename_i h64
        cases ho
        obtain ⟨b, ws, rfl, hH, hl, hlen, rr⟩ := r1
        obtain ⟨ev, hl2, hb⟩ := dStrs_v hx rr
        subst ev
        refine ⟨b, xs, rfl, .inl (.inl hH), h64, fun ys p hp hs hn => ?_⟩
        have hy := srt_of hp hs
        subst hy
        have al := rel.alloc (o := .lst ((srt xs).map V.str)) hn
        refine q _ _ al _ ⟨p, _, rfl, upd_same, ?_, reps_strs fun y hy => hb y ((srt_perm xs).subset hy)⟩
        rw [List.length_map, (srt_perm xs).length_eq]
        exact small_le (by omega)
      · cases ho
    · cases ho
  | _ => cases ho
end Mir

namespace Mir
open PySem PySem.Spec PyProof.Rows L2
section
variable {X : Cx} {W : WX}
/-! ## x, y = a, b -/
def sPar (i j : Nat) (fa : EF D) (fb : EF FR) : SF := sBind fa fun d => sBind fb fun r => sSeq (putV i d) (putF j r)
theorem AtS.seqNx {K : PySem.W.Frag} {S : SS} {env : ME} {σ : St} {H : Hp} {Dn : Ends} {i : Nat} {d : D} {v : V} {g : SF} (z : AtS K W (sSeq (putV i d) g) S env σ H Dn) (r : Rep K S d v) : ∃ env', AtS K W g S env' (σ.set i (some v)) H Dn := by
  obtain ⟨o, e', rel, e, q⟩ := z
  unfold sSeq putV at e
  cases hb : isB env i with
  | true => rw [hb] at e; cases e
  | false =>
    rw [hb] at e
    have st := rel.setV (notB_of hb) r
    exact ⟨_, o, e', st.rel, e, fun S' σ' H' st' => q S' σ' H' (st.trans st')⟩
theorem ds_par (i j : Nat) {x y : Str} {a b : Expr} {fa : EF D} {fb : EF FR} {px py pt pos : Pos} {kt k2 pt2} (hc : X.calm = true) (hN : X.N.Nodup) (ha : DE X W a fa) (hb : DF X W b fb) (hi : X.N[i]? = some x := by rfl) (hj : X.N[j]? = some y := by rfl) (hij : i ≠ j := by decide)
    (hx : X.env.scope.names.lookup x = some .local := by rfl) (hy : X.env.scope.names.lookup y = some .local := by rfl) (hw : swappedStores [.Tuple [.Name x px, .Name y py] kt pt] (.Tuple [a, b] k2 pt2) X.env = pure (some [x, y]) := by rfl)
    (hs : swapsWithSole [.Tuple [.Name x px, .Name y py] kt pt] (.Tuple [a, b] k2 pt2) pos.line X.env = pure false := by rfl) (he : starEach [a, b] X.env = (false, eval a X.env) :: starEach [b] X.env := by rfl) (he2 : starEach [b] X.env = (false, eval b X.env) :: starEach [] X.env := by rfl) :
    DS X W (.Assign [.Tuple [.Name x px, .Name y py] kt pt] (.Tuple [a, b] k2 pt2) pos) (sPar i j fa fb) := by
  refine ps_imp (ps_par hc hN hi hj hij hx hy (pa_cons ha (pa_cons hb pa_nil he2) he) hw hs) ?_
  rintro Dn σ H ⟨S, env, z⟩
  refine ⟨S, env, (AtS.bind (R := RD X.K) z).imp fun v H1 ⟨d, S1, e1, rd, st, z1⟩ => ?_⟩
  obtain ⟨o, e', rel, e, q⟩ := z1
  unfold sBind at e
  refine ⟨S1, e1, ?_⟩
  cases ef : fb e1 with
  | none => rw [ef] at e; cases e
  | some p =>
    obtain ⟨r1, e2⟩ := p
    rw [ef] at e
    cases r1 with
    | ex x =>
      have e' : some (Out.ex x, e2) = some (o, e') := e
      cases e'
      exact ⟨.ex x, _, rel, ef, fun S' H' st => q S' σ H' st⟩
    | ok r =>
      refine ⟨.ok r, e2, rel, ef, fun S2 H2 st2 => ?_⟩
      have z2 : AtS X.K W (sSeq (putV i d) (putF j r)) S2 e2 σ H2 Dn := ⟨o, e', st2.rel, e, fun S' σ' H' st' => q S' σ' H' (st2.trans st')⟩
      obtain ⟨e3, z3⟩ := z2.seqNx (Rep.mono st2.le _ _ rd)
      have w := putF_end z3
      cases r with
      | d d' => exact fun u hu => ⟨v, u, rfl, w u hu⟩
      | o m => exact fun p o hp ho => ⟨v, .ref p, rfl, w p o hp ho⟩
      | h n => exact fun a ha => ⟨v, .ref a, rfl, w a ha⟩
/-! ## str(x) of a text -/
def oStr : D → Option D
  | .str x => some (.str x)
  | _ => none
theorem de_str1 {p pos : Pos} {e : Expr} {es : List Expr} {fas : EF (List AV)} (hm : X.mg "str" = none) (ha : DA X W (e :: es) fas) (hg : Gl X "str" := by rfl) (he : starEach (e :: es) X.env = (false, eval e X.env) :: starEach es X.env := by rfl) (hpl : (backTo pos (starEach es X.env)).any (·.1) = false := by rfl) :
    DE X W (.Call (.Name "str" p) (e :: es) [] pos) (eBind fas (g1 fun a => eOn a oStr)) := by
  refine de_callTy SkE.call_str_str hm (by decide +kernel) ha (fun S env σ H Q as vs rv z => ?_) hg (he := he) (hpl := hpl)
  obtain ⟨a, v, rfl, ra, z⟩ := z.g1 rv
  obtain ⟨d, x, r1, ho, rel, q⟩ := z.on ra
  cases d with
  | str y =>
    cases ho
    obtain ⟨rfl, hl⟩ := r1
    exact ⟨y, rfl, q S H rel.step _ ⟨rfl, hl⟩⟩
  | _ => cases ho
end
end Mir

namespace Mir
open PySem PySem.Spec PyProof.Rows L2
section
variable {X : Cx} {W : WX}
/-! ## *e within a display or a call -/
def itemsOf : D → Option (List D)
  | .tup ds => some ds
  | .lst ds => some ds
  | .frl ds => some ds
  | _ => none
def kStar (g : EF (List AV)) (a : AV) : EF (List AV) := eBind (eOn a itemsOf) fun ds => eBind g fun as => eRet (ds.map .d ++ as)
def eStar (f : EF AV) (g : EF (List AV)) : EF (List AV) := eBind f (kStar g)
theorem da_star {e : Expr} {es : List Expr} {p : Pos} {f : EF AV} {g : EF (List AV)} (ha : DV X W e f) (hr : DA X W es g) (hs : starEach (.Starred e p :: es) X.env = (true, eval e X.env) :: starEach es X.env := by rfl) : DA X W (.Starred e p :: es) (eStar f g) := by
  refine pa_imp (StX.pa_star ha hr hs) ?_
  rintro σ H Q ⟨S, env, z⟩
  refine ⟨S, env, (At.bind (R := RAv X.K) z).imp fun v H1 ⟨a, S1, e1, ra, st, z1⟩ => ?_⟩
  unfold kStar at z1
  obtain ⟨r, e', rel, ef, q⟩ := z1
  rw [eBind_k, eOn_k] at ef
  cases hv : viewA a e1 with
  | none => rw [hv] at ef; cases ef
  | some d =>
    rw [hv, kO_some] at ef
    cases hd : itemsOf d with
    | none => rw [hd] at ef; cases ef
    | some ds =>
      rw [hd, kR_some, kB_ok] at ef
      have r1 := view_one rel ra hv
      obtain ⟨b, xs, rfl, hH, hr1⟩ : ∃ b xs, v = .ref b ∧ (SqT X.K H1 b xs ∨ SqL X.K H1 b xs) ∧ Reps X.K S1 ds xs := by
        cases d with
        | tup ys =>
          cases hd
          obtain ⟨b, xs, rfl, hT, _, _, rr, _⟩ := r1
          exact ⟨b, xs, rfl, .inl hT.sq, rr⟩
        | lst ys =>
          cases hd
          obtain ⟨b, xs, rfl, hT, _, _, rr⟩ := r1
          exact ⟨b, xs, rfl, .inr (.inl (.inl hT)), rr⟩
        | frl ys =>
          cases hd
          obtain ⟨b, xs, rfl, hT, _, _, rr⟩ := r1
          exact ⟨b, xs, rfl, .inr hT, rr⟩
        | _ => cases hd
      refine ⟨b, xs, rfl, hH, S1, e1, ?_⟩
      have z2 : At X.K W (RAl X.K) (eBind g fun as => eRet (ds.map .d ++ as)) S1 e1 σ H1 Q := ⟨r, e', rel, ef, q⟩
      refine (At.bind (R := RAl X.K) z2).imp fun ys H2 ⟨as, S2, e2, rv, st2, z3⟩ => ?_
      exact z3.ret (R := RAl X.K) (ras_app (ras_d (Reps.mono st2.le _ _ hr1)) rv)
end
end Mir

namespace Mir
open PySem PySem.Spec PyProof.Rows L2
section
variable {X : Cx} {W : WX}
/-! ## x += e, ints -/
def gAddI (x y : D) : EF D := match x, y with
  | .int i, .int j => eRet (.int (i + j))
  | _, _ => fun _ => none
theorem ds_augAdd (i : Nat) {x : Str} {e : Expr} {f : EF D} {pos pos' : Pos} (hN : X.N.Nodup) (he : DE X W e f) (hi : X.N[i]? = some x := by rfl) (hx : Loc X.env.scope x := by first | exact Or.inl rfl | exact Or.inr rfl) (hf : X.fn x = true ∨ X.env.scope.names.lookup x = some .local := by first | exact .inl rfl | exact .inr rfl | assumption) :
    DS X W (.AugAssign (.Name x pos') .Add e pos) (sAug i f gAddI) := by
  refine ds_aug i hN he ip_add (fun S env σ H Q a b va vb ra rb z => ?_) hi hx hf
  cases a with
  | int m =>
    cases b with
    | int n =>
      cases (show va = V.int m from ra)
      cases (show vb = V.int n from rb)
      exact ⟨m, n, rfl, rfl, z.ret rfl⟩
    | _ => exact (z.none rfl).elim
  | _ => cases b <;> exact (z.none rfl).elim
end
end Mir

namespace Mir
open PySem PySem.Spec PyProof.Rows L2
section
variable {X : Cx} {W : WX} {k j n : Nat} {f Ca : Addr} {fd : FuncData} {ps : List Str} {mf : MF} {C : Str} {sp : Sp}
/-! ## a def of the class, called by an operator -/
theorem run_at {XT : CXT} {A' : Around} {E : XK} {pn : List (Addr × Obj)} {σ : St} {h0 : Hp} {s0 : Shared} {G : VK} {us : List Value} {vs : List V} (F : FnOk X.prog X.w X.K X.mg X.base XT k f fd ps sp) (room : Room k A') (fr : A'.frames = X.A.frames) (bd : Binds X.K fd ps [])
    (hx : PassesAt XT X σ E) (inv : Inv X pn σ h0 s0) (rv : Vals vs us) (hsp : sp vs h0 G E) : wpAny (model X.prog X.w) A' (call (.ref f) us) (EP X pn σ G) X.xe s0 := by
  have many : (us ++ []).length = ps.length := by
    rw [List.append_nil, ← rv.length]
    exact F.len _ _ _ _ hsp
  have at0 : Env0 X.prog X.w X.K X.mg X.base A' X.stack s0 h0 := ⟨by rw [fr]; exact inv.env0.frames, inv.env0.mod, inv.env0.bs, inv.env0.bsz, inv.env0.funs, inv.env0.frf, inv.env0.hok, inv.env0.bare⟩
  have bound : BindsTo s0 fd ⟨us, []⟩ (ps.zip us) := by
    have z := bd s0 us inv.kIn many
    rwa [List.append_nil] at z
  refine wpAny_call (codeAny_mono (F.run A' X.stack s0 h0 ⟨us, []⟩ us vs G E room at0 bound rv hsp) fun r s2 hr => ?_)
  match r, hr with
  | .error e, hr => exact hx pn h0 s0 e s2 inv hr
  | .ok (.ret u), hr => exact inv.after hr
  | .ok .next, hr => exact hr.elim
  | .ok .brk, hr => exact hr.elim
  | .ok .cont, hr => exact hr.elim
/-! ## len(e), e an instance with its own def for it -/
structure Dun (K : PySem.W.Frag) (Ca f : Addr) (nm : Str) : Prop where
  at_ : PySem.W.findIn K (.ref Ca) nm = some (some (.ref f))
  fn : PySem.W.isFn K (.ref f) = true
def kLenI (C : Str) (mf : MF) (a : AV) : EF D := fun env => match viewA a env with
  | some (.ins c _) => if c = C then match kCall mf [a] env with
    | some (.ok (.d (.int i)), e) => if 0 ≤ i ∧ i < 2 ^ 63 then some (.ok (.int i), e) else none
    | some (.ex x, e) => some (.ex x, e)
    | _ => none
  else none
  | _ => none
theorem kcall_sp {K : PySem.W.Frag} {sh : Bool} {S : SS} {env env' : ME} {σ : St} {H : Hp} {as : List AV} {vs : List V} {r : Res FR} {Q : VK} {E : XK} (rel : Rel K S env σ H) (ra : RAs K σ S as vs) (hlen : as.length = n) (e : kCallG sh mf as env = some (r, env'))
    (q : ∀ (S' : SS) H', Step K S env σ H S' env' σ H' → PostF K Q E r S' H') : spM K n mf vs H Q E :=
  AtF.kcall (W := fun cls dd _ H => E cls dd H) (sh := sh) ⟨r, env', rel, e, q⟩ ra hlen
def tLenI (Ca : Addr) (sp : Sp) (E : St → XK) (te : TE) : TE := fun σ H Q => te σ H fun x H1 => ∃ a dx fs, x = .ref a ∧ H1 a = some (.ins Ca dx fs) ∧ sp [x] H1 (fun v H2 => ∃ i, v = .int i ∧ 0 ≤ i ∧ i < 2 ^ 63 ∧ Q (.int i) H2) (E σ)
theorem de_lenI {e : Expr} {fe : EF AV} {p pos : Pos} (tk : TkC X W) (hm : X.mg "len" = none) (he : DV X W e fe) (cn : ClsN X.K C Ca) (D : Dun X.K Ca f "__len__") (F : FnOk X.prog X.w X.K X.mg X.base (L2.CX X.prog X.w) k f fd ps (spM X.K 1 mf)) (hb : Binds X.K fd ps []) (hr : Room j X.A) (hj : k + 1 ≤ j)
    (hg : Gl X "len" := by rfl) (hs : starEach [e] X.env = (false, eval e X.env) :: starEach [] X.env := by rfl) : DE X W (.Call (.Name "len" p) [e] [] pos) (eBind fe (kLenI C mf)) := by
  have base : PE X (.Call (.Name "len" p) [e] [] pos) (tLenI Ca (spM X.K 1 mf) (fun σ cls dd H => W cls dd σ H) (tr X.K W (RAv X.K) fe)) := by
    refine ⟨fun pn s σ H Q inv h => wpAny_Call_Name_kw (ld_blt inv hg hm PySem.boot_len ?_ (by decide) (by decide))⟩
    refine PyProof.Rows.callWith_builtin1 (thn ((pa_cons he pa_nil hs).run pos pn s σ H (fun vs H1 => match vs with
      | [x] => ∃ a dx fs, x = .ref a ∧ H1 a = some (.ins Ca dx fs) ∧ spM X.K 1 mf [x] H1 (fun v H2 => ∃ i, v = .int i ∧ 0 ≤ i ∧ i < 2 ^ 63 ∧ Q (.int i) H2) (fun cls dd H2 => W cls dd σ H2)
      | _ => False) inv h) fun us s1 ⟨vs, H1, I1, r, q⟩ => ?_) hs rfl
    match vs, q with
    | [x], q =>
      obtain ⟨u, rfl, ru⟩ := vals1 r
      obtain ⟨a, dx, fs, rfl, ha, hsp⟩ := q
      obtain rfl : u = Value.ref a := ru
      obtain ⟨mA, J, _⟩ := ins_get I1.hok ha
      obtain ⟨od, J, _⟩ := J.look
      obtain ⟨m, fr⟩ := I1.fr
      refine PySem.W.len_K fr I1.ok.mod.kin J D.at_ D.fn ?_
      refine wpAny_mono (run_at F ((hr.mono hj).in1) rfl hb (tk σ) I1 (vs := [V.ref a]) (.cons rfl .nil) hsp) (fun r s2 ⟨v, H2, I2, rv, i, ev, h0, h1, q2⟩ => ?_) fun _ _ z => z
      subst ev
      obtain ⟨t, rfl⟩ := rv
      exact ⟨⟨h0, h1⟩, .int i, H2, I2.tok _, ⟨_, rfl⟩, q2⟩
  refine pe_imp base ?_
  rintro σ H Q ⟨S, env, z⟩
  refine ⟨S, env, (At.bind (R := RAv X.K) z).imp fun x H1 ⟨a, S1, e1, ra, st, z1⟩ => ?_⟩
  obtain ⟨r, env', rel, ef, q⟩ := z1
  unfold kLenI at ef
  split at ef
  · rename_i c fs hv
    split at ef
    · rename_i hc
      subst hc
      obtain ⟨Ca', a', dx, fv, cn', rfl, hH, rf⟩ := view_one rel ra hv
      have hca := cn'.inj cn
      subst hca
      refine ⟨a', dx, fv, rfl, hH, ?_⟩
      split at ef
      · rename_i i e2 hk
        split at ef
        · rename_i hi
          cases ef
          exact kcall_sp (as := [a]) (vs := [V.ref a']) rel ⟨.ref a', [], rfl, ra, rfl⟩ rfl hk fun S' H' st' v rv => ⟨i, rv, hi.1, hi.2, q S' H' st' _ rfl⟩
        · cases ef
      · rename_i x e2 hk
        cases ef
        exact kcall_sp (as := [a]) (vs := [V.ref a']) rel ⟨.ref a', [], rfl, ra, rfl⟩ rfl hk fun S' H' st' => q S' H' st'
      · cases ef
    · cases ef
  · cases ef
end
end Mir

namespace Mir
open PySem PySem.Spec PyProof.Rows L2
section
variable {X : Cx} {W : WX} {k j n : Nat} {f Ca : Addr} {fd : FuncData} {ps : List Str} {mf : MF} {C : Str}
/-! ## operators that may raise: what is wished for may depend on the slots -/
abbrev RW2 := St → V → V → Hp → VK → Prop
def OpW (X : Cx) (op : Value → Value → Sem Value) (r : RW2) : Prop := ∀ (pn : List (Addr × Obj)) (s : Shared) (σ : St) (H : Hp) (x y : V) (v u : Value) (Q : VK), Inv X pn σ H s → RelV x v → RelV y u → r σ x y H Q → wpAny (model X.prog X.w) X.A (op v u) (EP X pn σ Q) X.xe s
def tOpW (r : RW2) (ta tb : TE) : TE := fun σ H Q => ta σ H fun x H1 => tb σ H1 fun y H2 => r σ x y H2 Q
theorem pe_opW {op : Operator} {r : RW2} {a b : Expr} {ta tb : TE} {pos : Pos} (ho : OpW X (binaryOp op) r) (ha : PE X a ta) (hb : PE X b tb) : PE X (.BinOp a op b pos) (tOpW r ta tb) :=
  ⟨fun pn s σ H Q I h => wpAny_BinOp (thn (ha.run pn s σ H _ I h) fun v s1 ⟨x, H1, I1, r1, q1⟩ => thn (hb.run pn s1 σ H1 _ I1 q1) fun u s2 ⟨y, H2, I2, r2, q2⟩ => ho pn s2 σ H2 x y v u Q I2 r1 r2 q2)⟩
theorem pe_cmpW {op : CmpOp} {r : RW2} {a b : Expr} {ta tb : TE} {pos : Pos} (ho : OpW X (compareOp op) r) (ha : PE X a ta) (hb : PE X b tb) (hm : behindInMarks op b = false) : PE X (.Compare a [op] [b] pos) (tOpW r ta tb) :=
  ⟨fun pn s σ H Q I h => wpAny_Compare1 (thn (ha.run pn s σ H _ I h) fun v s1 ⟨x, H1, I1, r1, q1⟩ => thn (hb.run pn s1 σ H1 _ I1 q1) fun u s2 ⟨y, H2, I2, r2, q2⟩ => ho pn s2 σ H2 x y v u Q I2 r1 r2 q2) hm⟩
theorem pt_cmpW {op : CmpOp} {r : RW2} {a b : Expr} {ta tb : TE} {pos : Pos} (ho : OpW X (compareOp op) r) (ha : PE X a ta) (hb : PE X b tb) (hm : behindInMarks op b = false) : PT X (.Compare a [op] [b] pos) (tTest (tOpW r ta tb)) := by
  refine ⟨fun pn s σ H Q I h => wpAny_isTrue_Compare1 (thn (ha.run pn s σ H _ I h) fun v s1 ⟨x, H1, I1, r1, q1⟩ => thn (hb.run pn s1 σ H1 _ I1 q1) fun u s2 ⟨y, H2, I2, r2, q2⟩ => thn (ho pn s2 σ H2 x y v u _ I2 r1 r2 q2) fun c s3 ⟨z, H3, I3, r3, kk, ez, q3⟩ => ?_) hm⟩
  subst ez
  cases r3
  exact wpAny_truthy_bool ⟨H3, I3, q3⟩
/-! ## x in e, x not in e: e an instance with its own def for it -/
def rInI (Ca : Addr) (sp : Sp) (E : St → XK) (neg : Bool) : RW2 := fun σ x y H Q => ∃ a dx fs, y = .ref a ∧ H a = some (.ins Ca dx fs) ∧ sp [y, x] H (fun v H2 => ∃ b : Bool, v = .bl b ∧ Q (.bl (b != neg)) H2) (E σ)
theorem op_inI (tk : TkC X W) (D : Dun X.K Ca f "__contains__") (F : FnOk X.prog X.w X.K X.mg X.base (L2.CX X.prog X.w) k f fd ps (spM X.K 2 mf)) (hb : Binds X.K fd ps []) (hr : Room j X.A) (hj : k ≤ j) :
    OpW X (compareOp .In) (rInI Ca (spM X.K 2 mf) (fun σ cls dd H => W cls dd σ H) false) := by
  intro pn s σ H x y v u Q I rx ry h
  obtain ⟨a, dx, fs, rfl, ha, hsp⟩ := h
  obtain rfl : u = Value.ref a := ry
  obtain ⟨mA, J, _⟩ := ins_get I.hok ha
  obtain ⟨od, J, _⟩ := J.look
  obtain ⟨m, fr⟩ := I.fr
  refine PySem.W.in_K fr I.ok.mod.kin J D.at_ D.fn ?_
  refine wpAny_mono (run_at F (hr.mono hj) rfl hb (tk σ) I (vs := [V.ref a, x]) (.cons rfl (.cons rx .nil)) hsp) (fun r s2 ⟨w, H2, I2, rv, b, ev, q2⟩ => ?_) fun _ _ z => z
  subst ev
  obtain rfl : r = Value.bool b := rv
  exact wpAny_truthy_bool ⟨.bl b, H2, I2, rfl, by simpa using q2⟩
theorem op_notInI (tk : TkC X W) (D : Dun X.K Ca f "__contains__") (F : FnOk X.prog X.w X.K X.mg X.base (L2.CX X.prog X.w) k f fd ps (spM X.K 2 mf)) (hb : Binds X.K fd ps []) (hr : Room j X.A) (hj : k ≤ j) :
    OpW X (compareOp .NotIn) (rInI Ca (spM X.K 2 mf) (fun σ cls dd H => W cls dd σ H) true) := by
  intro pn s σ H x y v u Q I rx ry h
  obtain ⟨a, dx, fs, rfl, ha, hsp⟩ := h
  obtain rfl : u = Value.ref a := ry
  obtain ⟨mA, J, _⟩ := ins_get I.hok ha
  obtain ⟨od, J, _⟩ := J.look
  obtain ⟨m, fr⟩ := I.fr
  refine PySem.W.notIn_K fr I.ok.mod.kin J D.at_ D.fn ?_
  refine wpAny_mono (run_at F (hr.mono hj) rfl hb (tk σ) I (vs := [V.ref a, x]) (.cons rfl (.cons rx .nil)) hsp) (fun r s2 ⟨w, H2, I2, rv, b, ev, q2⟩ => ?_) fun _ _ z => z
  subst ev
  obtain rfl : r = Value.bool b := rv
  exact wpAny_truthy_bool ⟨.bl (!b), H2, I2, rfl, by cases b <;> simpa using q2⟩
/-- the mirror: the operands from the left, the call with the instance ahead -/
def kInI (C : Str) (mf : MF) (neg : Bool) (x y : AV) : EF D := fun env => match viewA y env with
  | some (.ins c _) => if c = C then match kCall mf [y, x] env with
    | some (.ok (.d (.bl b)), e) => some (.ok (.bl (b != neg)), e)
    | some (.ex x, e) => some (.ex x, e)
    | _ => none
  else none
  | _ => none
theorem inI_at {neg : Bool} {S : SS} {env : ME} {σ : St} {H : Hp} {Q : VK} {x y : AV} {vx vy : V} (cn : ClsN X.K C Ca) (rx : RA X.K σ S x vx) (ry : RA X.K σ S y vy) (z : At X.K W (RD X.K) (kInI C mf neg x y) S env σ H Q) : rInI Ca (spM X.K 2 mf) (fun σ cls dd H => W cls dd σ H) neg σ vx vy H Q := by
  obtain ⟨r, env', rel, ef, q⟩ := z
  unfold kInI at ef
  split at ef
  · rename_i c fs hv
    split at ef
    · rename_i hc
      subst hc
      obtain ⟨Ca', a', dx, fv, cn', rfl, hH, rf⟩ := view_one rel ry hv
      have hca := cn'.inj cn
      subst hca
      refine ⟨a', dx, fv, rfl, hH, ?_⟩
      split at ef
      · rename_i b e2 hk
        cases ef
        exact kcall_sp (as := [y, x]) (vs := [V.ref a', vx]) rel ⟨.ref a', [vx], rfl, ry, vx, [], rfl, rx, rfl⟩ rfl hk fun S' H' st' v rv => ⟨b, rv, q S' H' st' _ rfl⟩
      · rename_i x' e2 hk
        cases ef
        exact kcall_sp (as := [y, x]) (vs := [V.ref a', vx]) rel ⟨.ref a', [vx], rfl, ry, vx, [], rfl, rx, rfl⟩ rfl hk fun S' H' st' => q S' H' st'
      · cases ef
    · cases ef
  · cases ef
end
end Mir

namespace Mir
open PySem PySem.Spec PyProof.Rows L2
section
variable {X : Cx} {W : WX} {k j n : Nat} {f Ca : Addr} {fd : FuncData} {ps : List Str} {mf : MF} {C : Str} {a b : Expr} {fa fb : EF AV} {pos : Pos}
theorem e_opW {o : Operator} {r : RW2} {g : AV → AV → EF D} (ho : OpW X (binaryOp o) r) (ha : DV X W a fa) (hb : DV X W b fb) (h : ∀ (S : SS) env σ H Q x y vx vy, RA X.K σ S x vx → RA X.K σ S y vy → At X.K W (RD X.K) (g x y) S env σ H Q → r σ vx vy H Q) : DE X W (.BinOp a o b pos) (e2 fa fb g) := by
  refine pe_imp (pe_opW ho ha hb) ?_
  rintro σ H Q ⟨S, env, z⟩
  exact ⟨S, env, (At.bind (R := RAv X.K) z).imp fun vx H1 ⟨x, S1, e1, rx, st, z1⟩ => ⟨S1, e1, (At.bind (R := RAv X.K) z1).imp fun vy H2 ⟨y, S2, e2, ry, st2, z2⟩ => h S2 e2 σ H2 Q x y vx vy (rx.mono st2.nle) ry z2⟩⟩
theorem e_cmpW {o : CmpOp} {r : RW2} {g : AV → AV → EF D} (ho : OpW X (compareOp o) r) (ha : DV X W a fa) (hb : DV X W b fb) (h : ∀ (S : SS) env σ H Q x y vx vy, RA X.K σ S x vx → RA X.K σ S y vy → At X.K W (RD X.K) (g x y) S env σ H Q → r σ vx vy H Q) (hm : behindInMarks o b = false := by rfl) : DE X W (.Compare a [o] [b] pos) (e2 fa fb g) := by
  refine pe_imp (pe_cmpW ho ha hb hm) ?_
  rintro σ H Q ⟨S, env, z⟩
  exact ⟨S, env, (At.bind (R := RAv X.K) z).imp fun vx H1 ⟨x, S1, e1, rx, st, z1⟩ => ⟨S1, e1, (At.bind (R := RAv X.K) z1).imp fun vy H2 ⟨y, S2, e2, ry, st2, z2⟩ => h S2 e2 σ H2 Q x y vx vy (rx.mono st2.nle) ry z2⟩⟩
theorem t_cmpW {o : CmpOp} {r : RW2} {g : AV → AV → EF D} (ho : OpW X (compareOp o) r) (ha : DV X W a fa) (hb : DV X W b fb) (h : ∀ (S : SS) env σ H Q x y vx vy, RA X.K σ S x vx → RA X.K σ S y vy → At X.K W (RD X.K) (g x y) S env σ H Q → r σ vx vy H Q) (hm : behindInMarks o b = false := by rfl) : DT X W (.Compare a [o] [b] pos) (eT (e2 fa fb g)) := by
  refine pt_imp (pt_cmpW ho ha hb hm) ?_
  rintro σ H Q ⟨S, env, z⟩
  have z0 := At.bind (R := RD X.K) z
  exact ⟨S, env, (At.bind (R := RAv X.K) z0).imp fun vx H1 ⟨x, S1, e1, rx, st, z1⟩ => ⟨S1, e1, (At.bind (R := RAv X.K) z1).imp fun vy H2 ⟨y, S2, e2, ry, st2, z2⟩ =>
    h S2 e2 σ H2 _ x y vx vy (rx.mono st2.nle) ry (z2.imp fun v H' ⟨d, S3, e3, r3, st3, z3⟩ => asB_of (R := RB) r3 z3)⟩⟩
theorem e_inI (tk : TkC X W) (cn : ClsN X.K C Ca) (D : Dun X.K Ca f "__contains__") (F : FnOk X.prog X.w X.K X.mg X.base (L2.CX X.prog X.w) k f fd ps (spM X.K 2 mf)) (hd : Binds X.K fd ps []) (hr : Room j X.A) (hj : k ≤ j) (ha : DV X W a fa) (hb : DV X W b fb) (hm : behindInMarks .In b = false := by rfl) :
    DE X W (.Compare a [.In] [b] pos) (e2 fa fb (kInI C mf false)) := e_cmpW (op_inI tk D F hd hr hj) ha hb (fun _ _ _ _ _ _ _ _ _ rx ry z => inI_at cn rx ry z) hm
theorem t_inI (tk : TkC X W) (cn : ClsN X.K C Ca) (D : Dun X.K Ca f "__contains__") (F : FnOk X.prog X.w X.K X.mg X.base (L2.CX X.prog X.w) k f fd ps (spM X.K 2 mf)) (hd : Binds X.K fd ps []) (hr : Room j X.A) (hj : k ≤ j) (ha : DV X W a fa) (hb : DV X W b fb) (hm : behindInMarks .In b = false := by rfl) :
    DT X W (.Compare a [.In] [b] pos) (eT (e2 fa fb (kInI C mf false))) := t_cmpW (op_inI tk D F hd hr hj) ha hb (fun _ _ _ _ _ _ _ _ _ rx ry z => inI_at cn rx ry z) hm
theorem t_notInI (tk : TkC X W) (cn : ClsN X.K C Ca) (D : Dun X.K Ca f "__contains__") (F : FnOk X.prog X.w X.K X.mg X.base (L2.CX X.prog X.w) k f fd ps (spM X.K 2 mf)) (hd : Binds X.K fd ps []) (hr : Room j X.A) (hj : k ≤ j) (ha : DV X W a fa) (hb : DV X W b fb) (hm : behindInMarks .NotIn b = false := by rfl) :
    DT X W (.Compare a [.NotIn] [b] pos) (eT (e2 fa fb (kInI C mf true))) := t_cmpW (op_notInI tk D F hd hr hj) ha hb (fun _ _ _ _ _ _ _ _ _ rx ry z => inI_at cn rx ry z) hm
end
end Mir

namespace Mir
open PySem PySem.Spec PyProof.Rows L2
section
variable {X : Cx} {W : WX} {k j n : Nat} {f Ca : Addr} {fd : FuncData} {ps : List Str} {mf : MF} {C : Str} {a b : Expr} {fa fb : EF AV} {pos : Pos}
/-! ## a op b, both instances of one class -/
theorem cmpBack_of {x : V} {u : Value} {s : Shared} {Q : Value → Shared → Prop} (r : RelV x u) (q : Q u s) : PySem.W.CmpBack Q u s := by
  cases x with
  | non => cases r; exact q
  | bl b => cases r; exact q
  | int i => obtain ⟨t, rfl⟩ := r; exact q
  | str i => obtain ⟨t, rfl⟩ := r; exact q
  | byt i => obtain ⟨t, rfl⟩ := r; exact q
  | flt i => obtain ⟨t, rfl⟩ := r; exact q
  | ref i => cases r; exact q
  | ty i => cases r; exact q
def rBinI (Ca : Addr) (sp : Sp) (E : St → XK) : RW2 := fun σ x y H Q => ∃ a b dx dy fs gs, x = .ref a ∧ y = .ref b ∧ H a = some (.ins Ca dx fs) ∧ H b = some (.ins Ca dy gs) ∧ sp [x, y] H Q (E σ)
theorem op_binI {op : Operator} (tk : TkC X W) (D : Dun X.K Ca f (PySem.dunder op.info.2)) (sf : PySem.W.selfFirst X.K Ca = true) (F : FnOk X.prog X.w X.K X.mg X.base (L2.CX X.prog X.w) k f fd ps (spM X.K 2 mf)) (hb : Binds X.K fd ps []) (hr : Room j X.A) (hj : k ≤ j) :
    OpW X (binaryOp op) (rBinI Ca (spM X.K 2 mf) (fun σ cls dd H => W cls dd σ H)) := by
  intro pn s σ H x y v u Q I rx ry h
  obtain ⟨a, b, dx, dy, fs, gs, rfl, rfl, ha, hb', hsp⟩ := h
  obtain rfl : v = Value.ref a := rx
  obtain rfl : u = Value.ref b := ry
  obtain ⟨mA, J, _⟩ := ins_get I.hok ha
  obtain ⟨mB, J', _⟩ := ins_get I.hok hb'
  obtain ⟨od, J, _⟩ := J.look
  obtain ⟨od', J', _⟩ := J'.look
  obtain ⟨m, fr⟩ := I.fr
  refine PySem.W.binop_K fr I.ok.mod.kin J J'.type sf D.at_ D.fn ?_
  exact wpAny_mono (run_at F (hr.mono hj) rfl hb (tk σ) I (vs := [V.ref a, V.ref b]) (.cons rfl (.cons rfl .nil)) hsp) (fun r s2 z => by
    obtain ⟨w, H2, I2, rv, q2⟩ := z
    exact cmpBack_of rv ⟨w, H2, I2, rv, q2⟩) fun _ _ z => z
def kBinI (C : Str) (mf : MF) (x y : AV) : EF FR := fun env => match viewA x env, viewA y env with
  | some (.ins c _), some (.ins c' _) => if c = C ∧ c' = C then kCall mf [x, y] env else none
  | _, _ => none
def e2F (fa fb : EF AV) (g : AV → AV → EF FR) : EF FR := eBind fa fun x => eBind fb fun y => g x y
theorem df_opI {op : Operator} (tk : TkC X W) (cn : ClsN X.K C Ca) (D : Dun X.K Ca f (PySem.dunder op.info.2)) (sf : PySem.W.selfFirst X.K Ca = true) (F : FnOk X.prog X.w X.K X.mg X.base (L2.CX X.prog X.w) k f fd ps (spM X.K 2 mf)) (hd : Binds X.K fd ps []) (hr : Room j X.A) (hj : k ≤ j) (ha : DV X W a fa) (hb : DV X W b fb) :
    DF X W (.BinOp a op b pos) (e2F fa fb (kBinI C mf)) := by
  refine pe_imp (pe_opW (op_binI tk D sf F hd hr hj) ha hb) ?_
  rintro σ H Q ⟨S, env, z⟩
  refine ⟨S, env, (AtF.bind (R := RAv X.K) z).imp fun vx H1 ⟨x, S1, e1, rx, st, z1⟩ => ⟨S1, e1, (AtF.bind (R := RAv X.K) z1).imp fun vy H2 ⟨y, S2, e2, ry, st2, z2⟩ => ?_⟩⟩
  obtain ⟨r, env', rel, ef, q⟩ := z2
  unfold kBinI at ef
  split at ef
  · rename_i c fs c' gs hv hv'
    split at ef
    · rename_i hc
      obtain ⟨rfl, h2⟩ := hc
      subst h2
      have rx2 := rx.mono st2.nle
      obtain ⟨C1, a1, dx, fv, cn1, rfl, hH, rf⟩ := view_one rel rx2 hv
      obtain ⟨C2, a2, dy, gv, cn2, rfl, hH2, rg⟩ := view_one rel ry hv'
      have h1 := cn1.inj cn
      have h2 := cn2.inj cn
      subst h1 h2
      exact ⟨a1, a2, dx, dy, fv, gv, rfl, rfl, hH, hH2, kcall_sp (as := [x, y]) (vs := [V.ref a1, V.ref a2]) rel ⟨.ref a1, [.ref a2], rfl, rx2, .ref a2, [], rfl, ry, rfl⟩ rfl ef q⟩
    · cases ef
  · cases ef
end
end Mir

namespace Mir
open PySem PySem.Spec PyProof.Rows L2
section
variable {X : Cx} {W : WX} {k j n : Nat} {f Ca : Addr} {fd : FuncData} {ps : List Str} {mf : MF} {C : Str} {a b : Expr} {fa fb : EF AV} {pos : Pos}
/-! ## a == b, a < b ..: both instances of one class that has its own def for it -/
theorem op_cmpI {op : CmpOp} (ho : ∀ u v, compareOp op u v = richCompare op u v) (tk : TkC X W) (D : Dun X.K Ca f (cmpInfo op).2.1) (F : FnOk X.prog X.w X.K X.mg X.base (L2.CX X.prog X.w) k f fd ps (spM X.K 2 mf)) (hb : Binds X.K fd ps []) (hr : Room j X.A) (hj : k ≤ j) :
    OpW X (compareOp op) (rBinI Ca (spM X.K 2 mf) (fun σ cls dd H => W cls dd σ H)) := by
  intro pn s σ H x y v u Q I rx ry h
  obtain ⟨a, b, dx, dy, fs, gs, rfl, rfl, ha, hb', hsp⟩ := h
  obtain rfl : v = Value.ref a := rx
  obtain rfl : u = Value.ref b := ry
  obtain ⟨mA, J, _⟩ := ins_get I.hok ha
  obtain ⟨mB, J', _⟩ := ins_get I.hok hb'
  obtain ⟨od, J, _⟩ := J.look
  obtain ⟨od', J', _⟩ := J'.look
  obtain ⟨m, fr⟩ := I.fr
  rw [ho]
  refine PySem.W.cmp_K (op := op) (tb := .ref Ca) hr.units0 fr I.ok.mod.kin J J'.type (by simp [PySem.W.notFirst]) D.at_ D.fn ?_
  exact wpAny_mono (run_at F (hr.mono hj) rfl hb (tk σ) I (vs := [V.ref a, V.ref b]) (.cons rfl (.cons rfl .nil)) hsp) (fun r s2 z => by
    obtain ⟨w, H2, I2, rv, q2⟩ := z
    exact cmpBack_of rv ⟨w, H2, I2, rv, q2⟩) fun _ _ z => z
def kCmpI (C : Str) (mf : MF) (x y : AV) : EF D := fun env => match viewA x env, viewA y env with
  | some (.ins c _), some (.ins c' _) => if c = C ∧ c' = C then match kCall mf [x, y] env with
    | some (.ok (.d d), e) => some (.ok d, e)
    | some (.ex x, e) => some (.ex x, e)
    | _ => none
    else none
  | _, _ => none
theorem cmpI_at {S : SS} {env : ME} {σ : St} {H : Hp} {Q : VK} {x y : AV} {vx vy : V} (cn : ClsN X.K C Ca) (rx : RA X.K σ S x vx) (ry : RA X.K σ S y vy) (z : At X.K W (RD X.K) (kCmpI C mf x y) S env σ H Q) : rBinI Ca (spM X.K 2 mf) (fun σ cls dd H => W cls dd σ H) σ vx vy H Q := by
  obtain ⟨r, env', rel, ef, q⟩ := z
  unfold kCmpI at ef
  split at ef
  · rename_i c fs c' gs hv hv'
    split at ef
    · rename_i hc
      obtain ⟨rfl, h2⟩ := hc
      subst h2
      obtain ⟨C1, a1, dx, fv, cn1, rfl, hH, rf⟩ := view_one rel rx hv
      obtain ⟨C2, a2, dy, gv, cn2, rfl, hH2, rg⟩ := view_one rel ry hv'
      have h1 := cn1.inj cn
      have h2 := cn2.inj cn
      subst h1 h2
      refine ⟨a1, a2, dx, dy, fv, gv, rfl, rfl, hH, hH2, ?_⟩
      split at ef
      · rename_i d e2 hk
        cases ef
        exact kcall_sp (as := [x, y]) (vs := [V.ref a1, V.ref a2]) rel ⟨.ref a1, [.ref a2], rfl, rx, .ref a2, [], rfl, ry, rfl⟩ rfl hk fun S' H' st' v rv => q S' H' st' v rv
      · rename_i x' e2 hk
        cases ef
        exact kcall_sp (as := [x, y]) (vs := [V.ref a1, V.ref a2]) rel ⟨.ref a1, [.ref a2], rfl, rx, .ref a2, [], rfl, ry, rfl⟩ rfl hk fun S' H' st' => q S' H' st'
      · cases ef
    · cases ef
  · cases ef
theorem e_cmpI {op : CmpOp} (ho : ∀ u v, compareOp op u v = richCompare op u v) (tk : TkC X W) (cn : ClsN X.K C Ca) (D : Dun X.K Ca f (cmpInfo op).2.1) (F : FnOk X.prog X.w X.K X.mg X.base (L2.CX X.prog X.w) k f fd ps (spM X.K 2 mf)) (hd : Binds X.K fd ps []) (hr : Room j X.A) (hj : k ≤ j) (ha : DV X W a fa) (hb : DV X W b fb) (hm : behindInMarks op b = false := by rfl) :
    DE X W (.Compare a [op] [b] pos) (e2 fa fb (kCmpI C mf)) := e_cmpW (op_cmpI ho tk D F hd hr hj) ha hb (fun _ _ _ _ _ _ _ _ _ rx ry z => cmpI_at cn rx ry z) hm
theorem t_cmpI {op : CmpOp} (ho : ∀ u v, compareOp op u v = richCompare op u v) (tk : TkC X W) (cn : ClsN X.K C Ca) (D : Dun X.K Ca f (cmpInfo op).2.1) (F : FnOk X.prog X.w X.K X.mg X.base (L2.CX X.prog X.w) k f fd ps (spM X.K 2 mf)) (hd : Binds X.K fd ps []) (hr : Room j X.A) (hj : k ≤ j) (ha : DV X W a fa) (hb : DV X W b fb) (hm : behindInMarks op b = false := by rfl) :
    DT X W (.Compare a [op] [b] pos) (eT (e2 fa fb (kCmpI C mf))) := t_cmpW (op_cmpI ho tk D F hd hr hj) ha hb (fun _ _ _ _ _ _ _ _ _ rx ry z => cmpI_at cn rx ry z) hm
theorem cmp_eq (u v : Value) : compareOp .Eq u v = richCompare .Eq u v := rfl
end
end Mir

namespace Mir
open PySem PySem.Spec PyProof.Rows L2
section
variable {X : Cx} {W : WX} {k j n : Nat} {f Ca : Addr} {fd : FuncData} {ps : List Str} {mf : MF} {C : Str} {a b : Expr} {fa fb : EF AV} {pos : Pos}
/-! ## a[b], a an instance of a class with its own def for it -/
def rGetI (Ca : Addr) (sp : Sp) (E : St → XK) : RW2 := fun σ x y H Q => ∃ a dx fs, x = .ref a ∧ H a = some (.ins Ca dx fs) ∧ sp [x, y] H Q (E σ)
def SubIx (b : Expr) : Prop := ∀ (x : Addr) (i : Value), subscripted b true (.ref x) i = runValue (.builtin "lifetime.subscript" ⟨[.ref x, i], []⟩)
theorem pe_getI (tk : TkC X W) (D : Dun X.K Ca f "__getitem__") (hf : PySem.W.fnIn X.K f = true) (F : FnOk X.prog X.w X.K X.mg X.base (L2.CX X.prog X.w) k f fd ps (spM X.K 2 mf)) (hb : Binds X.K fd ps []) (hr : Room j X.A) (hj : k + 1 ≤ j) (hi : SubIx b) {ta tb : TE} (ha : PE X a ta) (hb' : PE X b tb) :
    PE X (.Subscript a b pos) (tOpW (rGetI Ca (spM X.K 2 mf) (fun σ cls dd H => W cls dd σ H)) ta tb) := by
  refine ⟨fun pn s σ H Q I h => ?_⟩
  refine Subscript_ (thn (ha.run pn s σ H _ I h) fun v s1 ⟨x, H1, I1, r1, q1⟩ => thn (hb'.run pn s1 σ H1 _ I1 q1) fun u s2 ⟨y, H2, I2, r2, q2⟩ => ?_)
  obtain ⟨a', dx, fs, rfl, ha', hsp⟩ := q2
  obtain rfl : v = Value.ref a' := r1
  obtain ⟨mA, J, _⟩ := ins_get I2.hok ha'
  obtain ⟨od, J, _⟩ := J.look
  obtain ⟨m, fr⟩ := I2.fr
  refine PySem.W.sub_K fr I2.ok.mod.kin J D.at_ hf D.fn ?_ (hi _ _)
  exact run_at F ((hr.mono hj).in1) rfl hb (tk σ) I2 (vs := [V.ref a', y]) (.cons rfl (.cons r2 .nil)) hsp
def kGetI (C : Str) (mf : MF) (x y : AV) : EF FR := fun env => match viewA x env with
  | some (.ins c _) => if c = C then kCall mf [x, y] env else none
  | _ => none
theorem df_getI (tk : TkC X W) (cn : ClsN X.K C Ca) (D : Dun X.K Ca f "__getitem__") (hf : PySem.W.fnIn X.K f = true) (F : FnOk X.prog X.w X.K X.mg X.base (L2.CX X.prog X.w) k f fd ps (spM X.K 2 mf)) (hd : Binds X.K fd ps []) (hr : Room j X.A) (hj : k + 1 ≤ j) (ha : DV X W a fa) (hb : DV X W b fb) (hi : SubIx b := by exact fun _ _ => rfl) :
    DF X W (.Subscript a b pos) (e2F fa fb (kGetI C mf)) := by
  refine pe_imp (pe_getI tk D hf F hd hr hj hi ha hb) ?_
  rintro σ H Q ⟨S, env, z⟩
  refine ⟨S, env, (AtF.bind (R := RAv X.K) z).imp fun vx H1 ⟨x, S1, e1, rx, st, z1⟩ => ⟨S1, e1, (AtF.bind (R := RAv X.K) z1).imp fun vy H2 ⟨y, S2, e2, ry, st2, z2⟩ => ?_⟩⟩
  obtain ⟨r, env', rel, ef, q⟩ := z2
  unfold kGetI at ef
  split at ef
  · rename_i c fs hv
    split at ef
    · rename_i hc
      subst hc
      have rx2 := rx.mono st2.nle
      obtain ⟨C1, a1, dx, fv, cn1, rfl, hH, rf⟩ := view_one rel rx2 hv
      have h1 := cn1.inj cn
      subst h1
      exact ⟨a1, dx, fv, rfl, hH, kcall_sp (as := [x, y]) (vs := [V.ref a1, vy]) rel ⟨.ref a1, [vy], rfl, rx2, vy, [], rfl, ry, rfl⟩ rfl ef q⟩
    · cases ef
  · cases ef
end
end Mir

namespace Mir
open PySem PySem.Spec PyProof.Rows L2
/-! ## sets of texts: what such a set is, an add, the members in some order -/
def txtAt (e : Int × Value) : Str := match e.2 with
  | .str k _ => k
  | _ => ⟨#[]⟩
def TxtE (w : World) (e : Int × Value) : Prop := ∃ k tk, e = (hashStr w k, Value.str k tk)
structure TxtSet (w : World) (es : Array (Int × Value)) (t : SetTable) (l : List Str) : Prop where
  el : ∀ e ∈ es.toList, TxtE w e
  nd : l.Nodup
  pm : (es.toList.map txtAt).Perm l
  bd : es.size < scanBound
  ft : t.fits es.size = true
  ris : Ris t.place.toList
  led : w.params.followText "set-order" = true ∨ t.led = true
def SetT (w : World) (h : Heap) (a : Addr) (l : List Str) : Prop := ∃ o es ep t, h.get? a = some o ∧ o.ExactSet ∧ o.data = .set es ep t ∧ TxtSet w es t l
section
variable {P : Program} {w : World} {A : Around} {E : Value → Shared → Prop} {s : Shared} {a : Addr} {l : List Str}
theorem TxtSet.size {es : Array (Int × Value)} {t : SetTable} (T : TxtSet w es t l) : es.size = l.length := by
  have := T.pm.length_eq
  rwa [List.length_map, Array.length_toList] at this
theorem TxtSet.elems {es : Array (Int × Value)} {t : SetTable} (T : TxtSet w es t l) : ElemsOf (strKind P w) es.toList := by
  intro e he
  obtain ⟨k, tk, rfl⟩ := T.el e he
  exact ⟨⟨k, Froz.is_str k tk, rfl⟩, rfl⟩
theorem txt_is {e : Int × Value} (h : TxtE w e) (k : Str) : (strKind P w).is k e.2 = true ↔ txtAt e = k := by
  obtain ⟨k0, tk, rfl⟩ := h
  show Value.isStrOf k (.str k0 tk) = true ↔ k0 = k
  simp [Value.isStrOf]
theorem TxtSet.mem {es : Array (Int × Value)} {t : SetTable} (T : TxtSet w es t l) (k : Str) : k ∈ l ↔ ∃ e ∈ es.toList, (strKind P w).is k e.2 = true := by
  rw [← T.pm.mem_iff, List.mem_map]
  constructor
  · rintro ⟨e, he, q⟩
    exact ⟨e, he, (txt_is (T.el e he) k).2 q⟩
  · rintro ⟨e, he, q⟩
    exact ⟨e, he, (txt_is (T.el e he) k).1 q⟩
/-- l with k behind it, once -/
def insT (l : List Str) (k : Str) : List Str := if k ∈ l then l else l ++ [k]
theorem stored {h : Heap} {o : Obj} {es es' : Array (Int × Value)} {ep : Nat} {t t' : SetTable} (ho : h.get? a = some o) (hd : o.data = .set es ep t) : (h.update a (Obj.putSet es' t')).get? a = some { o with data := .set es' (ep + 1) t' } := PpSet.storeB_at ho hd
theorem TxtSet.push {es es1 : Array (Int × Value)} {t t1 : SetTable} {k : Str} {tk : Tok} (T : TxtSet w es t l) (hk : k ∉ l) (p : es1.toList.Perm (es.push (hashStr w k, Value.str k tk)).toList) (hb : l.length + 1 < scanBound) (f1 : t1.fits es1.size = true) (r1 : Ris t1.place.toList) (e1 : t1.led = t.led) : TxtSet w es1 t1 (l ++ [k]) := by
  rw [Array.toList_push] at p
  have pk : (es1.toList.map txtAt).Perm (l ++ [k]) := by
    refine (p.map txtAt).trans ?_
    rw [List.map_append]
    exact T.pm.append_right [k]
  refine ⟨fun e he => ?_, ?_, pk, ?_, f1, r1, ?_⟩
  · rcases List.mem_append.mp (p.mem_iff.mp he) with z | z
    · exact T.el e z
    · exact ⟨k, tk, List.mem_singleton.mp z⟩
  · rw [List.nodup_append]
    exact ⟨T.nd, by simp, fun x hx y hy => by
      rw [List.mem_singleton] at hy
      subst hy
      exact fun z => hk (z ▸ hx)⟩
  · have := pk.length_eq
    rw [List.length_map, Array.length_toList, List.length_append] at this
    rw [this]
    exact hb
  · rw [e1]
    exact T.led
theorem TxtSet.relay {es : Array (Int × Value)} {t : SetTable} {n : Nat} (T : TxtSet w es t l) : TxtSet w (relayAll t es n).1 (relayAll t es n).2.1 l := by
  have p := relayAll_perm t es n
  refine ⟨fun e he => T.el e (p.mem_iff.mp he), T.nd, (p.map txtAt).trans T.pm, ?_, relayAll_fits t es n, relayAll_ris t es n, ?_⟩
  · have := p.length_eq
    rw [Array.length_toList, Array.length_toList] at this
    rw [this]
    exact T.bd
  · rw [relayAll_led]
    exact T.led
theorem TxtSet.off {es : Array (Int × Value)} {t : SetTable} (T : TxtSet w es t l) : TxtSet w es { t with plain := false } l := ⟨T.el, T.nd, T.pm, T.bd, SetTable.fits_plain_off T.ft, T.ris, T.led⟩
theorem set_tail {g : Bool → Sem Unit} (hg : ∀ (b : Bool) (s₁ : Shared) (Q' : Unit → Shared → Prop), Q' () s₁ → wpAny (model P w) A (g b) Q' E s₁)
    {o : Obj} {es es1 : Array (Int × Value)} {ep : Nat} {t t2 : SetTable} (ho : s.heap.get? a = some o) (hx : o.ExactSet) (hd : o.data = .set es ep t) (T : TxtSet w es1 t2 l) {dm : Bool} {R : Option Bool → Shared → Prop}
    (hR : ∀ h', Heap.SameBut a s.heap h' → SetT w h' a l → R (some true) { s with heap := h' }) :
    wpAny (model P w) A (do
        storeSet a es1 t2
        if (!dm && t2.tooFull) = true then do
            g (relayAll t2 es1 (SetTable.grown es1.size)).2.2
            storeSet a (relayAll t2 es1 (SetTable.grown es1.size)).1 (relayAll t2 es1 (SetTable.grown es1.size)).2.1
            pure (some true)
          else pure (some true)) R E s := by
  refine wpAny_bind (wpAny_storeSet_of ho hd ?_ (fits_of_scanBound T.bd))
  have h1 := stored (es' := es1) (t' := t2) ho hd
  have b1 := Heap.SameBut.update s.heap a (Obj.putSet es1 t2)
  split
  · have T3 := T.relay (n := SetTable.grown es1.size)
    generalize relayAll t2 es1 (SetTable.grown es1.size) = Z at T3 ⊢
    obtain ⟨es2, t3, gv⟩ := Z
    dsimp only at T3 ⊢
    refine wpAny_bind (hg _ _ _ ?_)
    refine wpAny_bind (wpAny_storeSet_of h1 rfl ?_ (fits_of_scanBound T3.bd))
    have h2 := stored (es' := es2) (t' := t3) h1 rfl
    exact wpAny_pure (hR _ (b1.trans (Heap.SameBut.update _ a _)) ⟨_, es2, _, t3, h2, hx, rfl, T3⟩)
  · exact wpAny_pure (hR _ b1 ⟨_, es1, _, t2, h1, hx, rfl, T⟩)
theorem set_addH {k : Str} {tk : Tok} {Q : Bool → Shared → Prop} (R : SetT w s.heap a l) (room : l.length + 1 < scanBound) (hQ : ∀ b h', Heap.SameBut a s.heap h' → SetT w h' a (insT l k) → Q b { s with heap := h' }) :
    wpAny (model P w) A (setAddHashed a (.str k tk) (hashStr w k)) Q E s := by
  obtain ⟨o, es, ep, t, ho, hex, hd, T⟩ := R
  have hsc : (Value.str k tk).scannable = true := rfl
  have hel : ElemsOf (strKind P w) es.toList := T.elems
  have hkey : (strKind P w).is k (.str k tk) = true := Froz.is_str k tk
  unfold setAddHashed setAddHashedIn
  refine wpAny_holding (wpAny_bind (wpAny_setState_of ho hd T.ft ?_))
  dsimp only
  rw [byScan_of hsc T.bd hel]
  simp only [↓reduceIte]
  unfold setAddByScan
  refine wpAny_bind ?_
  refine wpAny_bind (wpAny_rule ?_)
  refine wpAny_bind (wpAny_setScan_of hkey ho hd T.ft hel ?_)
  cases hfi : List.findIdx? (fun e => (strKind P w).is k e.2) es.toList with
  | some j =>
    dsimp only
    obtain ⟨hj, pj, _⟩ := List.findIdx?_eq_some_iff_getElem.mp hfi
    have hk : k ∈ l := (T.mem (P := P) k).2 ⟨_, List.getElem_mem hj, pj⟩
    have q := hQ false s.heap (Heap.SameBut.refl a s.heap) (by
      unfold insT
      rw [if_pos hk]
      exact ⟨o, es, ep, t, ho, hex, hd, T⟩)
    exact wpAny_pure (wpAny_pure q)
  | none =>
    dsimp only
    have hk : k ∉ l := fun z => by
      obtain ⟨e, he, q⟩ := (T.mem (P := P) k).1 z
      have c := List.findIdx?_eq_none_iff.mp hfi e he
      rw [q] at c
      cases c
    have gw : ∀ (b : Bool) {s₁ : Shared} {Q' : Unit → Shared → Prop}, Q' () s₁ → wpAny (model P w) A (match b with | true => rule "set.scan.the-table-gave-way" | false => pure ()) Q' E s₁ := by
      intro b s₁ Q' q
      cases b with
      | true => exact wpAny_rule q
      | false => exact wpAny_pure q
    have T1 : TxtSet w (layNew t es (hashStr w k) (.str k tk)).1 (layNew t es (hashStr w k) (.str k tk)).2.1 (l ++ [k]) :=
      T.push hk (layNew_perm t es (hashStr w k) (.str k tk)) room (layNew_fits t es (hashStr w k) (.str k tk)) (layNew_ris t es (hashStr w k) (.str k tk) T.ris) (layNew_led t es (hashStr w k) (.str k tk))
    generalize hZ : layNew t es (hashStr w k) (.str k tk) = Z at T1
    obtain ⟨es1, t1, dm, gv⟩ := Z
    dsimp only at T1 ⊢
    have fin : ∀ h', Heap.SameBut a s.heap h' → SetT w h' a (l ++ [k]) → Q true { s with heap := h' } := fun h' sb r => hQ true h' sb (by
      unfold insT
      rw [if_neg hk]
      exact r)
    refine wpAny_bind (gw _ ?_)
    by_cases hpl : t1.plain = true
    · rw [if_pos hpl]
      refine wpAny_bind ?_
      rw [hashByValue_scannable 8 hsc]
      refine wpAny_pure ?_
      refine set_tail (fun b s₁ Q' q => ?_) ho hex hd (by first | exact T1.off | exact T1) fun h' sb r => ?_
      · cases b with
        | true => exact wpAny_rule q
        | false => exact wpAny_pure q
      · dsimp only
        exact wpAny_pure (fin h' sb r)
    · rw [if_neg hpl]
      refine wpAny_bind (wpAny_pure ?_)
      simp only [↓reduceIte]
      refine set_tail (fun b s₁ Q' q => ?_) ho hex hd T1 fun h' sb r => ?_
      · cases b with
        | true => exact wpAny_rule q
        | false => exact wpAny_pure q
      · dsimp only
        exact wpAny_pure (fin h' sb r)
end
end Mir

namespace Mir
open PySem PySem.Spec PyProof.Rows L2
section
variable {P : Program} {w : World} {A : Around} {E : Value → Shared → Prop} {s : Shared} {a : Addr} {l : List Str}
def txtV (v : Value) : Str := match v with
  | .str k _ => k
  | _ => ⟨#[]⟩
theorem txt_vals : ∀ (vs : List Value), (∀ v ∈ vs, ∃ k tk, v = Value.str k tk) → StrsAre vs (vs.map txtV)
  | [], _ => .nil
  | v :: vs, h => by
    obtain ⟨k, tk, rfl⟩ := h v List.mem_cons_self
    exact .cons k tk (txt_vals vs fun u hu => h u (List.mem_cons_of_mem _ hu))
theorem sorted_setT {Q : Value → Shared → Prop} (R : SetT w s.heap a l) (hh : A.handled = none)
    (hQ : ∀ s' p (out : Array Value) (c : Nat), (∀ b o, s.heap.get? b = some o → s'.heap.get? b = some o) → s'.gens = s.gens → s'.os = s.os → s.heap.objs.size ≤ p → s'.heap.get? p = some (seqObj "list" out c) → StrsAre out.toList (srt l) → Q (.ref p) s') :
    wpAny (model P w) A (call (.builtin "sorted") [.ref a]) Q E s := by
  obtain ⟨o, es, ep, t, ho, hex, hd, T⟩ := R
  refine Calls.call_function_entry kind_sorted plain_sorted entry_sorted (args_sorted1 _) ?_
  unfold Builtin.«sorted»
  refine wpAny_bind (m := checkCount "sorted" 1 1 _) (wpAny_pure ?_)
  refine wpAny_bind (collect_set (A := A.in1) hh ⟨o, ho, hex.1, hd⟩ T.ft T.bd T.ris T.led fun s1 vs k1 hz g1 o1 pm => ?_)
  have hvl : vs.length = es.size := by rw [pm.length_eq, List.length_map, Array.length_toList]
  have hL : vs.length ≤ sizeLine := by rw [hvl]; exact fits_of_scanBound T.bd
  have hS : StrsAre vs (vs.map txtV) := txt_vals vs fun v hv => by
    obtain ⟨e, he, q⟩ := List.mem_map.mp (pm.mem_iff.mp hv)
    obtain ⟨k, tk, h1⟩ := T.el e he
    exact ⟨k, tk, by rw [← q, h1]⟩
  have pk : (vs.map txtV).Perm l := by
    have q := pm.map txtV
    rw [List.map_map] at q
    exact q.trans T.pm
  refine wpAny_bind (wpAny_newList ?_ hL)
  have hoL : (s1.heap.push (seqObj "list" vs.toArray 0)).get? s1.heap.objs.size = some (seqObj "list" vs.toArray 0) := Heap.get?_push_size _ rfl
  refine wpAny_bind (wpAny_holding (wpAny_call_entry slot_list_sort ⟨_, hoL, rfl⟩ entry_list_sort
    (list_sort_treeKAny strKind_oneLt hoL hS.keysOf (fun v₁ v₂ rest e => keyKind_strs (by rw [← e]; exact hS)) hL fun st' hp hs => ⟨_, rfl, ?_⟩) (args_list_sort _)))
  obtain ⟨ss, h1, h2, h3⟩ := sorted_out_str hS hp hs
  have es' := srt_of (h2.trans pk) h3
  subst es'
  obtain ⟨c, hc⟩ := sortedHeap_at (vs := vs) (out := (arrOf st').map (·.2)) hoL
  refine wpAny_pure ⟨_, rfl, hQ _ s1.heap.objs.size _ c (fun b u e => ?_) g1 o1 hz hc h1⟩
  have q := k1 b u e
  have hlt := Heap.lt_size q
  show (sortedHeap (s1.heap.push (seqObj "list" vs.toArray 0)) s1.heap.objs.size vs _).get? b = some u
  rw [sortedHeap_old (Nat.ne_of_lt hlt) (by rw [size_push']; exact Nat.lt_succ_of_lt hlt)]
  exact Heap.get?_push_of_some _ q
end
end Mir

namespace Mir
open PySem PySem.Spec PyProof.Rows L2
/-! ## the set as a tracked thing -/
def SetTO (w : World) (a : Addr) (l : List Str) : HO := .ext fun h => SetT w h a l
theorem SetT.there {w : World} {h : Heap} {a : Addr} {l : List Str} (R : SetT w h a l) : ∃ o, h.get? a = some o := by
  obtain ⟨o, _, _, _, ho, _⟩ := R
  exact ⟨o, ho⟩
theorem setTO_new {w : World} {P : Program} {H : Hp} {h : Heap} {a : Addr} {l : List Str} (R : SetT w h a l) : ObjOk P w H h a (SetTO w a l) := by
  refine ⟨R, R.there, fun h1 h2 p k => ?_⟩
  obtain ⟨o, es, ep, t, ho, r⟩ := p
  exact ⟨o, es, ep, t, k o ho, r⟩
section
variable {X : Cx}
theorem setTO_get {pn : List (Addr × Obj)} {σ : St} {H : Hp} {s : Shared} {a : Addr} {l : List Str} (I : Inv X pn σ H s) (ha : H a = some (SetTO X.w a l)) : SetT X.w s.heap a l := (I.hok a _ ha).1
theorem set_addT {pn : List (Addr × Obj)} {σ : St} {H : Hp} {s : Shared} {E : Value → Shared → Prop} {a : Addr} {l : List Str} {k : Str} {tk : Tok} {Q : Value → Shared → Prop} (I : Inv X pn σ H s) (ha : H a = some (SetTO X.w a l)) (room : l.length + 1 < scanBound)
    (hQ : ∀ s2, Inv X pn σ (upd H a (SetTO X.w a (insT l k))) s2 → Q .none s2) : wpAny (model X.prog X.w) X.A (call (.builtin "set.add") [.ref a, .str k tk]) Q E s := by
  have R := setTO_get I ha
  have hT : s.TypeIs (.ref a) "set" := by
    obtain ⟨o, es, ep, t, ho, hex, _⟩ := R
    exact ⟨o, ho, hex.1⟩
  refine wpAny_call_entry F.slot_set_add hT F.entry_set_add ?_ (F.args_set_add_2 _ _)
  unfold Builtin.«set.add» Builtin.Frozenset.oneOther
  simp only [List.isEmpty_nil, bind_assoc]
  unfold Builtin.Frozenset.addrOf setAdd
  refine wpAny_bind (wpAny_pure ?_)
  try dsimp only
  refine wpAny_bind (wpAny_pure ?_)
  try dsimp only
  refine wpAny_bind (wpAny_holding (wpAny_bind ((strKind X.prog X.w).pyHash (Froz.is_str k tk) ?_)))
  refine set_addH (s := { s with toks := s.toks + 1 }) R room fun b h2 sb new => ?_
  show wpAny _ _ (ret Value.none) _ _ _
  exact wpAny_pure ⟨_, rfl, hQ _ (I.write (e := a) (t' := s.toks + 1) (by rw [ha]; trivial) (.inl rfl) (fun c u hc hu => (sb.2 c hc).trans hu) new.there (setTO_new new))⟩
def rSortT (w : World) : List V → Hp → VK → Prop := fun xs H Q => ∃ a l, xs = [V.ref a] ∧ H a = some (SetTO w a l) ∧ ∀ p, H p = none → Q (.ref p) (upd H p (.lst ((srt l).map V.str)))
theorem strs_vals : ∀ {vs : List Value} {ss : List Str}, StrsAre vs ss → Vals (ss.map V.str) vs := fun h => vals_of_strs h
theorem cr_sortT (hc : X.calm = true) : CallR X (.builtin "sorted") (rSortT X.w) := by
  intro pn s σ H xs us Q I r h
  obtain ⟨a, l, rfl, ha, q⟩ := h
  rw [Vals.ref1 r]
  have R := setTO_get I ha
  have hb : l.length ≤ sizeLine := by
    obtain ⟨_, _, _, _, _, _, _, T⟩ := R
    rw [← T.size]
    exact fits_of_scanBound T.bd
  refine sorted_setT R (I.ok.hd hc) fun s2 p out c k g1 o1 hp hob hs => ?_
  have hlen : ((srt l).map V.str).length ≤ sizeLine := by rw [List.length_map, (srt_perm l).length_eq]; exact hb
  have hn := I.hok.fresh hp
  have hk := I.hok.laid k hp (o := .lst ((srt l).map V.str)) ⟨hlen, out.toList, c, vals_of_strs hs, hob⟩
  exact ⟨.ref p, _, I.call' (ch := []) o1 (Un.laid k hp hn) hk (by rw [g1]; exact I.bare) (by simp), rfl, q p hn⟩
end
end Mir

namespace Mir
open PySem PySem.Spec PyProof.Rows L2
/-! ## {el for tg in iter if ..}, el a text: L is the new set -/
def tSt (w : World) (wi : TI) (g : TG) (tt : TT) (te : TE) (vs : List Nat) : TE := fun σ H Q => wi σ H fun J G => ∀ L, G L = none → ∃ V : Nat → Nat → Hp → Prop, (∃ m, V 0 m (upd G L (SetTO w L []))) ∧ ∀ i m G1, V i m G1 →
  (J.stop i G1 ∧ Q (.ref L) G1) ∨ (J.go i G1 ∧ ∃ Nx : Hp → Prop, (∀ G2, Nx G2 → ∃ k, k < m ∧ V (i + 1) k G2) ∧ ∀ x G2, J.yld i G1 x G2 → g x (wipe σ vs) G2 fun τ G3 => wipe τ vs = wipe σ vs ∧ tt τ G3 fun b G4 =>
    if b = true then te τ G4 fun y G5 => ∃ (c : Str) (l : List Str), y = .str c ∧ G5 L = some (SetTO w L l) ∧ l.length + 1 < scanBound ∧ Nx (upd G5 L (SetTO w L (insT l c))) else Nx G4)
theorem setT_fresh {h : Heap} (w : World) : SetT w (h.push { cls := .type "set", dict := none, data := .set #[] 0 (.fresh 0 0 (!w.params.followText "set-order")) }) h.objs.size [] := by
  refine ⟨_, #[], 0, _, Heap.get?_push_size _ rfl, ⟨rfl, rfl, rfl⟩, rfl, ⟨fun e he => by simp at he, List.nodup_nil, .nil, by decide, by rfl, List.Pairwise.nil, ?_⟩⟩
  show _ ∨ (!w.params.followText "set-order") = true
  cases w.params.followText "set-order"
  · exact .inr rfl
  · exact .inl rfl
section
variable {X : Cx}
theorem st_core {pn : List (Addr × Obj)} {s : Shared} {σ : St} {H : Hp} {Q : VK} {el tg it : Expr} {ifs : List Expr} {sc : Scope} {own : List (Str × Nat)} {pos p2 : Pos} {wi : TI} {g : TG} {tt : TT} {te : TE} {use : Option (Value → Sem Unit)} {Qf : Value → Shared → Prop}
    (calm : X.calm = true) (hN : X.N.Nodup) (I : Inv X pn σ H s) (hi : PI X tg it wi) (ok : BlkOk X.N X.env.scope sc own)
    (pgs : ∀ s H C cl fp, PG (X.blk s H sc (compEnvC sc cl C X.env) fp) tg g) (pts : ∀ s H C cl fp, PTs (X.blk s H sc (compEnvC sc cl C X.env) fp) ifs tt) (pes : ∀ s H C cl fp, PE (X.blk s H sc (compEnvC sc cl C X.env) fp) el te)
    (hs : ∀ x, foldedSetIterable it X.env x = pure x) (h : tSt X.w wi g tt te (own.map (·.2)) σ H Q)
    (out : ∀ L C s2 m G, Inv X pn σ G s2 → Q (.ref L) G → s2.heap.Ns C m → FpOk X pn G C → compPost (model X.prog X.w) X.A X.xe use Qf (.ref L) C (.ok .next) s2) :
    wpAny (model X.prog X.w) X.A (comprehension (.SetComp el [⟨tg, it, ifs, 0⟩] sc pos) sc X.env p2 (newSet (.type "set")) false (eval it X.env) use) Qf X.xe s := by
  have fr : ∀ y ∈ sc.names, y.2 = .free → ∃ c, X.env.cells.lookup y.1 = some c := by
    intro y hy e
    rcases ok.free y hy e with q | q
    · exact I.ok.has _ (.inl q)
    · exact I.ok.has _ (.inr q)
  refine wpAny_comprehension_free (use := use) rfl hs (closure_ok fr) ok.kind (fun y hy e => by rw [ok.uniq y hy, e]) (thn (hi.run pn s σ H _ I h) fun xv s1 hx => thn hx fun itv s2 h2 => ?_)
  obtain ⟨itr, fp, tn, J, G, e, I2, T, st2, f2, q⟩ := h2
  subst e
  refine PpSet.newSet_ok (newEnv_comp ?_)
  have hLn : G s2.heap.objs.size = none := I2.hok.fresh (Nat.le_refl _)
  obtain ⟨V, ⟨m0, v0⟩, turn⟩ := q _ hLn
  have kp3 : ∀ b o, s2.heap.get? b = some o → (s2.heap.push { cls := .type "set", dict := none, data := .set #[] 0 (.fresh 0 0 (!X.w.params.followText "set-order")) }).get? b = some o := fun b o e => Heap.get?_push_of_some _ e
  have I3 := I2.laid (t' := s2.toks) kp3 (Nat.le_refl _) (setTO_new (setT_fresh X.w))
  have sz : ∀ b ∈ fp, b < s2.heap.objs.size := by
    intro b hb
    obtain ⟨o, e, _⟩ := T.obj _ _ st2 b hb
    exact Heap.lt_size e
  have st3 := T.keep _ _ _ st2 fun b _ o e => kp3 b o e
  have hz : s2.heap.objs.size < (s2.heap.push { cls := .type "set", dict := none, data := .set #[] 0 (.fresh 0 0 (!X.w.params.followText "set-order")) }).objs.size := by rw [Heap.size_push]; exact Nat.lt_succ_self _
  generalize hh3 : s2.heap.push { cls := .type "set", dict := none, data := .set #[] 0 (.fresh 0 0 (!X.w.params.followText "set-order")) } = h3 at *
  generalize s2.heap.objs.size = L at *
  generalize hs3 : ({ s2 with heap := h3, toks := s2.toks } : Shared) = s3 at *
  have eh : s3.heap = h3 := by rw [← hs3]
  have f3 : ∀ b ∈ fp, FpOk X pn (upd G L (SetTO X.w L [])) b ∧ b < s3.heap.objs.size := by
    intro b hb
    have lt := sz b hb
    refine ⟨⟨?_, (f2 b hb).2⟩, ?_⟩
    · rw [upd_ne (Nat.ne_of_lt lt)]
      exact (f2 b hb).1
    · rw [eh]
      exact Nat.lt_trans lt hz
  have I4 := block_start I3 ok hN f3
  have pg := pgs s3 (upd G L (SetTO X.w L [])) s3.heap.objs.size (cellsFrom (s3.heap.objs.size + 1) sc.names (cloFrom X.env.cells sc.names [])) fp
  have pt := pts s3 (upd G L (SetTO X.w L [])) s3.heap.objs.size (cellsFrom (s3.heap.objs.size + 1) sc.names (cloFrom X.env.cells sc.names [])) fp
  have pe := pes s3 (upd G L (SetTO X.w L [])) s3.heap.objs.size (cellsFrom (s3.heap.objs.size + 1) sc.names (cloFrom X.env.cells sc.names [])) fp
  have goal : codeAny (model X.prog X.w) X.A (.compStart (.SetComp el [⟨tg, it, ifs, 0⟩] sc pos) 0 (.ref itr) (.ref L) (compEnvC sc (cellsFrom (s3.heap.objs.size + 1) sc.names (cloFrom X.env.cells sc.names [])) s3.heap.objs.size X.env)) (compPost (model X.prog X.w) X.A X.xe use Qf (.ref L) s3.heap.objs.size) { s3 with heap := pushCells (s3.heap.push { cls := .type "dict", data := .dict #[] }) sc.names } := by
    generalize hce : compEnvC sc (cellsFrom (s3.heap.objs.size + 1) sc.names (cloFrom X.env.cells sc.names [])) s3.heap.objs.size X.env = ce at I4 pg pt pe ⊢
    have cL : ce.locals = s3.heap.objs.size := by rw [← hce]; rfl
    have nfp : ∀ b ∈ fp, (upd G L (SetTO X.w L [])) b = none := fun b hb => (f3 b hb).1.1
    generalize upd G L (SetTO X.w L []) = G3 at *
    generalize hs4 : ({ s3 with heap := pushCells (s3.heap.push { cls := .type "dict", data := .dict #[] }) sc.names } : Shared) = s4 at I4 ⊢
    have st4 : tn 0 s4.heap := T.keep _ _ _ st3 fun b _ o e => by
      rw [← hs4]
      exact pushCells_keeps _ _ _ _ (Heap.get?_push_of_some _ (by rw [eh]; exact e))
    have stat : ∀ {τ : St} {G2 : Hp} {s2 : Shared}, Inv (X.blk s3 G3 sc ce fp) [] τ G2 s2 → (∀ b ∈ fp, G2 b = none) → ∀ b ∈ fp, FpOk (X.blk s3 G3 sc ce fp) [] G2 b := by
      intro τ G2 s2 I' hn b hb
      exact ⟨hn b hb, (I'.ok.exf b hb).1, I'.ok.exfs b hb, .inl hb, fun x c e => (I'.ok.exf b hb).2 x c e, fun p hp => absurd (show p ∈ ([] : List (Addr × Obj)) ++ [] from hp) (by simp)⟩
    have lp : codeAny (model X.prog X.w) X.A (.compLoop (.SetComp el [⟨tg, it, ifs, 0⟩] sc pos) 0 (.ref itr) (.ref L) ce) (compPost (model X.prog X.w) X.A X.xe use Qf (.ref L) s3.heap.objs.size) s4 := by
      refine PpSet.compLoopS_any (fun n s2 => ∃ i G2, Inv (X.blk s3 G3 sc ce fp) [] (wipe σ (own.map (·.2))) G2 s2 ∧ tn i s2.heap ∧ (∀ b ∈ fp, G2 b = none) ∧ V i n G2) ?_ m0 ⟨0, G3, I4, st4, nfp, v0⟩
      rintro n s5 ⟨i, G5, I5, st5, n5, w5⟩
      rcases turn i n G5 w5 with ⟨stop, qq⟩ | ⟨go, Nx, hNx, step⟩
      · have td := T.done (X.blk s3 G3 sc ce fp) rfl rfl rfl calm i [] s5 _ G5 (fun _ _ => False) I5 (stat I5 n5) st5 stop
        refine thnF td fun r s6 ⟨hr, I6⟩ => ?_
        subst hr
        have I7 : Inv X pn σ G5 s6 := I3.call' (ch := fp) I6.os I6.base I6.hok I6.bare fun b hb => ⟨(f3 b hb).1.2.2.2.1, (f3 b hb).1.2.1, (f3 b hb).1.2.2.2.2.1, (f3 b hb).1.2.2.2.2.2⟩
        have nC : G5 s3.heap.objs.size = none := by
          have z : G5 ce.locals = none := I6.free
          rwa [cL] at z
        obtain ⟨m, hn, _⟩ := I6.loc
        have hn : s6.heap.Ns ce.locals m := hn
        rw [cL] at hn
        exact out L s3.heap.objs.size s6 m G5 I7 qq hn (I3.fpOk (Nat.le_refl _) nC)
      · have ti := T.item (X.blk s3 G3 sc ce fp) rfl rfl rfl calm i [] s5 _ G5 (fun _ _ => False) I5 (stat I5 n5) st5 go
        refine thnF ti fun r s6 ⟨u, hr, h6⟩ => ?_
        subst hr
        refine thnF h6 fun _ s7 ⟨x, G7, I7, r7, y7, st7, n7⟩ => ?_
        have I7' := I7.pinned (stat I7 n7) (T.obj _ _ st7)
        refine thnF (pg.run _ s7 _ G7 x u _ I7' r7 (step x G7 y7)) fun _ s8 ⟨τ, G8, I8, hw8, q8⟩ => ?_
        refine thnF (pt.run _ s8 τ G8 _ I8 q8) fun b s9 ⟨G9, I9, q9⟩ => ?_
        have fin : ∀ {s2 : Shared} {G2 : Hp}, Inv (X.blk s3 G3 sc ce fp) ([] ++ pinsAt fp s7.heap) τ G2 s2 → Nx G2 → ∃ m, m < n ∧ ∃ i G2, Inv (X.blk s3 G3 sc ce fp) [] (wipe σ (own.map (·.2))) G2 s2 ∧ tn i s2.heap ∧ (∀ b ∈ fp, G2 b = none) ∧ V i m G2 := by
          intro s2 G2 I' nx
          obtain ⟨k, hk, w'⟩ := hNx G2 nx
          have pin' : ∀ b ∈ fp, ∀ o, s7.heap.get? b = some o → s2.heap.get? b = some o ∧ G2 b = none := fun b hb o e => by
            have z := I'.pin (b, o) (List.mem_append_right _ (List.mem_append_right _ (mem_pinsAt hb e)))
            exact ⟨z.1, z.2.1⟩
          have hl : (wipe σ (own.map (·.2))).length = τ.length := by rw [← hw8, wipe_length]
          refine ⟨k, hk, i + 1, G2, (I'.unpinned (pins := [])).weak hl (fun j v e => ?_), T.keep _ _ _ st7 fun b hb o e => (pin' b hb o e).1, fun b hb => ?_, w'⟩
          · rw [← hw8] at e
            exact (wipe_some e).1
          · obtain ⟨o, e, _⟩ := T.obj _ _ st7 b hb
            exact (pin' b hb o e).2
        cases b with
        | false =>
          simp only [Bool.false_eq_true, if_false] at q9 ⊢
          exact fin I9 q9
        | true =>
          simp only [if_true] at q9 ⊢
          refine thnF (pe.run _ s9 τ G9 _ I9 q9) fun z s10 ⟨yv, G10, I10, r10, c, l, ey, hL10, hz10, nx⟩ => ?_
          subst ey
          obtain ⟨tk, rfl⟩ := (show ∃ tk, z = Value.str c tk from r10)
          exact set_addT (X := X.blk s3 G3 sc ce fp) I10 hL10 hz10 fun s11 I11 => fin I11 nx
    exact PpSet.codeAny_compStart_set lp (T.self X.A 0 _ _ _ st4 lp)
  subst hs3
  exact goal
end
end Mir

namespace Mir
open PySem PySem.Spec PyProof.Rows L2
section
variable {X : Cx}
theorem pe_st {el tg it : Expr} {ifs : List Expr} {sc : Scope} {own : List (Str × Nat)} {pos : Pos} {wi : TI} {g : TG} {tt : TT} {te : TE} (calm : X.calm = true) (hN : X.N.Nodup) (hi : PI X tg it wi) (ok : BlkOk X.N X.env.scope sc own)
    (pgs : ∀ s H C cl fp, PG (X.blk s H sc (compEnvC sc cl C X.env) fp) tg g) (pts : ∀ s H C cl fp, PTs (X.blk s H sc (compEnvC sc cl C X.env) fp) ifs tt) (pes : ∀ s H C cl fp, PE (X.blk s H sc (compEnvC sc cl C X.env) fp) el te) (hs : ∀ x, foldedSetIterable it X.env x = pure x := by intro _; rfl) :
    PE X (.SetComp el [⟨tg, it, ifs, 0⟩] sc pos) (tSt X.w wi g tt te (own.map (·.2))) := by
  constructor
  intro pn s σ H Q I h
  rw [PpSet.eval_SetComp]
  refine st_core calm hN I hi ok pgs pts pes hs h ?_
  intro L C s2 m G J q hn ⟨f0, f1, f2, f3, f4, f5⟩
  exact ⟨m, hn, fun h'' sb => ⟨.ref L, G, J.turned (t' := s2.toks) (fun b o hb e => (sb.2 b hb).trans e) f0 f1 f3 f4 f5, rfl, q⟩⟩
end
end Mir

namespace Mir
open PySem PySem.Spec PyProof.Rows L2
section
variable {X : Cx} {W : WX}
/-! ## the mirror of sorted({el for tg in iter if tst}) -/
def stLoop (vs : List Nat) (tgt : TF) (tst : EF Bool) (el : EF D) : List D → List Str → ME → Option (List Str × ME)
  | [], acc, e => some (acc, e)
  | d :: ds, acc, e => match tgt d e with
    | some e1 => match tst e1 with
      | some (.ok true, e2) => match el e2 with
        | some (.ok (.str x), e3) => stLoop vs tgt tst el ds (insT acc x) (wipeE e3 vs)
        | _ => none
      | some (.ok false, e2) => stLoop vs tgt tst el ds acc (wipeE e2 vs)
      | _ => none
    | none => none
def eSrtSt (vs : List Nat) (fi : EF (List D)) (tgt : TF) (tst : EF Bool) (el : EF D) : EF FR := eBind fi fun ds e => if offAt vs e = true ∧ ds.length + 1 < scanBound then match stLoop vs tgt tst el ds [] e with
    | some (acc, e') => some (.ok (.o (.lst ((srt acc).map .str))), e')
    | none => none
  else none
theorem insT_len (l : List Str) (k : Str) : (insT l k).length ≤ l.length + 1 := by
  unfold insT
  split
  · exact Nat.le_succ _
  · simp
theorem insT_mem {l : List Str} {k z : Str} (h : z ∈ insT l k) : z ∈ l ∨ z = k := by
  unfold insT at h
  split at h
  · exact .inl h
  · simpa using h
theorem st_tr {K : PySem.W.Frag} {w : World} {vs : List Nat} {fi : EF (List D)} {tgt : TF} {tst : EF Bool} {el : EF D} {σ : St} {H : Hp} {Q : VK} (h : trF K W (eSrtSt vs fi tgt tst el) σ H Q) :
    tSt w (tr K W (RI K) fi) (trGv vs K tgt) (tr K W0 RB tst) (tr K W0 (RD K) el) vs σ H (fun v G => rSortT w [v] G Q) := by
  obtain ⟨S, env, z⟩ := h
  refine ⟨S, env, (AtF.bind (R := RI K) z).imp fun J H1 ⟨ds, S1, e1, io, st, z1⟩ => ?_⟩
  intro L hL
  obtain ⟨r, env', rel, ef, q⟩ := z1
  dsimp only at ef
  split at ef
  · rename_i hc
    obtain ⟨hoff, hlen⟩ := hc
    split at ef
    · rename_i out e' hcl
      cases ef
      have hoff := offAt_of hoff
      have l0 : (wipe σ vs).length = σ.length := wipe_length _ _
      have st0 : Step K S1 e1 (wipe σ vs) H1 S1 e1 (wipe σ vs) H1 := rel.step.off (fun i s h => wipe_out (hoff i s h)) (fun i s h => wipe_out (hoff i s h)) l0 l0
      refine ⟨fun i m G => m = ds.length - i ∧ i ≤ ds.length ∧ ∃ S2 : SS, ∃ e2 acc, Step K S1 e1 (wipe σ vs) H1 S2 e2 (wipe σ vs) (less G L) ∧ G L = some (SetTO w L acc) ∧ acc.length ≤ i ∧ (∀ x ∈ acc, x.length ≤ sizeLine) ∧ (∀ i s, e2.sl[i]? = some (some s) → i ∉ vs) ∧ stLoop vs tgt tst el (ds.drop i) acc e2 = some (out, env'),
        ⟨ds.length, rfl, Nat.zero_le _, S1, e1, [], by rw [less_upd, less_id hL]; exact st0, upd_same, Nat.zero_le _, fun x hx => (nomatch hx), hoff, hcl⟩, ?_⟩
      rintro i m G2 ⟨rfl, hi, S2, en2, acc, st2, hH, hal, hsz, hoff2, hcl2⟩
      have bst : Step K S2 en2 (wipe σ vs) (less G2 L) S2 en2 (wipe σ vs) G2 := by
        have := st2.rel.beside (p := L) (o := SetTO w L acc) less_same
        rwa [upd_less hH] at this
      have nS : S2.hp L = none := by
        cases e : S2.hp L with
        | none => rfl
        | some u =>
          have := st2.rel.sub _ _ e
          rw [less_same] at this
          cases this
      have nO : ¬ Own en2 (wipe σ vs) S2 L := by
        rintro ⟨j, m, h1, h2⟩
        obtain ⟨a, o, q1, q2, _, _⟩ := st2.rel.obj j m h1
        have := q1.inj h2
        subst this
        rw [less_same] at q2
        cases q2
      by_cases hlt : i < ds.length
      · rw [List.drop_eq_getElem_cons hlt] at hcl2
        unfold stLoop at hcl2
        refine .inr ⟨io.goes i S2 en2 _ G2 hlt st2.le bst.rel, fun H3 => i + 1 ≤ ds.length ∧ ∃ S2 : SS, ∃ en2 acc, Step K S1 e1 (wipe σ vs) H1 S2 en2 (wipe σ vs) (less H3 L) ∧ H3 L = some (SetTO w L acc) ∧ acc.length ≤ i + 1 ∧ (∀ x ∈ acc, x.length ≤ sizeLine) ∧ (∀ i s, en2.sl[i]? = some (some s) → i ∉ vs) ∧ stLoop vs tgt tst el (ds.drop (i + 1)) acc en2 = some (out, env'),
          fun H3 h3 => ⟨ds.length - (i + 1), by omega, rfl, h3⟩, fun x H3 hy => ?_⟩
        obtain ⟨S3, d, st3, hd, rd, _⟩ := io.yields i S2 en2 _ G2 x H3 hlt st2.le bst.rel hy
        rw [List.getElem?_eq_getElem hlt] at hd
        cases hd
        split at hcl2
        · rename_i e3 hg3
          refine ⟨S3, en2, _, e3, st3.rel, rd, hg3, fun S4 σ4 H4 st4 es eh ew => ?_⟩
          have ew' : wipe σ4 vs = wipe σ vs := ew.trans wipe_idem
          have st24 := st3.trans st4
          have fin : ∀ (S5 : SS) (e5 : ME) (H5 : Hp), Step K S2 en2 (wipe σ vs) G2 S5 e5 σ4 H5 → Step K S1 e1 (wipe σ vs) H1 S5 (wipeE e5 vs) (wipe σ vs) (less H5 L) ∧ H5 L = some (SetTO w L acc) := fun S5 e5 H5 st5 => by
            refine ⟨?_, st5.frame L _ hH nS nO⟩
            have a := st2.trans (st5.lessen hH nS nO)
            have b := a.rel.wipe (vs := vs) fun j hj m hm => by
              obtain ⟨m', hm'⟩ := a.borr j m hm
              exact hoff j _ hm' hj
            rw [ew'] at b
            exact a.trans b
          refine ⟨ew', ?_⟩
          split at hcl2
          · rename_i e4 ht4
            refine ⟨S4, e3, .ok true, e4, st4.rel, ht4, fun S5 H5 st5 b hb => ?_⟩
            have hb' : true = b := hb
            subst hb'
            split at hcl2
            · rename_i y e5 hel
              refine iteT ⟨S5, e4, .ok (.str y), e5, st5.rel, hel, fun S6 H6 st6 u ru => ?_⟩
              obtain ⟨f1, f2⟩ := fin S6 e5 H6 ((st24.trans st5).trans st6)
              have il := insT_len acc y
              exact ⟨y, acc, ru.1, f2, by omega, hlt, S6, wipeE e5 vs, insT acc y, by rw [less_upd]; exact f1, upd_same, by omega, fun z hz => (insT_mem hz).elim (fun q => hsz z q) (fun q => q ▸ ru.2), fun j s h => (wipeE_some h).2, hcl2⟩
            · cases hcl2
          · rename_i e4 ht4
            refine ⟨S4, e3, .ok false, e4, st4.rel, ht4, fun S5 H5 st5 b hb => ?_⟩
            have hb' : false = b := hb
            subst hb'
            obtain ⟨f1, f2⟩ := fin S5 e4 H5 (st24.trans st5)
            exact iteF ⟨hlt, S5, wipeE e4 vs, acc, f1, f2, Nat.le_succ_of_le hal, hsz, fun j s h => (wipeE_some h).2, hcl2⟩
          · cases hcl2
        · cases hcl2
      · have e : i = ds.length := by omega
        subst e
        rw [List.drop_length] at hcl2
        have hcl3 : some (acc, en2) = some (out, env') := hcl2
        cases hcl3
        refine .inl ⟨io.stops S2 _ _ G2 st2.le bst.rel, L, out, rfl, hH, fun p hp => ?_⟩
        have full := (st2.trans bst).off (fun i s h => (wipe_out (hoff i s h)).symm) (fun i s h => (wipe_out (hoff2 i s h)).symm) l0.symm l0.symm
        have big : scanBound ≤ sizeLine := by decide +kernel
        have ll : ((srt out).map D.str).length ≤ sizeLine := by rw [List.length_map, (srt_perm out).length_eq]; omega
        exact q S2 G2 full p (.lst ((srt out).map V.str)) hp ⟨_, rfl, ll, reps_strs fun x hx => hsz x ((srt_perm out).subset hx)⟩
    · cases ef
  · cases ef
end
end Mir

namespace Mir
open PySem PySem.Spec PyProof.Rows L2
/-! ## try: several clauses with a name each; the exception is tracked in its suite -/
section
variable {X : Cx} {pins : List (Addr × Obj)} {σ : St} {H : Hp} {s : Shared} {a : Addr} {o : HO}
theorem inv_track (I : L2.Inv X pins σ H s) (na : H a = none) (n0 : ∀ u, X.s_0.heap.get? a = some u → X.H_0 a = none → False) (nL : a ≠ X.env.locals)
    (nC : ∀ x c, X.env.cells.lookup x = some c → c ≠ a) (np : ∀ p ∈ X.pn ++ pins, p.1 ≠ a) (new : ObjOk X.prog X.w (upd H a o) s.heap a o) : L2.Inv X pins σ (upd H a o) s := by
  have other : ∀ {b : Addr} {u : HO}, H b = some u → (upd H a o) b = some u := fun e => by rw [upd_ne (ne_of_none e na)]; exact e
  refine ⟨I.ok, I.os, I.bare, ⟨I.base.keep, I.base.slot, fun b u e n hx => ?_, I.base.there, fun b xs e => other (I.base.tups b xs e), fun b u xs e => other (I.base.frzs b u xs e), fun b ps e => ?_⟩, I.loc, I.cell, ?_, fun x c e => ?_, fun p hp => ?_, fun b u e => ?_, I.len⟩
  · have hb : b ≠ a := fun z => by subst z; exact n0 u e n
    rw [upd_ne hb]; exact I.base.free b u e n hx
  · obtain ⟨m, q⟩ := I.base.tbls b ps e
    exact ⟨m, other q⟩
  · rw [upd_ne (Ne.symm nL)]; exact I.free
  · rw [upd_ne (nC x c e)]; exact I.freeC x c e
  · obtain ⟨q1, q2, q3⟩ := I.pin p hp
    exact ⟨q1, by rw [upd_ne (np p hp)]; exact q2, q3⟩
  · by_cases hb : b = a
    · subst hb
      rw [upd_same] at e; cases e
      exact new
    · rw [upd_ne hb] at e
      exact (I.hok b u e).stay (fun _ _ _ q => q) (fun _ q => other q) fun _ _ q => other q
theorem inv_suite (I : L2.Inv X pins σ H s) : L2.Inv (X.suite a (X.pn ++ pins)) [] σ H s :=
  ⟨I.ok.suite _ _, I.os, I.bare, I.base, I.loc, I.cell, I.free, I.freeC, fun p hp => I.pin p (by simpa using hp), I.hok, I.len⟩
theorem inv_back (ok : X.Ok) (I : L2.Inv (X.suite a (X.pn ++ pins)) [] σ H s) : L2.Inv X pins σ H s :=
  ⟨ok, I.os, I.bare, I.base, I.loc, I.cell, I.free, I.freeC, fun p hp => I.pin p (by simpa using hp), I.hok, I.len⟩
end
abbrev ClE := Value × Nat × TS
def endN (i : Nat) (Dn : Ends) : Ends := ⟨fun τ G => Dn.nx (τ.set i none) G, Dn.rt, fun τ G => Dn.bk (τ.set i none) G, fun τ G => Dn.ct (τ.set i none) G⟩
/-- what the clauses wish, one after the other -/
def wCls (K : PySem.W.Frag) (Wo : WX) (Dn : Ends) : List ClE → WX
  | [] => Wo
  | (c, i, ts) :: r => fun cls dd σ H => ∃ b, PySem.W.exmOne K cls c = some b ∧ (b = true → ∀ a, H a = none → ts (endN i Dn) (σ.set i (some (.ref a))) (upd H a (ExH cls dd a))) ∧ (b = false → wCls K Wo Dn r cls dd σ H)
inductive HdsN (X : Cx) : List ExceptHandler → List ClE → Prop
  | nil : HdsN X [] []
  | cons {x n : Str} {c : Value} {i : Nat} {ts : TS} {st : Stmt} {sts : List Stmt} {np hp : Pos} {hs : List ExceptHandler} {l : List ClE} (hc : Names X x c) (hi : X.N[i]? = some n) (hl : X.env.kindOf n = some .local)
      (run : ∀ a pn, PSs (X.suite a pn) (st :: sts) ts) (rest : HdsN X hs l) : HdsN X (.ExceptHandler (some (.Name x np)) (some n) (st :: sts) hp :: hs) ((c, i, ts) :: l)
section
variable {X : Cx} {body : List Stmt} {h1 : ExceptHandler} {hds : List ExceptHandler} {l : List ClE} {pos : Pos} {tb : WX → TS} {Wo : WX}
/-- the clauses looked at, the exception on the ground -/
theorem clauses_run {pins : List (Addr × Obj)} {σ : St} {H : Hp} {s : Shared} {Dn : Ends} {B : Heap} {a : Addr} {cls : Value} {dd : Option Addr} (ok : X.Ok) (hN : X.N.Nodup) (hf : X.env.frame = some X.env.locals) (hst : X.stack = X.env :: X.outer)
    (land : ∀ h, HandSPX.FlyingZ B (X.env :: X.outer) a (Zc cls dd) h → s.heap.UpToSlots h → L2.Inv X pins σ H { s with heap := h })
    (na : H a = none) (n0 : ∀ u, X.s_0.heap.get? a = some u → X.H_0 a = none → False) (nL : a ≠ X.env.locals) (nC : ∀ x c, X.env.cells.lookup x = some c → c ≠ a) (np : ∀ p ∈ X.pn ++ pins, p.1 ≠ a)
    (out : Wo cls dd σ H → wpAny (model X.prog X.w) X.A (handleBy (.ref a) X.env []) (SP X pins Dn) X.xe s) (fl : HandSPX.FlyingZ B (X.env :: X.outer) a (Zc cls dd) s.heap) :
    ∀ {hds : List ExceptHandler} {l : List ClE}, HdsN X hds l → wCls X.K Wo Dn l cls dd σ H → wpAny (model X.prog X.w) X.A (handleBy (.ref a) X.env hds) (SP X pins Dn) X.xe s := by
  intro hds l hk
  induction hk with
  | nil => exact out
  | @cons x n c i ts st sts npos hpos hs2 l2 hc hi hl run rest ih =>
    rintro ⟨b, hb, yes, no⟩
    obtain ⟨oe, vs, ge, gz, gd⟩ := fl.there
    have I0 : L2.Inv X pins σ H s := land s.heap fl (Heap.UpToSlots.refl _)
    have J0 : L2.Inv (X.suite a (X.pn ++ pins)) [] σ H s := inv_suite I0
    refine wpAny_handleBy_cons (codeAny_handlers_test ?_) (fun q => by cases q)
    have ty : PySem.W.Looks (model X.prog X.w) s.heap (typeOf (.ref a)) cls := fun A Q E s k q => wpAny_typeOf_ref (k _ _ ge) (by rw [gz.1]; exact q)
    have mt := PySem.W.exm_one (M := model X.prog X.w) I0.kIn ty hb
    have named : ∀ {Q : Value → Shared → Prop} {E : Value → Shared → Prop}, Q c s → wpAny (model X.prog X.w) (X.A.mark (some (.ref a))) (eval (.Name x npos) X.env) Q E s := by
      intro Q E q
      obtain ⟨g, db, hm | ⟨hm, hv, hn⟩⟩ := hc
      · exact ld_glob (X := X.suite a (X.pn ++ pins)) J0 g hm q db
      · exact ld_blt (X := X.suite a (X.pn ++ pins)) J0 g hm hv q hn db
    refine named (mt.here ?_)
    cases b with
    | false => exact ih (no rfl)
    | true =>
      refine codeAny_handlers_suite_as (HandSPX.lands_againZ fl fun h4 fl4 up4 => ?_)
      obtain ⟨oe4, vs4, ge4, gz4, gd4⟩ := fl4.there
      have I4 := land h4 fl4 up4
      have T4 : L2.Inv X pins σ (upd H a (ExH cls dd a)) { s with heap := h4 } := inv_track I4 na n0 nL nC np
        ⟨⟨oe4, vs4, ge4, gz4, gd4⟩, ⟨oe4, ge4⟩, fun g1 g2 ⟨u, us, q1, q2, q3⟩ k => ⟨u, us, k u q1, q2, q3⟩⟩
      refine store_ok (X := X.suite a (X.pn ++ pins)) (v := .ref a) (inv_suite T4) hN hi (.inl hl) rfl (fun s5 S5 => ?_) (.inr hl)
      refine wpAny_mono ((run a (X.pn ++ pins)).run [] s5 _ _ _ S5 (yes rfl a na)) (fun f s6 hsp => ?_) (fun _ _ z => False.elim z)
      have close : ∀ {τ : St} {G : Hp} {Q : Shared → Prop}, L2.Inv (X.suite a (X.pn ++ pins)) [] τ G s6 → (∀ s7, L2.Inv X pins (τ.set i none) G s7 → Q s7) →
          wpAny (model X.prog X.w) X.A (do bindName X.env n .none; unbindBehindTheSuite X.env n hpos) (fun _ s7 => Q s7) X.xe s6 := fun S6 q => gone_ok (inv_back ok S6) hN hi hl q
      cases f with
      | next =>
        obtain ⟨τ, G, S6, q6⟩ := hsp
        exact close S6 fun s7 J7 => ⟨_, _, J7, q6⟩
      | brk =>
        obtain ⟨τ, G, S6, q6⟩ := hsp
        exact close S6 fun s7 J7 => ⟨_, _, J7, q6⟩
      | cont =>
        obtain ⟨τ, G, S6, q6⟩ := hsp
        exact close S6 fun s7 J7 => ⟨_, _, J7, q6⟩
      | ret u =>
        obtain ⟨v6, τ, G, S6, r6, q6⟩ := hsp
        exact close S6 fun s7 J7 => ⟨_, _, _, J7, r6, q6⟩
end
end Mir

namespace Mir
open PySem PySem.Spec PyProof.Rows L2
section
variable {X : Cx} {body : List Stmt} {h1 : ExceptHandler} {hds : List ExceptHandler} {l : List ClE} {pos : Pos} {tb : WX → TS} {Wo : WX}
theorem ps_tryN (hst : X.stack = X.env :: X.outer) (hf : X.env.frame = some X.env.locals) (hex : X.ex = []) (hN : X.N.Nodup) (tk : Takes X Wo)
    (hb : ∀ (W : WX) (pn : List (Addr × Obj)) (xe : Value → Shared → Prop), Takes (X.tr pn xe) W → PassesOwn (model X.prog X.w) X.A X.env xe → PSs (X.tr pn xe) body (tb W))
    (hh : HdsN X (h1 :: hds) l) : PS X (.Try body (h1 :: hds) [] [] pos) (fun Dn σ H => tb (wCls X.K Wo Dn l) Dn σ H) := by
  refine ⟨fun pins s σ H Dn inv h => wpAny_Try_except ?_⟩
  have ok := inv.ok
  have hfr : X.A.frames = some (X.env :: X.outer) := by rw [ok.frames, hst]
  obtain ⟨xe', exe⟩ : ∃ xe' : Value → Shared → Prop, xe' = fun e s₁ => wpAny (model X.prog X.w) X.A (noteFrame e X.env) (fun _ s₂ => wpAny (model X.prog X.w) X.A (setFlight e none) (fun _ s₃ =>
    wpAny (model X.prog X.w) X.A (handleBy e X.env (h1 :: hds)) (SP X pins Dn) X.xe s₃) X.xe s₂) X.xe s₁ := ⟨_, rfl⟩
  have pas : PassesOwn (model X.prog X.w) X.A X.env xe' := by rw [exe]; exact PassesOwn.looking
  have taken : Takes (X.tr (X.pn ++ pins) xe') (wCls X.K Wo Dn l) := by
    rintro u s' ⟨a, B, sI, pins', σ', H', cls, d, rfl, J', nb, up, sky, na, os, ag, w⟩
    have J : L2.Inv X pins σ' H' sI := J'.ofTry ok
    have sk : Sky B (X.env :: X.outer) a (Zc cls d) X.env.locals s'.heap := by rw [← hst]; exact sky
    show xe' _ _
    rw [exe]
    refine Sky.land Zc.steady hfr hf sk fun h3 fl up3 => ?_
    have land : ∀ h4, HandSPX.FlyingZ B (X.env :: X.outer) a (Zc cls d) h4 → h3.UpToSlots h4 → L2.Inv X pins σ' H' { s' with heap := h4 } := fun h4 f4 u4 => J.landed nb f4.1 ((up.trans up3).trans u4) os ag
    have J3 := land h3 fl (Heap.UpToSlots.refl _)
    obtain ⟨oe, vs, ge, gz, gd⟩ := fl.there
    have notin : a ∉ frs (X.env :: X.outer) := fun hm => by
      obtain ⟨_, o', e', hn⟩ := fl.2.2.1.mem hm
      rw [ge] at e'; cases e'
      exact hn _ gd
    have nL : a ≠ X.env.locals := fun z => notin (List.mem_filterMap.mpr ⟨X.env, List.mem_cons_self, by rw [hf, z]⟩)
    have gone : ∀ b o, sI.heap.get? b = some o → b ∉ frs (X.env :: X.outer) → b ≠ a := fun b o e hn z => by
      have q := nb b o e (by rw [hst]; exact hn)
      rw [z, fl.2.1] at q; cases q
    have nC : ∀ x c, X.env.cells.lookup x = some c → c ≠ a := fun x c e z => by
      obtain ⟨v, o, q1, q2⟩ := J3.cell x c e
      rw [z] at q1
      have q1' : h3.get? a = some o := q1
      rw [ge] at q1'; cases q1'
      rw [gd] at q2; cases q2
    have np : ∀ p ∈ X.pn ++ pins, p.1 ≠ a := fun p hp => by
      obtain ⟨q1, q2, q3, q4, _⟩ := J.pin p hp
      refine gone p.1 p.2 q1 fun hm => ?_
      obtain ⟨e, he, q⟩ := List.mem_filterMap.mp hm
      rcases List.mem_cons.mp he with rfl | he
      · rw [hf] at q; exact q3 (Option.some.inj q).symm
      · exact q4 (List.mem_filterMap.mpr ⟨e, he, q⟩)
    have n0 : ∀ u, X.s_0.heap.get? a = some u → X.H_0 a = none → False := fun u e n => by
      have hfs : a ∉ X.fs := fun hm => by
        obtain ⟨e, he, q⟩ := List.mem_filterMap.mp hm
        exact notin (List.mem_filterMap.mpr ⟨e, List.mem_cons_of_mem _ he, q⟩)
      exact gone a u (J.base.keep a u e n hfs (by rw [hex]; simp)) notin rfl
    refine clauses_run (s := { s' with heap := h3 }) (Wo := Wo) ok hN hf hst land na n0 nL nC np (fun wo => ?_) fl hh w
    refine wpAny_handleBy_nil ?_
    obtain ⟨_, _, _, oe1, vs1, T, oT, ts1, g1, _, g3, g4, _⟩ := id fl
    unfold PySem.passOn
    refine wpAny_bind (wpAny_field g1 g3 g4 ?_)
    rw [if_neg (show ¬ ((Value.ref T == Value.none) = true) from by simp)]
    have last : wpAny (model X.prog X.w) X.A (setFlight (.ref a) X.env.frame) (fun _ s4 => wpAny (model X.prog X.w) X.A (throw (.ref a) : Sem Flow) (SP X pins Dn) X.xe s4) X.xe { s' with heap := h3 } := by
      rw [hf]
      refine HandSPX.setFlight_upZ fl fun h4 hh4 up4 => wpAny_throw (tk _ _ ?_)
      exact ⟨a, B, sI, pins, σ', H', cls, d, rfl, J, nb, (up.trans up3).trans up4, .inr (.inr (by rw [hst]; exact hh4)), na, os, ag, wo⟩
    first
      | exact wpAny_bind (wpAny_pure (wpAny_bind last))
      | exact wpAny_bind last
  have go := (hb (wCls X.K Wo Dn l) (X.pn ++ pins) xe' taken pas).run [] s σ H Dn (inv.toTry _) h
  rw [show (X.tr (X.pn ++ pins) xe').xe = xe' from rfl, exe] at go
  refine wpAny_mono go (fun f s1 hsp => ?_) (fun _ _ z => z)
  cases f with
  | next =>
    obtain ⟨τ, G, J, q⟩ := hsp
    exact wpAny_execs_nil ⟨τ, G, J.ofTry ok, q⟩
  | brk =>
    obtain ⟨τ, G, J, q⟩ := hsp
    exact ⟨τ, G, J.ofTry ok, q⟩
  | cont =>
    obtain ⟨τ, G, J, q⟩ := hsp
    exact ⟨τ, G, J.ofTry ok, q⟩
  | ret u =>
    obtain ⟨v, τ, G, J, r, q⟩ := hsp
    exact ⟨v, τ, G, J.ofTry ok, r, q⟩
end
end Mir

namespace Mir
open PySem PySem.Spec PyProof.Rows L2
/-! ## try, mirrored -/
structure Cl where
  tab : List (Str × Bool)
  i : Nat
  g : SF
def pick (C : Str) (fs : List (Str × D)) : List Cl → SF
  | [] => fun e => some (.ex (.own C fs), e)
  | c :: r => fun e => match c.tab.lookup C with
    | some true => if isB e c.i then none else match c.g (e.set c.i (some (.v (.exc C fs)))) with
      | some (.ex _, _) => none
      | some (o, e2) => if isB e2 c.i then none else some (o, e2.set c.i none)
      | none => none
    | some false => pick C fs r e
    | none => none
def sTry (f : SF) (cl : List Cl) : SF := fun e => match f e with
  | some (.ex (.own C fs), e1) => pick C fs cl e1
  | some (.ex (.bi _), _) => none
  | r => r
/-- what a clause's table tells -/
def TabOk (K : PySem.W.Frag) (c : Value) (tab : List (Str × Bool)) : Prop := ∀ C b, tab.lookup C = some b → ∃ Ca, ClsN K C Ca ∧ PySem.W.exmOne K (.ref Ca) c = some b
inductive ClsOk (X : Cx) : List ExceptHandler → List Cl → List ClE → Prop
  | nil : ClsOk X [] [] []
  | cons {x n : Str} {c : Value} {i : Nat} {g : SF} {tab : List (Str × Bool)} {st : Stmt} {sts : List Stmt} {np hp : Pos} {hs : List ExceptHandler} {cl : List Cl} {l : List ClE} (hc : Names X x c) (ht : TabOk X.K c tab) (run : ∀ a pn, DB (X.suite a pn) W0 (st :: sts) g) (rest : ClsOk X hs cl l)
      (hi : X.N[i]? = some n := by rfl) (hl : X.env.kindOf n = some .local := by rfl) :
      ClsOk X (.ExceptHandler (some (.Name x np)) (some n) (st :: sts) hp :: hs) (⟨tab, i, g⟩ :: cl) ((c, i, trS X.K W0 g) :: l)
theorem ClsOk.hds {X : Cx} : ∀ {hs : List ExceptHandler} {cl : List Cl} {l : List ClE}, ClsOk X hs cl l → HdsN X hs l
  | _, _, _, .nil => .nil
  | _, _, _, .cons hc ht run rest hi hl => .cons hc hi hl run rest.hds
theorem pick_w {X : Cx} {W : WX} {Dn : Ends} {C : Str} {fs : List (Str × D)} : ∀ {hs : List ExceptHandler} {cl : List Cl} {l : List ClE} {S : SS} {env : ME} {σ : St} {H : Hp} {cls : Value} {dd : Option Addr}, ClsOk X hs cl l → AtS X.K W (pick C fs cl) S env σ H Dn → RepX X.K S (.own C fs) cls dd H → wCls X.K W Dn l cls dd σ H
  | _, _, _, S, env, σ, H, cls, dd, .nil, z, r => by
    obtain ⟨o, e', rel, e, q⟩ := z
    cases e
    exact q S σ H rel.step cls dd r
  | _, _, _, S, env, σ, H, cls, dd, @ClsOk.cons _ x n c i g tab st sts np hp hs cl l hc ht run rest hi hl, z, r => by
    obtain ⟨o, e', rel, e, q⟩ := z
    unfold pick at e
    dsimp only at e
    split at e
    · rename_i hb
      obtain ⟨Ca, cn, hx⟩ := ht C true hb
      obtain ⟨Ca', cn', rfl, d, kvs, rfl, hd, rf⟩ := r
      have hca := cn'.inj cn
      subst hca
      refine ⟨true, hx, fun _ a na => ?_, fun h => absurd h (by decide)⟩
      split at e
      · cases e
      · rename_i nb
        have sa := rel.alloc (o := ExH (.ref Ca') (some d) a) na
        have sS : S a = none := by
          cases q : S a with
          | none => rfl
          | some u => rw [rel.sub _ _ q] at na; cases na
        have hd2 : (upd S a (ExH (.ref Ca') (some d) a)) d = some (.xd kvs) := by
          rw [upd_ne (ne_of_none hd sS)]; exact hd
        have sv := sa.rel.setV (i := i) (d := .exc C fs) (v := .ref a) (notB_of (by simpa using nb)) ⟨Ca', a, d, kvs, cn', rfl, upd_same, hd2, RepF.mono sa.le _ _ rf⟩
        have st2 := sa.trans sv
        cases hg : g (env.set i (some (.v (.exc C fs)))) with
        | none => rw [hg] at e; cases e
        | some p =>
          obtain ⟨o2, e2⟩ := p
          rw [hg] at e
          have nex : ∀ x, o2 ≠ .ex x := fun x hx => by subst hx; cases e
          have e5 : (if isB e2 i = true then none else some (o2, e2.set i none)) = some (o, e') := by
            cases o2 with
            | ex x => exact absurd rfl (nex x)
            | _ => exact e
          clear e
          split at e5
          · cases e5
          · rename_i nb2
            cases e5
            refine ⟨_, _, o, e2, st2.rel, hg, fun S3 σ3 H3 st3 => ?_⟩
            have sf := st3.rel.forget (i := i) (x := none) (notB_of (by simpa using nb2))
            have fin := q _ _ _ ((st2.trans st3).trans sf)
            cases o with
            | nx => exact fin
            | ret r => exact fin
            | brk => exact fin
            | cnt => exact fin
            | ex x => exact absurd rfl (nex _)
    · rename_i hb
      obtain ⟨Ca, cn, hx⟩ := ht C false hb
      have r0 := r
      obtain ⟨Ca', cn', rfl, _⟩ := r0
      have hca := cn'.inj cn
      subst hca
      exact ⟨false, hx, fun h => absurd h (by decide), fun _ => pick_w rest ⟨o, e', rel, e, q⟩ r⟩
    · cases e
section
variable {X : Cx} {W : WX} {pos : Pos}
theorem ds_try {body : List Stmt} {h1 : ExceptHandler} {hds : List ExceptHandler} {f : SF} {cl : List Cl} {l : List ClE} (hN : X.N.Nodup) (tk : Takes X W)
    (hb : ∀ (W' : WX) (pn : List (Addr × Obj)) (xe : Value → Shared → Prop), Takes (X.tr pn xe) W' → PassesOwn (model X.prog X.w) X.A X.env xe → DB (X.tr pn xe) W' body f)
    (hc : ClsOk X (h1 :: hds) cl l) (hst : X.stack = X.env :: X.outer := by rfl) (hf : X.env.frame = some X.env.locals := by rfl) (hex : X.ex = [] := by rfl) : DS X W (.Try body (h1 :: hds) [] [] pos) (sTry f cl) := by
  refine ps_imp (ps_tryN (tb := fun W' => trS X.K W' f) hst hf hex hN tk (fun W' pn xe t p => hb W' pn xe t p) hc.hds) ?_
  rintro Dn σ H ⟨S, env, o, e', rel, e, q⟩
  unfold sTry at e
  refine ⟨S, env, ?_⟩
  cases hfe : f env with
  | none => rw [hfe] at e; cases e
  | some p =>
    obtain ⟨o1, e1⟩ := p
    rw [hfe] at e
    cases o1 with
    | ex x =>
      cases x with
      | own C fs =>
        dsimp only at e
        exact ⟨_, _, rel, hfe, fun S' σ' H' st cls dd r => pick_w hc ⟨o, e', st.rel, e, fun S2 σ2 H2 st2 => q S2 σ2 H2 (st.trans st2)⟩ r⟩
      | bi n => cases e
    | nx => cases e; exact ⟨_, _, rel, hfe, fun S' σ' H' st => q S' σ' H' st⟩
    | brk => cases e; exact ⟨_, _, rel, hfe, fun S' σ' H' st => q S' σ' H' st⟩
    | cnt => cases e; exact ⟨_, _, rel, hfe, fun S' σ' H' st => q S' σ' H' st⟩
    | ret r => cases e; exact ⟨_, _, rel, hfe, fun S' σ' H' st => q S' σ' H' st⟩
end
end Mir

namespace Mir
open PySem PySem.Spec PyProof.Rows L2
/-! ## an exception read: its fields, its class -/
section
open PySem.W PySem.Calls
variable {prog : Program} {w : World} {A : Around} {E : Value → Shared → Prop} {s : Shared} {K : Frag} {x C : Addr} {ox : Obj} {od : Option Obj}
theorem find_dat {nm : Str} {a g : Value} (hc : (clsIn K C).isSome = true) (ha : findIn K (.ref C) nm = some (some a)) (hg : specialIn K a "__get__" = some (some g)) (ht : takesIn K a = some true) : findObj K C od nm = some (.bind g a) := by
  obtain ⟨cd, e⟩ := Option.isSome_iff_exists.mp hc
  unfold findObj
  rw [e, Option.bind_some, ha, Option.bind_some]
  simp [hg, ht]
theorem cls_exc {Q : Option Value → Shared → Prop} (T : L2.ExcC K C) (X : K.In s.heap) (I : InstAt s.heap x ox C od) (h : Q (some (.ref C)) { s with toks := s.toks + 1 }) : wpAny (model prog w) A (getAttr? (.ref x) "__class__") Q E s := by
  have fnd : findObj K C od "__class__" = some (.bind (.builtin "getset_descriptor.__get__") (.builtin "object.__class__")) :=
    find_dat (by obtain ⟨cd, hc, _⟩ := any_some T.hd; rw [hc]; rfl) T.ha T.hn T.ht
  obtain ⟨hp, gs, dr, tk, os⟩ := s
  have lT := I.type (M := model prog w)
  have lG := looks_findIn (M := model prog w) X T.hg
  have lK := looks_findIn (M := model prog w) X T.hk
  have lF := looks_find (M := model prog w) X I fnd
  have lB : Looks (model prog w) hp (isInstance (.ref x) (.type "BaseException")) true := lT.andThen (looks_subIn X T.hs)
  have z2 : (Value.builtin "BaseException.__getattribute__" == Value.builtin "object.__getattribute__") = false := by decide +kernel
  have z1 : (onTheHeap (Value.ref C) && Value.builtin "BaseException.__getattribute__" == Value.builtin "object.__getattribute__") = false := by rw [z2] ; rfl
  have z0 : (false && onTheHeap (Value.builtin "BaseException.__getattribute__")) = false := by rfl
  unfold getAttr? getAttrBy? getAttrBy
  refine wpAny_bind (wpAny_mkText (wpAny_bind (wpAny_attempt (wpAny_holding (wpAny_bind (lT.at (wpAny_bind (lG.at ?_))))))))
  show wpAny _ _ (if (onTheHeap (Value.ref C) && Value.builtin "BaseException.__getattribute__" == Value.builtin "object.__getattribute__") = true then _ else _) _ _ _
  rw [z1, if_neg Bool.false_ne_true]
  unfold getAttrByItsOwn hookBefore
  refine wpAny_bind ?_
  rw [if_pos (show onTheHeap (Value.ref C) = true from rfl)]
  refine lK.at (wpAny_bind (wpAny_attempt (wpAny_holding ?_)))
  unfold callGetattribute
  rw [z0, if_neg Bool.false_ne_true]
  unfold boundAndCalled
  rw [PySem.F.excAttr_ValueError.ga.bind (.ref x)]
  refine wpAny_bind (wpAny_pure ?_)
  show wpAny _ _ (call (.builtin "BaseException.__getattribute__") [.ref x, .str "__class__" tk]) _ _ _
  refine wpAny_call (codeAny_call_builtin PySem.F.excAttr_ValueError.ga.plain PySem.F.entry_bexc_ga ?_)
  refine @check_slot (model prog w) _ _ ⟨hp, gs, dr, tk + 1, os⟩ "BaseException.__getattribute__" "BaseException" "__getattribute__" (.ref x) [.str "__class__" tk] [] _ (by decide +kernel) (by decide +kernel) lB (PySem.F.args_bexc_ga (.ref x) (.str "__class__" tk)) ?_
  unfold Builtin.«object.__getattribute__»
  refine wpAny_bind (wpAny_of_eq (a := ((Value.ref x : Value), [Value.str "__class__" tk])) (by first | rfl | (simp only [slotArgs]; rfl)) ?_)
  refine wpAny_bind (wpAny_pure (wpAny_bind (lT.at (wpAny_bind (lF.at ?_)))))
  show wpAny _ _ (holding [Value.builtin "object.__class__"] (call (.builtin "getset_descriptor.__get__") [.builtin "object.__class__", .ref x, .ref C]) >>= ret) _ _ _
  refine wpAny_bind (wpAny_holding (wpAny_call (class_get (s := ⟨hp, gs, dr, tk + 1, os⟩) (ox := ox) (od := od) X I T.hm (wpAny_pure ?_))))
  show wpAny _ _ (handedOut (.ref C)) _ _ _
  rw [handedOut_of (v := .ref C) rfl]
  first
    | exact wpAny_pure (wpAny_pure h)
    | exact wpAny_pure h
    | exact wpAny_pure (wpAny_bind (wpAny_pure (wpAny_pure h)))
theorem kitx_excD (T : L2.ExcC K C) : KitX K (.ref x) (.ref C) (fun h => ∃ ox od, InstAt h x ox C od) where
  ty := fun _ _ _ ⟨_, _, I⟩ => I.type
  it := fun _ _ X _ => by
    obtain ⟨cd, hC, _⟩ := any_some T.hd
    unfold clsIn at hC
    split at hC
    · rename_i c' d' cd' sl' ho
      intro A' Q' E' s' k q
      unfold isType loadHead
      exact wpAny_bind (wpAny_loadPart (k _ _ (X _ _ ho)) (wpAny_pure q))
    · cases hC
  ne := fun h tp dd its n sl X htp => by
    obtain ⟨cd, hC, _⟩ := any_some T.hd
    refine Bool.eq_false_iff.mpr fun q => ?_
    obtain rfl : C = tp := Value.ref.inj (beq_iff_eq.mp q)
    unfold clsIn at hC
    split at hC
    · rename_i c' d' cd' sl' ho
      cases (X _ _ ho).symm.trans htp
    · cases hC
  ca := fun X ⟨_, _, I⟩ k => cls_exc T X I k
end
/-- what stands at a tracked exception -/
theorem inst_of {P : Program} {w : World} {H : Hp} {h : Heap} {a d C : Addr} {fs : List (Str × V)} (hk : HOk P w H h) (e1 : H a = some (ExH (.ref C) (some d) a)) (e2 : H d = some (.xd fs)) :
    ∃ ox od, PySem.W.InstAt h a ox C (some od) ∧ ∃ mA : Str → Option Value, (∀ f, RelO (fs.lookup f) (mA f)) ∧ ∀ name, PySem.W.lookIn name od = some (mA name) := by
  have ha : ObjOk P w H h a (ExH (.ref C) (some d) a) := hk a _ e1
  have hd : ObjOk P w H h d (.xd fs) := hk d _ e2
  obtain ⟨⟨oe, vs, ge, gz, gd⟩, _, _⟩ := ha
  obtain ⟨mA, hns, hr⟩ := hd
  obtain ⟨od, ho, hl⟩ := lookIn_ns hns
  exact ⟨oe, od, ⟨ge, gz.1, by unfold PySem.W.notCls; rw [gd] <;> rfl, by rw [gz.2]; exact ho⟩, mA, hr, hl⟩
def tXfH (C : Addr) (f : Str) (te : TE) : TE := fun σ H Q => te σ H fun x H1 => ∃ (a d : Addr) (fs : List (Str × V)) (v : V), x = .ref a ∧ H1 a = some (ExH (.ref C) (some d) a) ∧ H1 d = some (.xd fs) ∧ fs.lookup f = some v ∧ Q v H1
theorem pe_xfH {X : Cx} {C : Addr} {e : Expr} {te : TE} {pos : Pos} {n : Str} (T : XfC X.K C) (hno : PySem.W.findIn X.K (.ref C) n = some none)
    (he : PE X e te) (hb : attributeBase e n X.env (eval e X.env) = eval e X.env) : PE X (.Attribute e n pos) (tXfH C n te) := by
  refine ⟨fun pins s σ H Q I h => ?_⟩
  refine attr_of hb (thn (he.run pins s σ H _ I h) fun u s1 hh => ?_)
  obtain ⟨x, H1, I1, rx, a, d, fs, v, ex, ea, ed, l, q⟩ := hh
  subst ex
  obtain rfl : u = Value.ref a := rx
  obtain ⟨ox, od, J, mA, hr, hl⟩ := inst_of I1.hok ea ed
  obtain ⟨u, hu, ru⟩ := RelO.some_of (v := v) (o := mA n) (by rw [← l]; exact hr n)
  exact HandSPX.exc_get I1.kIn J T.ga T.gg T.exC (PySem.W.findObj_own T.hdC hno rfl (by rw [hl, hu])) (handed_of ru) ⟨v, H1, I1.tok _, ru, q⟩
def rIsX (K : PySem.W.Frag) : List V → Hp → VK → Prop := fun xs H Q => ∃ (a d C : Addr) (fs : List (Str × V)) (c : V) (cv : Value) (b : Bool), xs = [.ref a, c] ∧ H a = some (ExH (.ref C) (some d) a) ∧ H d = some (.xd fs) ∧ L2.ExcC K C ∧ (∀ u, RelV c u → u = cv) ∧ PySem.W.kitOne K (.ref C) cv = some b ∧ Q (.bl b) H
theorem call_isX {X : Cx} : CallR X (.builtin "isinstance") (rIsX X.K) := by
  intro pins s σ H xs us Q I r h
  obtain ⟨a, d, C, fs, c, cv, b, rfl, ea, ed, T, hcv, e, q⟩ := h
  cases r with
  | cons rx rr =>
    cases rr with
    | cons rt rr =>
      cases rr
      cases rx
      have ec := hcv _ rt
      subst ec
      obtain ⟨ox, od, J, _⟩ := inst_of I.hok ea ed
      exact PySem.W.kia_one (kitx_excD T) I.kIn ⟨ox, some od, J⟩ e (fun z => nomatch z) fun tk => ⟨.bl b, H, I.kept (t' := tk) fun _ _ z => z, rfl, q⟩
end Mir

namespace Mir
open PySem PySem.Spec PyProof.Rows L2
section
variable {X : Cx} {W : WX} {p pos : Pos} {C : Str} {Ca : Addr}
/-! ## e.f of an exception -/
structure XFld (K : PySem.W.Frag) (C : Str) (Ca : Addr) (f : Str) : Prop where
  cn : ClsN K C Ca
  xf : XfC K Ca
  no : PySem.W.findIn K (.ref Ca) f = some none
def oXf (C f : Str) : D → Option D
  | .exc c gs => if c = C then gs.lookup f else none
  | _ => none
theorem de_xf {o : Expr} {fo : EF AV} {fl : Str} (T : XFld X.K C Ca fl) (ho : DV X W o fo) (hb : attributeBase o fl X.env (eval o X.env) = eval o X.env := by rfl) : DE X W (.Attribute o fl pos) (eBind fo fun a => eOn a (oXf C fl)) := by
  refine pe_imp (pe_xfH T.xf T.no ho hb) ?_
  rintro σ H Q ⟨S, env, z⟩
  refine ⟨S, env, (At.bind (R := RAv X.K) z).imp fun x H1 ⟨a, S1, e1, ra, st, z1⟩ => ?_⟩
  obtain ⟨d, y, r1, hy, rel, q⟩ := z1.on ra
  cases d with
  | exc c gs =>
    unfold oXf at hy
    dsimp only at hy
    split at hy
    · rename_i hc
      subst hc
      obtain ⟨Ca', a', dx, fs, cn, rfl, h1, h2, rf⟩ := r1
      have hca := cn.inj T.cn
      subst hca
      obtain ⟨v, hl, rv⟩ := repF_lookup rf hy
      exact ⟨a', dx, fs, v, rfl, h1, h2, hl, q S1 H1 rel.step v rv⟩
    · cases hy
  | _ => cases hy
/-! ## isinstance(e, C) of an exception -/
def SubX (K : PySem.W.Frag) (cv : Value) (cs : List (Str × Bool)) : Prop := ∀ c b, cs.lookup c = some b → ∃ Cc, ClsN K c Cc ∧ L2.ExcC K Cc ∧ PySem.W.kitOne K (.ref Cc) cv = some b
def oIsX (cs : List (Str × Bool)) : D → Option D
  | .exc c _ => (cs.lookup c).map .bl
  | _ => none
theorem de_isiX {a ce : Expr} {fa : EF AV} {cv : V} {cu : Value} (cs : List (Str × Bool)) (hm : X.mg "isinstance" = none) (h2 : PE X ce (tC cv)) (hcv : ∀ u, RelV cv u → u = cu) (hsub : SubX X.K cu cs) (ha : DV X W a fa) (hg : Gl X "isinstance" := by rfl)
    (he : starEach [a, ce] X.env = (false, eval a X.env) :: starEach [ce] X.env := by rfl) (he2 : starEach [ce] X.env = (false, eval ce X.env) :: starEach [] X.env := by rfl) (hpl : (backTo pos (starEach [ce] X.env)).any (·.1) = false := by rfl) :
    DE X W (.Call (.Name "isinstance" p) [a, ce] [] pos) (eBind fa fun a => eOn a (oIsX cs)) := by
  refine pe_imp (pe_callB call_isX hg hm PyProof.Rows.boot_isinstance (pa_cons ha (pa_cons h2 pa_nil he2) he) (he := he) (hpl := hpl)) ?_
  rintro σ H Q ⟨S, env, z⟩
  refine ⟨S, env, (At.bind (R := RAv X.K) z).imp fun x H1 ⟨a, S1, e1, ra, st, z1⟩ => ?_⟩
  obtain ⟨d, y, r1, hy, rel, q⟩ := z1.on ra
  cases d with
  | exc c gs =>
    unfold oIsX at hy
    obtain ⟨b, hb, rfl⟩ := Option.map_eq_some_iff.mp hy
    obtain ⟨Cc, cn, T, hk⟩ := hsub c b hb
    obtain ⟨Ca', a', dx, fs, cn', rfl, h1, h2, rf⟩ := r1
    have hca := cn'.inj cn
    subst hca
    exact ⟨a', dx, _, fs, cv, cu, b, rfl, h1, h2, T, hcv, hk, q S1 H1 rel.step _ rfl⟩
  | _ => cases hy
/-- the class named: one of the program's own, a built-in one -/
theorem cls_own {x : Str} (h : X.mg x = some (.ref Ca)) (hg : Gl X x := by rfl) (hdb : (x == ("__debug__" : Str)) = false := by decide) : PE X (.Name x p) (tC (.ref Ca)) := pe_glob hg h rfl hdb
theorem own_only : ∀ u, RelV (.ref Ca) u → u = .ref Ca := fun u h => h
theorem cls_bi {x : Str} {n : String} (hm : X.mg x = none) (hv : bootBuiltins x = some (.type n)) (hg : Gl X x := by rfl) (hn : x ≠ "__name__" := by decide) (hdb : (x == ("__debug__" : Str)) = false := by decide) : PE X (.Name x p) (tC (.ty n)) :=
  pe_bltn (v := .ty n) hg hm hv rfl hn hdb
theorem bi_only {n : String} : ∀ u, RelV (.ty n) u → u = .type n := fun u h => h
end
end Mir

namespace Mir
open PySem PySem.Spec PyProof.Rows L2
section
variable {X : Cx} {W : WX} {p pos pos1 : Pos}
/-! ## sorted({el for tg in it if ..}), texts -/
theorem df_srtSt {elt tg it : Expr} {ifs : List Expr} {sc : Scope} {own : List (Str × Nat)} {fi : EF (List D)} {tgt : TF} {tst : EF Bool} {el : EF D} (hm : X.mg "sorted" = none) (hc : X.calm = true) (hN : X.N.Nodup) (hi : DI X W tg it fi) (ok : BlkOk X.N X.env.scope sc own)
    (hg : ∀ (s : Shared) (H : Hp) (C : Addr) (cl : List (Str × Addr)) (fp : List Addr), DGv (X.blk s H sc (compEnvC sc cl C X.env) fp) (own.map (·.2)) tg tgt)
    (ht : ∀ (s : Shared) (H : Hp) (C : Addr) (cl : List (Str × Addr)) (fp : List Addr), DTs (X.blk s H sc (compEnvC sc cl C X.env) fp) W0 ifs tst)
    (he : ∀ (s : Shared) (H : Hp) (C : Addr) (cl : List (Str × Addr)) (fp : List Addr), DE (X.blk s H sc (compEnvC sc cl C X.env) fp) W0 elt el) (hs : ∀ x, foldedSetIterable it X.env x = pure x := by intro _; rfl)
    (hgl : Gl X "sorted" := by rfl) (hst : starEach [.SetComp elt [⟨tg, it, ifs, 0⟩] sc pos1] X.env = (false, eval (.SetComp elt [⟨tg, it, ifs, 0⟩] sc pos1) X.env) :: starEach [] X.env := by rfl) :
    DF X W (.Call (.Name "sorted" p) [.SetComp elt [⟨tg, it, ifs, 0⟩] sc pos1] [] pos) (eSrtSt (own.map (·.2)) fi tgt tst el) := by
  refine pe_imp (pe_callB (cr_sortT hc) hgl hm (by decide +kernel) (pa_cons (pe_st (pos := pos1) (g := trGv (List.map (fun p : Str × Nat => p.2) own) X.K tgt) (tt := tr X.K W0 RB tst) (te := tr X.K W0 (RD X.K) el) hc hN hi ok hg ht he hs) pa_nil hst) (he := hst)) ?_
  intro σ H Q h
  exact st_tr h
/-! ## dicts, read -/
def keyD : D → Option Key
  | .int i => some (.inl i)
  | .str x => some (.inr x)
  | _ => none
def lookD : List (Key × D) → Key → Option D
  | [], _ => none
  | (j, d) :: r, k => if j = k then some d else lookD r k
def oDGet (d k : D) : Option D := match d, keyD k with
  | .dK kvs, some j => lookD kvs j
  | _, _ => none
def oDIn (k d : D) : Option D := match d, keyD k with
  | .dK kvs, some j => some (.bl (lookD kvs j).isSome)
  | _, _ => none
def oDNotIn (k d : D) : Option D := match d, keyD k with
  | .dK kvs, some j => some (.bl (!(lookD kvs j).isSome))
  | _, _ => none
theorem keyD_v {K : PySem.W.Frag} {S H : Hp} {d : D} {k : Key} {v : V} (h : keyD d = some k) (r : Rep1 K S H d v) : v = L2.kV k := by
  cases d with
  | int i => cases h; exact r
  | str x => cases h; exact r.1
  | _ => cases h
theorem keyD_r {K : PySem.W.Frag} {S : Hp} {d : D} {k : Key} {v : V} (h : keyD d = some k) (r : Rep K S d v) : v = L2.kV k := by
  cases d with
  | int i => cases h; exact r
  | str x => cases h; exact r.1
  | _ => cases h
theorem lookD_some {K : PySem.W.Frag} {S : Hp} {k : Key} {d : D} : ∀ {kds : List (Key × D)} {kvs : List (Key × V)}, RepK K S kds kvs → lookD kds k = some d → ∃ v, valV kvs k = some v ∧ Rep K S d v
  | [], _, _, h => by cases h
  | (j, x) :: ds, _, r, h => by
    obtain ⟨v, rs, rfl, r1, r2⟩ := r
    unfold lookD at h
    by_cases e : j = k
    · rw [if_pos e] at h
      cases h
      exact ⟨v, valV_pos e, r1⟩
    · rw [if_neg e] at h
      obtain ⟨w, q1, q2⟩ := lookD_some r2 h
      exact ⟨w, by rw [valV_neg e]; exact q1, q2⟩
theorem lookD_none {K : PySem.W.Frag} {S : Hp} {k : Key} : ∀ {kds : List (Key × D)} {kvs : List (Key × V)}, RepK K S kds kvs → lookD kds k = none → valV kvs k = none
  | [], _, r, _ => by cases r; rfl
  | (j, x) :: ds, _, r, h => by
    obtain ⟨v, rs, rfl, r1, r2⟩ := r
    unfold lookD at h
    by_cases e : j = k
    · rw [if_pos e] at h; cases h
    · rw [if_neg e] at h
      rw [valV_neg e]
      exact lookD_none r2 h
theorem lookD_is {K : PySem.W.Frag} {S : Hp} {k : Key} {kds : List (Key × D)} {kvs : List (Key × V)} (r : RepK K S kds kvs) : (lookD kds k).isSome = (valV kvs k).isSome := by
  cases h : lookD kds k with
  | none => rw [lookD_none r h]; rfl
  | some d => obtain ⟨v, q, _⟩ := lookD_some r h; rw [q]; rfl
def rDGet : R2 := fun x y H Q => ∃ a w, x = .ref a ∧ DGet H a y (some w) ∧ Q w H
def rDIn (neg : Bool) : R2 := fun y x H Q => ∃ a o, x = .ref a ∧ DGet H a y o ∧ Q (.bl (if neg then !o.isSome else o.isSome)) H
theorem ix_dict (hu : X.A.units + 1 < cLine) : IxR X rDGet := by
  rintro value slice pins s σ H x y v u Q I rx ry ⟨a, w, rfl, g, q⟩ hs
  obtain rfl : v = Value.ref a := rx
  unfold subscriptTail
  refine wpAny_bind ?_
  rw [getitemInPython_of_ne (dict_typeIs I g).not_modules]
  refine wpAny_bind (wpAny_specialOf (dict_typeIs I g) PySem.F.slot_dict_getitem.lookup ?_)
  have last : wpAny (model X.prog X.w) X.A (subscripted slice false (.ref a) u) (fun r t => wpAny (model X.prog X.w) X.A (letTemporaryGo value (.ref a) r >>= fun _ => pure r) (EP X pins σ Q) X.xe t) X.xe s := by
    rw [hs]
    exact wpAny_operating (d_getItem hu I g ry fun w' t J rw' => wpAny_bind (wpAny_letTemporaryGo (wpAny_pure ⟨w, H, J, rw', q⟩)))
  first
    | exact wpAny_pure (wpAny_bind last)
    | exact wpAny_bind (wpAny_pure (wpAny_bind last))
    | exact wpAny_bind last
theorem op_dictIn (hu : X.A.units + 1 < cLine) : OpR X (compareOp .In) (rDIn false) := by
  rintro pins s σ H x y v u Q I rx ry ⟨a, o, rfl, g, q⟩
  obtain rfl : u = Value.ref a := ry
  exact d_in hu I g rx fun t J => ⟨.bl o.isSome, H, J, rfl, q⟩
theorem op_dictNotIn (hu : X.A.units + 1 < cLine) : OpR X (compareOp .NotIn) (rDIn true) := by
  rintro pins s σ H x y v u Q I rx ry ⟨a, o, rfl, g, q⟩
  obtain rfl : u = Value.ref a := ry
  exact d_notIn hu I g rx fun t J => ⟨.bl (!o.isSome), H, J, rfl, q⟩
theorem ok_dget {K : PySem.W.Frag} : OpOk K rDGet oDGet := by
  intro S env σ H Q d d' v u x rel r1 r2 e q
  unfold oDGet at e
  split at e
  · rename_i kvs j hk
    obtain ⟨a, vs, rfl, hrd, hl, rk⟩ := r1
    obtain ⟨w, q1, q2⟩ := lookD_some rk e
    exact ⟨a, w, rfl, .inl ⟨vs, j, hrd, keyD_v hk r2, q1.symm⟩, q S H rel.step w q2⟩
  · cases e
theorem ok_din {K : PySem.W.Frag} : OpOk K (rDIn false) oDIn := by
  intro S env σ H Q d d' v u x rel r1 r2 e q
  unfold oDIn at e
  split at e
  · rename_i kvs j hk
    cases e
    obtain ⟨a, vs, rfl, hrd, hl, rk⟩ := r2
    refine ⟨a, valV vs j, rfl, .inl ⟨vs, j, hrd, keyD_v hk r1, rfl⟩, ?_⟩
    exact q S H rel.step _ (by show _ = _; rw [lookD_is rk]; rfl)
  · cases e
theorem ok_dnotin {K : PySem.W.Frag} : OpOk K (rDIn true) oDNotIn := by
  intro S env σ H Q d d' v u x rel r1 r2 e q
  unfold oDNotIn at e
  split at e
  · rename_i kvs j hk
    cases e
    obtain ⟨a, vs, rfl, hrd, hl, rk⟩ := r2
    refine ⟨a, valV vs j, rfl, .inl ⟨vs, j, hrd, keyD_v hk r1, rfl⟩, ?_⟩
    exact q S H rel.step _ (by show _ = _; rw [lookD_is rk]; rfl)
  · cases e
/-! ## x in a tuple of flat things -/
def flD : D → Option V
  | .non => some .non
  | .bl b => some (.bl b)
  | .int i => some (.int i)
  | .str x => some (.str x)
  | _ => none
def flDs : List D → Option (List V)
  | [] => some []
  | d :: r => match flD d, flDs r with
    | some v, some vs => some (v :: vs)
    | _, _ => none
theorem flD_v {K : PySem.W.Frag} {S : Hp} {d : D} {v w : V} (h : flD d = some v) (r : Rep K S d w) : w = v ∧ flatV v = true := by
  cases d with
  | non => cases h; exact ⟨r, rfl⟩
  | bl b => cases h; exact ⟨r, rfl⟩
  | int i => cases h; exact ⟨r, rfl⟩
  | str x => cases h; exact ⟨r.1, rfl⟩
  | _ => cases h
theorem flD_1 {K : PySem.W.Frag} {S H : Hp} {d : D} {v w : V} (h : flD d = some v) (r : Rep1 K S H d w) : w = v ∧ flatV v = true := by
  cases d with
  | non => cases h; exact ⟨r, rfl⟩
  | bl b => cases h; exact ⟨r, rfl⟩
  | int i => cases h; exact ⟨r, rfl⟩
  | str x => cases h; exact ⟨r.1, rfl⟩
  | _ => cases h
theorem flDs_v {K : PySem.W.Frag} {S : Hp} : ∀ {ds : List D} {vs ws : List V}, flDs ds = some vs → Reps K S ds ws → ws = vs ∧ vs.all flatV = true
  | [], _, _, h, r => by cases h; exact ⟨r, rfl⟩
  | d :: ds, _, _, h, r => by
    unfold flDs at h
    split at h
    · rename_i v vs h1 h2
      cases h
      obtain ⟨w, rs, rfl, r1, r2⟩ := r
      obtain ⟨rfl, f1⟩ := flD_v h1 r1
      obtain ⟨rfl, f2⟩ := flDs_v h2 r2
      exact ⟨rfl, by rw [List.all_cons, f1, f2]; rfl⟩
    · cases h
def oInT (neg : Bool) (d c : D) : Option D := match c with
  | .tup ds => match flD d, flDs ds with
    | some v, some vs => some (.bl (if neg then !inV v vs else inV v vs))
    | _, _ => none
  | _ => none
theorem ok_inT {K : PySem.W.Frag} {neg : Bool} : OpOk K (rIn K neg) (oInT neg) := by
  intro S env σ H Q d d' v u x rel r1 r2 e q
  unfold oInT at e
  split at e
  · split at e
    · rename_i ds w ws h1 h2
      cases e
      obtain ⟨a, vs, rfl, ht, hl, hlen, rr, _⟩ := r2
      obtain ⟨rfl, f1⟩ := flD_1 h1 r1
      obtain ⟨rfl, f2⟩ := flDs_v h2 rr
      exact ⟨a, vs, rfl, .inr ht.sq, f1, f2, q S H rel.step _ rfl⟩
    · cases e
  · cases e
/-! ## all of in -/
def oIn4 (d c : D) : Option D := match (match oIn d c with
  | some x => some x
  | none => oInT false d c) with
  | some x => some x
  | none => oDIn d c
def oNotIn4 (d c : D) : Option D := match (match oNotIn d c with
  | some x => some x
  | none => oInT true d c) with
  | some x => some x
  | none => oDNotIn d c
theorem c_in4 (r : RoomL X.A) : CmpR X .In oIn4 := ⟨_, OpR.or (OpR.or (op_in2 (by have := r.un; omega)) op_in_seq) (op_dictIn (by have := r.un; omega)), OpOk.or (OpOk.or ok_in2 ok_inT) ok_din⟩
theorem c_notin4 (r : RoomL X.A) : CmpR X .NotIn oNotIn4 := ⟨_, OpR.or (OpR.or (op_notInD (by have := r.un; omega)) op_notIn_seq) (op_dictNotIn (by have := r.un; omega)), OpOk.or (OpOk.or ok_notInL ok_inT) ok_dnotin⟩
/-! ## all of a[b] -/
def oIx4 (d c : D) : Option D := match oIx d c with
  | some x => some x
  | none => oDGet d c
theorem de_ix4 {a b : Expr} {fa fb : EF AV} (r : RoomL X.A) (ha : DV X W a fa) (hb : DV X W b fb) (hs : PlainIx b := by exact fun _ _ => rfl) : DE X W (.Subscript a b pos) (e2 fa fb fun x y => eOn2 x y oIx4) := by
  refine pe_imp (pe_ix (IxR.or ix3 (ix_dict (by have := r.un; omega))) ha hb hs) ?_
  rintro σ H Q ⟨S, env, z⟩
  refine ⟨S, env, (At.bind (R := RAv X.K) z).imp fun vx H1 ⟨x, S1, e1, rx, st, z1⟩ => ?_⟩
  refine ⟨S1, e1, (At.bind (R := RAv X.K) z1).imp fun vy H2 ⟨y, S2, e2, ry, st2, z2⟩ => ?_⟩
  obtain ⟨d, d', w, r1, r2, e, rel, q⟩ := z2.on2 (rx.mono st2.nle) ry
  exact (OpOk.or ok_ix ok_dget) S2 e2 σ H2 Q d d' vx vy w rel r1 r2 e q
end
end Mir

namespace Mir
open PySem PySem.Spec PyProof.Rows L2
/-! ## a deep dict is locked for good, so that it may be walked -/
section
variable {K : PySem.W.Frag} {W : WX} {S : SS} {env : ME} {σ : St} {H : Hp}
theorem Rel.lock (r : Rel K S env σ H) {a : Addr} {kvs : List (Key × V)} {od : Obj} (h : S.hp a = some (.dK kvs)) : Step K S env σ H (S.up a (.frz od (.dK kvs))) env σ (upd H a (.frz od (.dK kvs))) := by
  have oth : ∀ {b : Addr} {o : HO}, S.hp b = some o → o ≠ .dK kvs → (upd S.hp a (.frz od (.dK kvs))) b = some o := fun {b o} e n => by
    rw [upd_ne (fun z => by subst z; rw [h] at e; cases e; exact n rfl)]
    exact e
  have le : Le S.hp (upd S.hp a (.frz od (.dK kvs))) := by
    refine ⟨fun b xs e => oth e (by simp), fun b xs e => oth e (by simp), fun b ks e => ?_, fun b C dx fs e => oth e (by simp), fun b o u e => oth e (by simp), fun b p e => oth e (by simp), fun b fs e => oth e (by simp)⟩
    rcases e with e | ⟨o, e⟩
    · by_cases hb : b = a
      · subst hb
        rw [h] at e
        cases e
        exact .inr ⟨od, upd_same⟩
      · exact .inl (by rw [upd_ne hb]; exact e)
    · exact .inr ⟨o, oth e (by simp)⟩
  have ln : LeN S (S.up a (.frz od (.dK kvs))) := ⟨le, fun _ _ h => h⟩
  refine ⟨⟨r.len, r.nlen, fun b u e => ?_, fun i d e => ?_, r.hnd, fun i m e => ?_, fun l l' m m' b h1 h2 h3 h4 => r.dis l l' m m' b h1 h2 h3.dn h4.dn⟩, le, fun _ _ h => h, fun b hb => ?_, fun b o e hS _ => ?_, fun i m e => ⟨⟨m, e⟩, rfl⟩, fun i m e => ⟨m, e⟩, fun b ⟨l, m, e1, e2⟩ => .inl ⟨l, m, e1, e2.dn⟩, rfl, fun b hb => ?_⟩
  · have e : upd S.hp a _ b = some u := e
    by_cases hb : b = a
    · subst hb; rw [upd_same] at e ⊢; exact e
    · rw [upd_ne hb] at e ⊢; exact r.sub b u e
  · obtain ⟨v, e1, e2⟩ := r.val i d e
    exact ⟨v, e1, Rep.mono le _ _ e2⟩
  · obtain ⟨b, o, e1, e2, e3, e4⟩ := r.obj i m e
    have hb : b ≠ a := fun z => by subst z; rw [h] at e3; cases e3
    exact ⟨b, o, e1.up, by rw [upd_ne hb]; exact e2, by show upd S.hp a _ b = none; rw [upd_ne hb]; exact e3, e4.mono ln⟩
  · have hb : upd S.hp a _ b ≠ none := hb
    by_cases hb' : b = a
    · subst hb'; exact .inl (by rw [h]; simp)
    · rw [upd_ne hb'] at hb; exact .inl hb
  · rw [upd_ne (fun z => by subst z; rw [h] at hS; cases hS)]; exact e
  · show upd S.hp a _ b ≠ none
    by_cases hb' : b = a
    · subst hb'; rw [upd_same]; simp
    · rw [upd_ne hb']; exact hb
end
/-- .. a dict among them is locked -/
def RDL (K : PySem.W.Frag) : RR D V := fun _ S d v => Rep K S d v ∧ ∀ kds, d = .dK kds → ∃ a o kvs, v = .ref a ∧ S a = some (.frz o (.dK kvs)) ∧ RepK K S kds kvs
theorem pe_lk {X : Cx} {W : WX} {e : Expr} {f : EF D} (h : DE X W e f) : PE X e (tr X.K W (RDL X.K) f) := by
  refine ⟨fun pins s σ H Q I ⟨S, env, r, env', rel, ef, q⟩ => ?_⟩
  cases r with
  | ex x => exact PE.run h pins s σ H Q I ⟨S, env, .ex x, env', rel, ef, q⟩
  | ok d =>
    refine thn (PE.run h pins s σ H (fun v H1 => ∃ S1, Step X.K S env σ H S1 env' σ H1 ∧ Rep X.K S1 d v) I ⟨S, env, .ok d, env', rel, ef, fun S1 H1 st v rv => ⟨S1, st, rv⟩⟩) fun u s1 ⟨x, H1, I1, rx, S1, st, rd⟩ => ?_
    have easy : (∀ kds, d ≠ .dK kds) → EP X pins σ Q u s1 := fun nd => ⟨x, H1, I1, rx, q S1 H1 st x ⟨rd, fun kds e => absurd e (nd kds)⟩⟩
    cases d with
    | dK kds =>
      have rd0 := rd
      obtain ⟨a, kvs, rfl, hrd, hl, rk⟩ := rd
      rcases hrd with hrd | ⟨o, hrd⟩
      · obtain ⟨od, I2⟩ := I1.lock (st.rel.sub _ _ hrd) (by trivial)
        have sl := st.rel.lock (od := od) hrd
        exact ⟨.ref a, _, I2, rx, q _ _ (st.trans sl) _ ⟨Rep.mono sl.le _ _ rd0, fun kds' e => by cases e; exact ⟨a, od, kvs, rfl, upd_same, RepK.mono sl.le _ _ rk⟩⟩⟩
      · exact ⟨.ref a, H1, I1, rx, q S1 H1 st _ ⟨rd0, fun kds' e => by cases e; exact ⟨a, o, kvs, rfl, hrd, rk⟩⟩⟩
    | _ => exact easy (fun _ e => by cases e)
/-! ## for k in d, d.items(), d.values() -/
def keyOf : Key → D
  | .inl i => .int i
  | .inr x => .str x
/-- the keys are texts that fit -/
def keysOk (kds : List (Key × D)) : Bool := kds.all fun p => match p.1 with
  | .inl _ => true
  | .inr x => decide (x.length ≤ sizeLine)
theorem keyOf_rep {K : PySem.W.Frag} {S : Hp} {k : Key} (h : (match k with
  | .inl _ => true
  | .inr x => decide (x.length ≤ sizeLine)) = true) : Rep K S (keyOf k) (L2.kV k) := by
  cases k with
  | inl i => rfl
  | inr x => exact ⟨rfl, of_decide_eq_true h⟩
theorem repK_at {K : PySem.W.Frag} {S : Hp} : ∀ {kds : List (Key × D)} {kvs : List (Key × V)} {i : Nat} {k : Key} {v : V}, RepK K S kds kvs → kvs[i]? = some (k, v) → ∃ d, kds[i]? = some (k, d) ∧ Rep K S d v
  | [], _, i, k, v, r, h => by cases r; simp at h
  | (j, x) :: ds, _, 0, k, v, r, h => by
    obtain ⟨w, rs, rfl, r1, r2⟩ := r
    simp at h
    obtain ⟨rfl, rfl⟩ := h
    exact ⟨x, rfl, r1⟩
  | (j, x) :: ds, _, i + 1, k, v, r, h => by
    obtain ⟨w, rs, rfl, r1, r2⟩ := r
    simp only [List.getElem?_cons_succ] at h ⊢
    exact repK_at r2 h
section
variable {K : PySem.W.Frag} {S : SS} {a : Addr} {o : Obj} {kds : List (Key × D)} {kvs : List (Key × V)}
theorem itOk_keys (hk : keysOk kds = true) (h : S a = some (.frz o (.dK kvs))) (r : RepK K S kds kvs) : ItOk K S (Itk a o kvs) (kds.map fun p => keyOf p.1) := by
  have hl := repK_len r
  refine ItOk.still (G := fun H => H a = some (.frz o (.dK kvs))) (by rw [List.length_map, hl]; exact walk_keys) (fun S' H le sm => sm _ _ (le.frz _ _ _ h)) ?_
  rintro i S' H x H' le ⟨e, k, v, h1, rfl⟩
  obtain ⟨d, e1, e2⟩ := repK_at r h1
  refine ⟨e, keyOf k, by rw [List.getElem?_map, e1]; rfl, keyOf_rep ?_⟩
  exact List.all_eq_true.mp hk (k, d) (List.mem_of_getElem? e1)
theorem itOk_vals (h : S a = some (.frz o (.dK kvs))) (r : RepK K S kds kvs) : ItOk K S (Itd a o kvs) (kds.map fun p => p.2) := by
  have hl := repK_len r
  refine ItOk.still (G := fun H => H a = some (.frz o (.dK kvs))) (by rw [List.length_map, hl]; exact walk_values) (fun S' H le sm => sm _ _ (le.frz _ _ _ h)) ?_
  rintro i S' H x H' le ⟨e, k, h1⟩
  obtain ⟨d, e1, e2⟩ := repK_at r h1
  exact ⟨e, d, by rw [List.getElem?_map, e1]; rfl, Rep.mono le _ _ e2⟩
theorem itOk_items (hk : keysOk kds = true) (h : S a = some (.frz o (.dK kvs))) (r : RepK K S kds kvs) : ItOk K S (Iti a o kvs) (kds.map fun p => .tup [keyOf p.1, p.2]) := by
  have hl := repK_len r
  refine ItOk.pairs (G := fun H => H a = some (.frz o (.dK kvs))) (fx := fun i => kvs[i]?.map fun kv => L2.kV kv.1) (fy := fun i => kvs[i]?.map Prod.snd) (by rw [List.length_map, hl]; exact walk_items) (fun S' H le sm => sm _ _ (le.frz _ _ _ h)) ?_
  intro i S' x y le h1 h2
  obtain ⟨⟨k, v⟩, e1, rfl⟩ := Option.map_eq_some_iff.mp h1
  rw [e1] at h2
  have h2' : v = y := by simpa using h2
  subst h2'
  obtain ⟨d, e2, e3⟩ := repK_at r e1
  exact ⟨keyOf k, d, by rw [List.getElem?_map, e2]; rfl, keyOf_rep (List.all_eq_true.mp hk (k, d) (List.mem_of_getElem? e2)), Rep.mono le _ _ e3⟩
end
def oIter4 : D → EF (List D)
  | .tup ds => eRet ds
  | .lst ds => eRet ds
  | .frl ds => eRet ds
  | .str x => eRet (signs x)
  | .dK kds => if keysOk kds = true then eRet (kds.map fun p => keyOf p.1) else fun _ => none
  | _ => fun _ => none
def eOf4 (f : EF D) : EF (List D) := eBind f oIter4
section
variable {X : Cx} {W : WX} {pos apos cpos : Pos} {tg : Expr}
theorem di_val4 {e : Expr} {f : EF D} (he : DE X W e f) : DI X W tg e (eOf4 f) := by
  refine ⟨fun pins s σ H R I h => ?_⟩
  obtain ⟨S, env, h⟩ := h
  refine thn (PE.run (pe_lk he) pins s σ H _ I ⟨S, env, At.bind (R := RDL X.K) h⟩) fun v s1 ⟨x, H1, I1, r1, d, S1, env1, ⟨rd, lk⟩, st, z⟩ => ?_
  cases d with
  | tup ds =>
    obtain ⟨a, vs, rfl, hq, l, rr⟩ := rd
    cases r1
    obtain ⟨its, rv, p, hz⟩ := I1.tuple ((Le.of st.rel.sub).tupAt hq).sq
    exact wpAny_pyIter_tuple (show s1.heap.IsTuple a its.toArray from p) (pi_one (tk := s1.toks) I1 _ (turn_tuple a _) ⟨_, Heap.get?_push_size _ rfl, rfl, rfl⟩ (z.ret (itOk_tup hq rr)))
  | lst ds =>
    obtain ⟨a, vs, rfl, hq, l, rr⟩ := rd
    cases r1
    have hq' : SqL X.K S1 a vs := .inl (.inl hq)
    obtain ⟨its, rv, p, hz⟩ := I1.list ((Le.of st.rel.sub).sqL hq')
    exact wpAny_pyIter_list p.isList (pi_one (tk := s1.toks) I1 _ (turn_list a _) ⟨_, Heap.get?_push_size _ rfl, rfl, rfl⟩ (z.ret (itOk_list hq' rr)))
  | frl ds =>
    obtain ⟨a, vs, rfl, hq, l, rr⟩ := rd
    cases r1
    obtain ⟨its, rv, p, hz⟩ := I1.list ((Le.of st.rel.sub).sqL hq)
    exact wpAny_pyIter_list p.isList (pi_one (tk := s1.toks) I1 _ (turn_list a _) ⟨_, Heap.get?_push_size _ rfl, rfl, rfl⟩ (z.ret (itOk_list hq rr)))
  | dK kds =>
    obtain ⟨a, o, kvs, rfl, hf, rk⟩ := lk kds rfl
    cases r1
    unfold oIter4 at z
    dsimp only at z
    split at z
    · rename_i hk
      have q := z.ret (itOk_keys hk hf rk)
      obtain ⟨hs, hgd, hx, es, ep, vs, hdt, hsz, kv, hm⟩ := I1.frzK (st.rel.sub _ _ hf)
      refine iter_keys hs hgd hx hdt (pi_one (tk := s1.toks) I1 _ (turn_keys _ hdt) ⟨_, Heap.get?_push_size _ rfl, rfl, ?_⟩ q)
      rw [hsz] <;> rfl
    · exact (z.none rfl).elim
  | str y =>
    obtain ⟨rfl, hl⟩ := rd
    obtain ⟨t, rfl⟩ := r1
    have q := z.ret (itOk_str (K := X.K) (S := S1) (x := y))
    cases ha : y.cps.all (· < 128)
    · exact wpAny_pyIter_wide ha (pi_one (tk := s1.toks) I1 _ (turn_str _ y t "str_iterator" (.inr rfl)) ⟨_, Heap.get?_push_size _ rfl, rfl, rfl⟩ q)
    · exact wpAny_pyIter_ascii ha (pi_one (tk := s1.toks) I1 _ (turn_str _ y t "str_ascii_iterator" (.inl rfl)) ⟨_, Heap.get?_push_size _ rfl, rfl, rfl⟩ q)
  | _ => exact (z.none rfl).elim
def gItems : D → EF (List D)
  | .dK kds => if keysOk kds = true then eRet (kds.map fun p => .tup [keyOf p.1, p.2]) else fun _ => none
  | _ => fun _ => none
def gVals : D → EF (List D)
  | .dK kds => eRet (kds.map fun p => p.2)
  | _ => fun _ => none
theorem di_items {e : Expr} {f : EF D} {elts : List Expr} {kk : Nat} {tpos : Pos} (he : DE X W e f) (hbase : attributeBase e "items" X.env (eval e X.env) = eval e X.env := by rfl) (hline : (apos.endLine == cpos.line) = true := by rfl) :
    DI X W (.Tuple elts kk tpos) (.Call (.Attribute e "items" apos) [] [] cpos) (eBind f gItems) := by
  refine pi_imp (pi_items (pe_lk he) hbase hline) ?_
  rintro σ H R ⟨S, env, z⟩
  refine ⟨S, env, (At.bind (R := RDL X.K) z).imp fun x H1 ⟨d, S1, e1, ⟨rd, lk⟩, st, z1⟩ => ?_⟩
  cases d with
  | dK kds =>
    obtain ⟨a, o, kvs, rfl, hf, rk⟩ := lk kds rfl
    unfold gItems at z1
    dsimp only at z1
    split at z1
    · rename_i hk
      exact ⟨a, o, kvs, rfl, st.rel.sub _ _ hf, z1.ret (itOk_items hk hf rk)⟩
    · exact (z1.none rfl).elim
  | _ => exact (z1.none rfl).elim
theorem di_values {e : Expr} {f : EF D} (he : DE X W e f) (hbase : attributeBase e "values" X.env (eval e X.env) = eval e X.env := by rfl) (hline : (apos.endLine == cpos.line) = true := by rfl) :
    DI X W tg (.Call (.Attribute e "values" apos) [] [] cpos) (eBind f gVals) := by
  refine pi_imp (pi_values (pe_lk he) hbase hline) ?_
  rintro σ H R ⟨S, env, z⟩
  refine ⟨S, env, (At.bind (R := RDL X.K) z).imp fun x H1 ⟨d, S1, e1, ⟨rd, lk⟩, st, z1⟩ => ?_⟩
  cases d with
  | dK kds =>
    obtain ⟨a, o, kvs, rfl, hf, rk⟩ := lk kds rfl
    exact ⟨a, o, kvs, rfl, st.rel.sub _ _ hf, z1.ret (itOk_vals hf rk)⟩
  | _ => exact (z1.none rfl).elim
end
end Mir

namespace Mir
open PySem PySem.Spec PyProof.Rows L2
/-! ## d[k] = v -/
def putM (kds : List (Key × D)) (k : Key) (d : D) : List (Key × D) := if (kds.any fun p => decide (p.1 = k)) = true then kds.map (fun p => if p.1 = k then (p.1, d) else p) else kds ++ [(k, d)]
theorem repK_any {K : PySem.W.Frag} {S : Hp} {k : Key} : ∀ {kds : List (Key × D)} {kvs : List (Key × V)}, RepK K S kds kvs → (kds.any fun p => decide (p.1 = k)) = (kvs.any fun p => decide (p.1 = k))
  | [], _, r => by cases r; rfl
  | (j, x) :: ds, _, r => by
    obtain ⟨w, rs, rfl, r1, r2⟩ := r
    rw [List.any_cons, List.any_cons, repK_any r2]
theorem repK_map {K : PySem.W.Frag} {S : Hp} {k : Key} {d : D} {v : V} (h : Rep K S d v) : ∀ {kds : List (Key × D)} {kvs : List (Key × V)}, RepK K S kds kvs → RepK K S (kds.map fun p => if p.1 = k then (p.1, d) else p) (kvs.map fun p => if p.1 = k then (p.1, v) else p)
  | [], _, r => by cases r; rfl
  | (j, x) :: ds, _, r => by
    obtain ⟨w, rs, rfl, r1, r2⟩ := r
    rw [List.map_cons, List.map_cons]
    by_cases e : j = k
    · rw [if_pos e, if_pos e]; exact ⟨v, _, rfl, h, repK_map h r2⟩
    · rw [if_neg e, if_neg e]; exact ⟨w, _, rfl, r1, repK_map h r2⟩
theorem repK_snoc {K : PySem.W.Frag} {S : Hp} {k : Key} {d : D} {v : V} (h : Rep K S d v) : ∀ {kds : List (Key × D)} {kvs : List (Key × V)}, RepK K S kds kvs → RepK K S (kds ++ [(k, d)]) (kvs ++ [(k, v)])
  | [], _, r => by cases r; exact ⟨v, [], rfl, h, rfl⟩
  | (j, x) :: ds, _, r => by
    obtain ⟨w, rs, rfl, r1, r2⟩ := r
    exact ⟨w, _, rfl, r1, repK_snoc h r2⟩
theorem repK_put {K : PySem.W.Frag} {S : Hp} {k : Key} {d : D} {v : V} {kds : List (Key × D)} {kvs : List (Key × V)} (h : Rep K S d v) (r : RepK K S kds kvs) : RepK K S (putM kds k d) (putK kvs k v) := by
  unfold putM putK
  rw [repK_any r]
  split
  · exact repK_map h r
  · exact repK_snoc h r
theorem putM_len (kds : List (Key × D)) (k : Key) (d : D) : (putM kds k d).length ≤ kds.length + 1 := by
  unfold putM
  split
  · rw [List.length_map]; omega
  · simp
section
variable {X : Cx} {W : WX} {pos : Pos}
def rSetD : TSet := fun o i v H Q => ∃ a H4, o = .ref a ∧ DPut H a i v H4 ∧ Q H4
theorem set_dict (hu : X.A.units + 1 < cLine) : PSet X rSetD := by
  rintro pins s σ H o i v ov iv u Q I ro ri rv ⟨a, H4, rfl, g, q⟩
  obtain rfl : ov = Value.ref a := ro
  exact d_setItem hu I g ri rv fun t J => ⟨H4, J, q⟩
theorem PSet.or {r r' : TSet} (h : PSet X r) (h' : PSet X r') : PSet X (fun o i v H Q => r o i v H Q ∨ r' o i v H Q) := by
  intro pins s σ H o i v ov iv u Q I ro ri rv q
  rcases q with q | q
  · exact h pins s σ H o i v ov iv u Q I ro ri rv q
  · exact h' pins s σ H o i v ov iv u Q I ro ri rv q
def isObj (env : ME) (i : Nat) : Bool := match env.sl[i]? with
  | some (some (.o _)) => true
  | some (some (.b _)) => true
  | _ => false
theorem isObj_has {env : ME} {i : Nat} (h : isObj env i = true) : ∃ s m, env.sl[i]? = some (some s) ∧ s.mo = some m := by
  unfold isObj at h
  split at h
  · rename_i m e; exact ⟨_, m, e, rfl⟩
  · rename_i m e; exact ⟨_, m, e, rfl⟩
  · cases h
/-- the slot's object with an item put -/
def putAt (i : Nat) (k d : D) : SF := fun env => match env.sl[i]? with
  | some (some s) => match s.mo with
    | some (.lst ds) => match k with
      | .int j => match ixN ds.length j with
        | some j => some (.nx, env.set i (some (s.put (.lst (ds.set j d)))))
        | none => none
      | _ => none
    | some (.dK kds) => match keyD k with
      | some j => if kds.length < sizeLine then some (.nx, env.set i (some (s.put (.dK (putM kds j d))))) else none
      | none => none
    | _ => none
  | _ => none
def sPutA (i : Nat) (fe fk : EF D) : SF := sBind fe fun d env => if isObj env i = true then sBind fk (fun k => putAt i k d) env else none
theorem ds_putA (i : Nat) {x : Str} {p tp : Pos} {k e : Expr} {fe fk : EF D} (hr : RoomL X.A) (he : DE X W e fe) (hk : DE X W k fk) (hN : X.N[i]? = some x := by rfl) (hv : Vis X.env.scope x := by first | exact Or.inl rfl | exact Or.inr (Or.inl rfl) | exact Or.inr (Or.inr rfl))
    (hd : (x == ("__debug__" : Str)) = false := by decide) (hcd : (x == ("__classdict__" : Str)) = false := by decide)
    (ha : ∀ v, assign (.Subscript (.Name x p) k tp) X.env v = (do
      let ov ← holding [v] (eval (.Name x p) X.env)
      let iv ← holding [v, ov] (eval k X.env)
      standAt tp
      holding [v, ov, iv] (setItem ov iv v)
      release [v, ov, iv] []) := by intro _; rfl)
    (hs : swapsWithSole [.Subscript (.Name x p) k tp] e pos.line X.env = pure false := by rfl) (hw : swappedStores [.Subscript (.Name x p) k tp] e X.env = pure none := by rfl)
    (h1 : (assignEach [.Subscript (.Name x p) k tp] X.env).map (·.2) = [assign (.Subscript (.Name x p) k tp) X.env] := by rfl) : DS X W (.Assign [.Subscript (.Name x p) k tp] e pos) (sPutA i fe fk) := by
  refine ps_imp (ps_asg he (pg_sub (pe_var hN hv hd hcd) hk (PSet.or set_list (set_dict (by have := hr.un; omega))) ha) hs hw h1) ?_
  rintro Dn σ H ⟨S, env, z⟩
  refine ⟨S, env, (AtS.bind (R := RD X.K) z).imp fun v H1 ⟨d, S1, en1, rd, st, z1⟩ => ?_⟩
  obtain ⟨o1, en', rel1, ef, q1⟩ := z1
  dsimp only at ef
  split at ef
  · rename_i hobj
    obtain ⟨s0, m0, h0, h00⟩ := isObj_has hobj
    obtain ⟨a, o, x1, x2, x3, x4⟩ := rel1.objS h0 h00
    refine ⟨.ref a, x1, S1, en1, ?_⟩
    have z2 : AtS X.K W (sBind fk fun k => putAt i k d) S1 en1 σ H1 Dn := ⟨o1, en', rel1, ef, q1⟩
    refine (AtS.bind (R := RD X.K) z2).imp fun u H2 ⟨k, S2, en2, rk, st2, z3⟩ => ?_
    obtain ⟨o3, en3, rel3, ef3, q3⟩ := z3
    have rd2 : Rep X.K S2 d v := Rep.mono st2.le _ _ rd
    unfold putAt at ef3
    split at ef3
    · rename_i s e3
      split at ef3
      · rename_i ds e4
        obtain ⟨a', o', y1, y2, y3, y4⟩ := rel3.objS e3 e4
        rw [x1] at y1
        cases y1
        obtain ⟨vs, rfl, hz, rv⟩ := y4
        split at ef3
        · rename_i j
          split at ef3
          · rename_i j' hj
            cases ef3
            have hlen := Reps.len rv
            exact .inl ⟨a, vs, j, j', rfl, rk, y2, by rw [← hlen]; exact hj, q3 _ _ _ (rel3.mut e3 e4 x1 (m' := .lst (ds.set j' d)) ⟨vs.set j' v, rfl, by rw [List.length_set]; exact hz, reps_set rd2 j' rv⟩)⟩
          · cases ef3
        · cases ef3
      · rename_i kds e4
        obtain ⟨a', o', y1, y2, y3, y4⟩ := rel3.objS e3 e4
        rw [x1] at y1
        cases y1
        obtain ⟨kvs, rfl, hz, rv⟩ := y4
        split at ef3
        · rename_i j hj
          split at ef3
          · rename_i hlt
            cases ef3
            have hlen := repK_len rv
            obtain rfl := keyD_r hj rk
            exact .inr ⟨a, _, rfl, .inl ⟨kvs, j, y2, rfl, by rw [← hlen]; exact hlt, rfl⟩, q3 _ _ _ (rel3.mut e3 e4 x1 (m' := .dK (putM kds j d)) ⟨_, rfl, by have := putM_len kds j d; omega, repK_put rd2 rv⟩)⟩
          · cases ef3
        · cases ef3
      · cases ef3
    · cases ef3
  · cases ef
/-! ## {k: v for tg in it if ..} -/
def dcLoop (vs : List Nat) (tgt : TF) (tst : EF Bool) (fk fv : EF D) : List D → List (Key × D) → ME → Option (List (Key × D) × ME)
  | [], acc, e => some (acc, e)
  | d :: ds, acc, e => match tgt d e with
    | some e1 => match tst e1 with
      | some (.ok true, e2) => match fk e2 with
        | some (.ok x, e3) => match keyD x with
          | some k => match fv e3 with
            | some (.ok y, e4) => dcLoop vs tgt tst fk fv ds (putM acc k y) (wipeE e4 vs)
            | _ => none
          | none => none
        | _ => none
      | some (.ok false, e2) => dcLoop vs tgt tst fk fv ds acc (wipeE e2 vs)
      | _ => none
    | none => none
def eDc (vs : List Nat) (fi : EF (List D)) (tgt : TF) (tst : EF Bool) (fk fv : EF D) : EF FR := eBind fi fun ds e => if offAt vs e = true ∧ ds.length ≤ sizeLine then match dcLoop vs tgt tst fk fv ds [] e with
    | some (acc, e') => some (.ok (.o (.dK acc)), e')
    | none => none
  else none
theorem dc_tr {K : PySem.W.Frag} {vs : List Nat} {fi : EF (List D)} {tgt : TF} {tst : EF Bool} {fk fv : EF D} {σ : St} {H : Hp} {Q : VK} (h : trF K W (eDc vs fi tgt tst fk fv) σ H Q) :
    tDc (tr K W (RI K) fi) (trGv vs K tgt) (tr K W0 RB tst) (tr K W0 (RD K) fk) (tr K W0 (RD K) fv) vs σ H Q := by
  obtain ⟨S, env, z⟩ := h
  refine ⟨S, env, (AtF.bind (R := RI K) z).imp fun J H1 ⟨ds, S1, e1, io, st, z1⟩ => ?_⟩
  intro L hL
  obtain ⟨r, env', rel, ef, q⟩ := z1
  dsimp only at ef
  split at ef
  · rename_i hc
    obtain ⟨hoff, hlen⟩ := hc
    split at ef
    · rename_i out e' hcl
      cases ef
      have hoff := offAt_of hoff
      have l0 : (wipe σ vs).length = σ.length := wipe_length _ _
      have st0 : Step K S1 e1 (wipe σ vs) H1 S1 e1 (wipe σ vs) H1 := rel.step.off (fun i s h => wipe_out (hoff i s h)) (fun i s h => wipe_out (hoff i s h)) l0 l0
      refine ⟨fun i m G => m = ds.length - i ∧ i ≤ ds.length ∧ ∃ S2 : SS, ∃ e2 acc vacc, Step K S1 e1 (wipe σ vs) H1 S2 e2 (wipe σ vs) (less G L) ∧ G L = some (.dK vacc) ∧ RepK K S2 acc vacc ∧ acc.length ≤ i ∧ (∀ i s, e2.sl[i]? = some (some s) → i ∉ vs) ∧ dcLoop vs tgt tst fk fv (ds.drop i) acc e2 = some (out, env'),
        ⟨ds.length, rfl, Nat.zero_le _, S1, e1, [], [], by rw [less_upd, less_id hL]; exact st0, upd_same, rfl, Nat.zero_le _, hoff, hcl⟩, ?_⟩
      rintro i m G2 ⟨rfl, hi, S2, en2, acc, vacc, st2, hH, rr, hal, hoff2, hcl2⟩
      have bst : Step K S2 en2 (wipe σ vs) (less G2 L) S2 en2 (wipe σ vs) G2 := by
        have := st2.rel.beside (p := L) (o := .dK vacc) less_same
        rwa [upd_less hH] at this
      have nS : S2.hp L = none := by
        cases e : S2.hp L with
        | none => rfl
        | some u =>
          have := st2.rel.sub _ _ e
          rw [less_same] at this
          cases this
      have nO : ¬ Own en2 (wipe σ vs) S2 L := by
        rintro ⟨j, m, h1, h2⟩
        obtain ⟨a, o, q1, q2, _, _⟩ := st2.rel.obj j m h1
        have := q1.inj h2
        subst this
        rw [less_same] at q2
        cases q2
      by_cases hlt : i < ds.length
      · rw [List.drop_eq_getElem_cons hlt] at hcl2
        unfold dcLoop at hcl2
        refine .inr ⟨io.goes i S2 en2 _ G2 hlt st2.le bst.rel, fun H3 => i + 1 ≤ ds.length ∧ ∃ S2 : SS, ∃ en2 acc vacc, Step K S1 e1 (wipe σ vs) H1 S2 en2 (wipe σ vs) (less H3 L) ∧ H3 L = some (.dK vacc) ∧ RepK K S2 acc vacc ∧ acc.length ≤ i + 1 ∧ (∀ i s, en2.sl[i]? = some (some s) → i ∉ vs) ∧ dcLoop vs tgt tst fk fv (ds.drop (i + 1)) acc en2 = some (out, env'),
          fun H3 h3 => ⟨ds.length - (i + 1), by omega, rfl, h3⟩, fun x H3 hy => ?_⟩
        obtain ⟨S3, d, st3, hd, rd, _⟩ := io.yields i S2 en2 _ G2 x H3 hlt st2.le bst.rel hy
        rw [List.getElem?_eq_getElem hlt] at hd
        cases hd
        split at hcl2
        · rename_i e3 hg3
          refine ⟨S3, en2, _, e3, st3.rel, rd, hg3, fun S4 σ4 H4 st4 es eh ew => ?_⟩
          have ew' : wipe σ4 vs = wipe σ vs := ew.trans wipe_idem
          have st24 := st3.trans st4
          have fin : ∀ (S5 : SS) (e5 : ME) (H5 : Hp), Step K S2 en2 (wipe σ vs) G2 S5 e5 σ4 H5 → Step K S1 e1 (wipe σ vs) H1 S5 (wipeE e5 vs) (wipe σ vs) (less H5 L) ∧ H5 L = some (.dK vacc) := fun S5 e5 H5 st5 => by
            refine ⟨?_, st5.frame L _ hH nS nO⟩
            have a := st2.trans (st5.lessen hH nS nO)
            have b := a.rel.wipe (vs := vs) fun j hj m hm => by
              obtain ⟨m', hm'⟩ := a.borr j m hm
              exact hoff j _ hm' hj
            rw [ew'] at b
            exact a.trans b
          refine ⟨ew', ?_⟩
          split at hcl2
          · rename_i e4 ht4
            refine ⟨S4, e3, .ok true, e4, st4.rel, ht4, fun S5 H5 st5 b hb => ?_⟩
            have hb' : true = b := hb
            subst hb'
            split at hcl2
            · rename_i y e5 hel
              split at hcl2
              · rename_i k hk
                split at hcl2
                · rename_i y2 e6 hev
                  refine iteT ⟨S5, e4, .ok y, e5, st5.rel, hel, fun S6 H6 st6 u ru => ?_⟩
                  refine ⟨S6, e5, .ok y2, e6, st6.rel, hev, fun S7 H7 st7 u2 ru2 => ?_⟩
                  have all := ((st24.trans st5).trans st6).trans st7
                  obtain ⟨f1, f2⟩ := fin S7 e6 H7 all
                  have hl := repK_len rr
                  have pl := putM_len acc k y2
                  exact ⟨vacc, k, keyD_r hk ru, f2, by omega, hlt, S7, wipeE e6 vs, putM acc k y2, putK vacc k u2, by rw [less_upd]; exact f1, upd_same, repK_put ru2 (RepK.mono all.le _ _ rr), by omega, fun j s h => (wipeE_some h).2, hcl2⟩
                · cases hcl2
              · cases hcl2
            · cases hcl2
          · rename_i e4 ht4
            refine ⟨S4, e3, .ok false, e4, st4.rel, ht4, fun S5 H5 st5 b hb => ?_⟩
            have hb' : false = b := hb
            subst hb'
            obtain ⟨f1, f2⟩ := fin S5 e4 H5 (st24.trans st5)
            exact iteF ⟨hlt, S5, wipeE e4 vs, acc, vacc, f1, f2, RepK.mono (st24.trans st5).le _ _ rr, Nat.le_succ_of_le hal, fun j s h => (wipeE_some h).2, hcl2⟩
          · cases hcl2
        · cases hcl2
      · have e : i = ds.length := by omega
        subst e
        rw [List.drop_length] at hcl2
        have hcl3 : some (acc, en2) = some (out, env') := hcl2
        cases hcl3
        refine .inl ⟨io.stops S2 _ _ G2 st2.le bst.rel, ?_⟩
        have full := st2.off (fun i s h => (wipe_out (hoff i s h)).symm) (fun i s h => (wipe_out (hoff2 i s h)).symm) l0.symm l0.symm
        have z := q S2 (less G2 L) full L (.dK vacc) less_same ⟨vacc, rfl, by omega, rr⟩
        rwa [upd_less hH] at z
    · cases ef
  · cases ef
theorem df_dc {kx vx tg iter : Expr} {ifs : List Expr} {scope : Scope} {own : List (Str × Nat)} {fi : EF (List D)} {tgt : TF} {tst : EF Bool} {fk fv : EF D} (hc : X.calm = true) (hN : X.N.Nodup) (hi : DI X W tg iter fi) (ok : BlkOk X.N X.env.scope scope own)
    (hg : ∀ (s : Shared) (H : Hp) (C : Addr) (cl : List (Str × Addr)) (fp : List Addr), DGv (X.blk s H scope (compEnvC scope cl C X.env) fp) (own.map (·.2)) tg tgt)
    (ht : ∀ (s : Shared) (H : Hp) (C : Addr) (cl : List (Str × Addr)) (fp : List Addr), DTs (X.blk s H scope (compEnvC scope cl C X.env) fp) W0 ifs tst)
    (hk : ∀ (s : Shared) (H : Hp) (C : Addr) (cl : List (Str × Addr)) (fp : List Addr), DE (X.blk s H scope (compEnvC scope cl C X.env) fp) W0 kx fk)
    (he : ∀ (s : Shared) (H : Hp) (C : Addr) (cl : List (Str × Addr)) (fp : List Addr), DE (X.blk s H scope (compEnvC scope cl C X.env) fp) W0 vx fv) (hs : ∀ x, foldedSetIterable iter X.env x = pure x := by intro _; rfl) :
    DF X W (.DictComp kx vx [⟨tg, iter, ifs, 0⟩] scope pos) (eDc (own.map (·.2)) fi tgt tst fk fv) :=
  pe_imp (pe_dc (g := trGv (List.map (fun p : Str × Nat => p.2) own) X.K tgt) (tt := tr X.K W0 RB tst) (tk := tr X.K W0 (RD X.K) fk) (tv := tr X.K W0 (RD X.K) fv) hc hN hi ok hg ht hk he hs) fun σ H Q h => dc_tr h
end
end Mir

namespace Mir
open PySem PySem.Spec PyProof.Rows L2
/-! ## a op b, a an instance with its own def for it, b of a built-in kind -/
section
open PySem.W PySem.Calls
variable {prog : Program} {w : World} {A : Around} {E : Value → Shared → Prop} {s : Shared} {K : Frag} {x C L f : Addr} {h₀ : Heap} {m : Str → Option Value} {ox : Obj} {od : Option Obj}
def fillT (T nm : String) : Option Bool := match fastLookup T (PySem.dunder nm), fastLookup T (dunderR nm) with
  | some f, some r => some ((f.isSome && !isSeqSlot f) || (r.isSome && !isSeqSlot r))
  | _, _ => none
theorem looks_fillT {M : Model} {h : Heap} (X : K.In h) {T nm : String} {b : Bool} (e : fillT T nm = some b) : Looks M h (fillsNumberSlot (.type T) nm) b := by
  unfold fillT at e
  split at e
  · rename_i g r h1 h2
    cases e
    intro A Q E s k q
    unfold fillsNumberSlot
    exact wpAny_bind ((looks_findIn X (t := .type T) h1) A _ E s k (wpAny_bind ((looks_findIn X (t := .type T) h2) A _ E s k (wpAny_pure q))))
  · cases e
theorem looks_pySlot {M : Model} {h : Heap} (X : K.In h) {nm : String} {r : Option Value} (h1 : findIn K (.ref C) (PySem.dunder nm) = some (some (.ref f))) (h2 : findIn K (.ref C) (dunderR nm) = some r) (hr : r = none ∨ ∃ g, r = some (.ref g)) : Looks M h (numberSlotInPython (.ref C) nm) true := by
  intro A Q E s k q
  unfold numberSlotInPython
  refine wpAny_bind ((looks_findIn X h1) A _ E s k ?_)
  refine wpAny_bind (m := calledByName _ _ (some (.ref f))) (wpAny_pure ?_)
  refine wpAny_bind ((looks_findIn X h2) A _ E s k ?_)
  rcases hr with rfl | ⟨g, rfl⟩
  · refine wpAny_bind (m := calledByName _ _ none) (wpAny_pure ?_)
    exact wpAny_pure q
  · refine wpAny_bind (m := calledByName _ _ (some (.ref g))) (wpAny_pure ?_)
    exact wpAny_pure q
theorem bop1_T {nm : String} {b : Value} {T : String} {r rT : Option Value} {bt : Bool} {R : Option Value → Shared → Prop} (X : K.In s.heap) (I : InstAt s.heap x ox C od) (hb : Looks (model prog w) s.heap (typeOf b) (.type T)) (hc : selfFirst K C = true)
    (hs : findIn K (.ref C) (PySem.dunder nm) = some (some (.ref f))) (h2 : findIn K (.ref C) (dunderR nm) = some r) (hr : r = none ∨ ∃ g, r = some (.ref g))
    (hT : fillT T nm = some bt) (hT2 : fastLookup T (dunderR nm) = some rT) (hsub : subIn K (.type T) (.ref C) = some false)
    (run : wpAny (model prog w) A (tryMethod (.ref x) (PySem.dunder nm) b) (fun o s' => ∃ v, o = some v ∧ R (some v) s') E s) : wpAny (model prog w) A (binaryOp1 nm (.ref x) b) R E s := by
  obtain ⟨cd, hcd, hm⟩ := any_some hc
  obtain ⟨rest, hm⟩ : ∃ rest, cd.mro = .ref C :: rest := by
    cases q : cd.mro with
    | nil => rw [q] at hm; cases hm
    | cons a r => rw [q] at hm; exact ⟨r, by rw [List.head?_cons] at hm; cases (beq_iff_eq.mp hm); rfl⟩
  unfold binaryOp1
  refine wpAny_bind (I.type.here (wpAny_bind (hb.here (wpAny_bind ((fills_K X hcd hm hs).here ?_)))))
  rw [show (Value.ref C == Value.type T) = false from rfl]
  simp only [Bool.false_eq_true, if_false]
  refine wpAny_bind ((looks_fillT X hT).here ?_)
  cases bt with
  | false =>
    simp only [Bool.and_false, Bool.false_eq_true, if_false, Bool.false_and]
    refine wpAny_bind (wpAny_pure ?_)
    simp only [Bool.false_eq_true, if_false, if_true]
    refine wpAny_bind (m := tryMethod (.ref x) (PySem.dunder nm) b) (wpAny_mono run (fun o s' ho => ?_) fun _ _ z => z)
    obtain ⟨v, rfl, q⟩ := ho
    exact wpAny_pure q
  | true =>
    simp only [Bool.and_true, Bool.true_and, if_true, Bool.not_false]
    refine wpAny_bind ((looks_subIn X hsub).here ?_)
    simp only [Bool.false_eq_true, if_false, Bool.not_false, if_true]
    refine wpAny_bind ((looks_pySlot X hs h2 hr).here ?_)
    simp only [if_true]
    refine wpAny_bind (m := numberSlotInPython (.type T) nm) (wpAny_pure ?_)
    simp only [Bool.not_false, if_true]
    refine wpAny_bind ((looks_findIn X (t := .type T) hT2).here ?_)
    refine wpAny_bind (m := tryMethod (.ref x) (PySem.dunder nm) b) (wpAny_mono run (fun o s' ho => ?_) fun _ _ z => z)
    obtain ⟨v, rfl, q⟩ := ho
    exact wpAny_pure q
theorem binop_T {op : Operator} {b : Value} {T : String} {r rT : Option Value} {bt : Bool} {Q : Value → Shared → Prop} (X : K.In s.heap) (I : InstAt s.heap x ox C od) (hb : Looks (model prog w) s.heap (typeOf b) (.type T)) (hc : selfFirst K C = true)
    (hs : findIn K (.ref C) (PySem.dunder op.info.2) = some (some (.ref f))) (h2 : findIn K (.ref C) (dunderR op.info.2) = some r) (hr : r = none ∨ ∃ g, r = some (.ref g)) (hf : isFn K (.ref f) = true)
    (hT : fillT T op.info.2 = some bt) (hT2 : fastLookup T (dunderR op.info.2) = some rT) (hsub : subIn K (.type T) (.ref C) = some false)
    (h : wpAny (model prog w) A (call (.ref f) [.ref x, b]) (PySem.W.CmpBack Q) E s) : wpAny (model prog w) A (binaryOp op (.ref x) b) Q E s := by
  unfold binaryOp
  refine wpAny_holding (wpAny_bind (bop1_T X I hb hc hs h2 hr hT hT2 hsub ?_))
  unfold tryMethod
  refine wpAny_bind (special_fn X I hs (beq_iff_eq.mp hf) (wpAny_mono h (fun v s' hv => ?_) fun _ _ e => e))
  cases v <;> first | exact hv.elim | exact wpAny_pure ⟨_, rfl, wpAny_pure hv⟩
end
end Mir

namespace Mir
open PySem PySem.Spec PyProof.Rows L2
def kinds7 : List String := ["NoneType", "bool", "int", "str", "tuple", "list", "dict"]
theorem mem_kinds {t : String} (h : t = "NoneType" ∨ t = "bool" ∨ t = "int" ∨ t = "str" ∨ t = "tuple" ∨ t = "list" ∨ t = "dict") : t ∈ kinds7 := by
  unfold kinds7
  simp only [List.mem_cons]
  rcases h with h | h | h | h | h | h | h <;> simp [h]
def fillAll (nm : String) : Bool := kinds7.all fun T => (fillT T nm).isSome && (fastLookup T (dunderR nm)).isSome
theorem sub_no {K : PySem.W.Frag} {Ca : Addr} {t : String} (ht : t = "NoneType" ∨ t = "bool" ∨ t = "int" ∨ t = "str" ∨ t = "tuple" ∨ t = "list" ∨ t = "dict") : PySem.W.subIn K (.type t) (.ref Ca) = some false := by
  rcases ht with rfl | rfl | rfl | rfl | rfl | rfl | rfl <;> rfl
section
variable {X : Cx} {W : WX} {k j n : Nat} {f Ca : Addr} {fd : FuncData} {ps : List Str} {mf : MF} {C : Str} {a b : Expr} {fa fb : EF AV} {pos : Pos}
/-- the right operand: an instance of the class, or of a built-in kind -/
def AnyR (K : PySem.W.Frag) (Ca : Addr) (H : Hp) (y : V) : Prop := (∃ b dy gs, y = .ref b ∧ H b = some (.ins Ca dy gs)) ∨ ∃ t, TyX K H y (.type t) ∧ (t = "NoneType" ∨ t = "bool" ∨ t = "int" ∨ t = "str" ∨ t = "tuple" ∨ t = "list" ∨ t = "dict")
def rBinX (K : PySem.W.Frag) (Ca : Addr) (sp : Sp) (E : L2.St → XK) : RW2 := fun σ x y H Q => ∃ a dx fs, x = .ref a ∧ H a = some (.ins Ca dx fs) ∧ AnyR K Ca H y ∧ sp [x, y] H Q (E σ)
/-- the def for the right side, if there is one, is the program's own -/
def DunR (K : PySem.W.Frag) (Ca : Addr) (nm : Str) : Prop := ∃ r, PySem.W.findIn K (.ref Ca) nm = some r ∧ (r = none ∨ ∃ g, r = some (.ref g))
theorem op_binX {op : Operator} (tk : TkC X W) (D : Dun X.K Ca f (PySem.dunder op.info.2)) (D2 : DunR X.K Ca (dunderR op.info.2)) (sf : PySem.W.selfFirst X.K Ca = true) (hfill : fillAll op.info.2 = true) (F : FnOk X.prog X.w X.K X.mg X.base (L2.CX X.prog X.w) k f fd ps (spM X.K 2 mf)) (hb : Binds X.K fd ps []) (hr : Room j X.A) (hj : k ≤ j) :
    OpW X (binaryOp op) (rBinX X.K Ca (spM X.K 2 mf) (fun σ cls dd H => W cls dd σ H)) := by
  intro pn s σ H x y v u Q I rx ry h
  obtain ⟨a, dx, fs, rfl, ha, hy, hsp⟩ := h
  obtain rfl : v = Value.ref a := rx
  obtain ⟨mA, J, _⟩ := ins_get I.hok ha
  obtain ⟨od, J, _⟩ := J.look
  obtain ⟨m, fr⟩ := I.fr
  have run : wpAny (model X.prog X.w) X.A (call (.ref f) [.ref a, u]) (PySem.W.CmpBack (EP X pn σ Q)) X.xe s := by
    exact wpAny_mono (run_at F (hr.mono hj) rfl hb (tk σ) I (vs := [V.ref a, y]) (.cons rfl (.cons ry .nil)) hsp) (fun r s2 z => by
      obtain ⟨w, H2, I2, rv, q2⟩ := z
      exact cmpBack_of rv ⟨w, H2, I2, rv, q2⟩) fun _ _ z => z
  rcases hy with ⟨b, dy, gs, rfl, hb'⟩ | ⟨t, ty, ht⟩
  · obtain rfl : u = Value.ref b := ry
    obtain ⟨mB, J', _⟩ := ins_get I.hok hb'
    obtain ⟨od', J', _⟩ := J'.look
    exact PySem.W.binop_K fr I.ok.mod.kin J J'.type sf D.at_ D.fn run
  · obtain ⟨P, kx, hp, _⟩ := kit_of I ry ty
    obtain ⟨r, h2, hr2⟩ := D2
    have hall := List.all_eq_true.mp hfill t (mem_kinds ht)
    obtain ⟨e1, e2⟩ := Bool.and_eq_true_iff.mp hall
    obtain ⟨bt, e1⟩ := Option.isSome_iff_exists.mp e1
    obtain ⟨rT, e2⟩ := Option.isSome_iff_exists.mp e2
    exact binop_T I.kIn J (kx.ty _ _ I.kIn hp) sf D.at_ h2 hr2 D.fn e1 e2 (sub_no ht) run
theorem op_cmpX {op : CmpOp} (ho : ∀ u v, compareOp op u v = richCompare op u v) (tk : TkC X W) (D : Dun X.K Ca f (cmpInfo op).2.1) (F : FnOk X.prog X.w X.K X.mg X.base (L2.CX X.prog X.w) k f fd ps (spM X.K 2 mf)) (hb : Binds X.K fd ps []) (hr : Room j X.A) (hj : k ≤ j) :
    OpW X (compareOp op) (rBinX X.K Ca (spM X.K 2 mf) (fun σ cls dd H => W cls dd σ H)) := by
  intro pn s σ H x y v u Q I rx ry h
  obtain ⟨a, dx, fs, rfl, ha, hy, hsp⟩ := h
  obtain rfl : v = Value.ref a := rx
  obtain ⟨mA, J, _⟩ := ins_get I.hok ha
  obtain ⟨od, J, _⟩ := J.look
  obtain ⟨m, fr⟩ := I.fr
  have run : wpAny (model X.prog X.w) X.A (call (.ref f) [.ref a, u]) (PySem.W.CmpBack (EP X pn σ Q)) X.xe s := by
    exact wpAny_mono (run_at F (hr.mono hj) rfl hb (tk σ) I (vs := [V.ref a, y]) (.cons rfl (.cons ry .nil)) hsp) (fun r s2 z => by
      obtain ⟨w, H2, I2, rv, q2⟩ := z
      exact cmpBack_of rv ⟨w, H2, I2, rv, q2⟩) fun _ _ z => z
  rw [ho]
  rcases hy with ⟨b, dy, gs, rfl, hb'⟩ | ⟨t, ty, ht⟩
  · obtain rfl : u = Value.ref b := ry
    obtain ⟨mB, J', _⟩ := ins_get I.hok hb'
    obtain ⟨od', J', _⟩ := J'.look
    exact PySem.W.cmp_K (op := op) (tb := .ref Ca) hr.units0 fr I.ok.mod.kin J J'.type (by simp [PySem.W.notFirst]) D.at_ D.fn run
  · obtain ⟨P, kx, hp, _⟩ := kit_of I ry ty
    exact PySem.W.cmp_K (op := op) (tb := .type t) hr.units0 fr I.ok.mod.kin J (kx.ty _ _ I.kIn hp) (by unfold PySem.W.notFirst; rw [sub_no ht]; rfl) D.at_ D.fn run
def anyD (C : Str) : D → Bool
  | .ins c _ => decide (c = C)
  | d => (tyN d).isSome
theorem anyD_of {K : PySem.W.Frag} {S H : Hp} {d : D} {v : V} (cn : ClsN K C Ca) (h : anyD C d = true) (r : Rep1 K S H d v) : AnyR K Ca H v := by
  have rest : ∀ t, tyN d = some t → AnyR K Ca H v := fun t ht => by
    obtain ⟨tx, hts⟩ := tyX_of r ht
    exact .inr ⟨t, tx, hts⟩
  cases d with
  | ins c fs =>
    obtain rfl : c = C := of_decide_eq_true h
    obtain ⟨Ca', a', dx, fv, cn', rfl, hH, rf⟩ := r
    obtain rfl := cn'.inj cn
    exact .inl ⟨_, _, _, rfl, hH⟩
  | ty n => cases h
  | ref a => cases h
  | exc c g => cases h
  | _ => exact rest _ rfl
def kBinX (C : Str) (mf : MF) (x y : AV) : EF FR := fun env => match viewA x env, viewA y env with
  | some (.ins c _), some d => if c = C ∧ anyD C d = true then kCall mf [x, y] env else none
  | _, _ => none
def kCmpX (C : Str) (mf : MF) (x y : AV) : EF D := fun env => match viewA x env, viewA y env with
  | some (.ins c _), some d => if c = C ∧ anyD C d = true then match kCall mf [x, y] env with
    | some (.ok (.d d), e) => some (.ok d, e)
    | some (.ex x, e) => some (.ex x, e)
    | _ => none
    else none
  | _, _ => none
theorem df_opX {op : Operator} (tk : TkC X W) (cn : ClsN X.K C Ca) (D : Dun X.K Ca f (PySem.dunder op.info.2)) (D2 : DunR X.K Ca (dunderR op.info.2)) (sf : PySem.W.selfFirst X.K Ca = true) (F : FnOk X.prog X.w X.K X.mg X.base (L2.CX X.prog X.w) k f fd ps (spM X.K 2 mf)) (hd : Binds X.K fd ps []) (hr : Room j X.A) (hj : k ≤ j) (ha : DV X W a fa) (hb : DV X W b fb) (hfill : fillAll op.info.2 = true := by decide +kernel) :
    DF X W (.BinOp a op b pos) (e2F fa fb (kBinX C mf)) := by
  refine pe_imp (pe_opW (op_binX tk D D2 sf hfill F hd hr hj) ha hb) ?_
  rintro σ H Q ⟨S, env, z⟩
  refine ⟨S, env, (AtF.bind (R := RAv X.K) z).imp fun vx H1 ⟨x, S1, e1, rx, st, z1⟩ => ?_⟩
  refine ⟨S1, e1, (AtF.bind (R := RAv X.K) z1).imp fun vy H2 ⟨y, S2, e2, ry, st2, z2⟩ => ?_⟩
  obtain ⟨r, env', rel, ef, q⟩ := z2
  unfold kBinX at ef
  split at ef
  · rename_i c fs d hv hv'
    split at ef
    · rename_i hc
      obtain ⟨rfl, h2⟩ := hc
      have rx' := rx.mono st2.nle
      have r2 := view_one rel ry hv'
      obtain ⟨C1, a1, dx, fv, cn1, rfl, hH, rf⟩ := view_one rel rx' hv
      obtain rfl := cn1.inj cn
      exact ⟨a1, dx, fv, rfl, hH, anyD_of cn h2 r2, kcall_sp (as := [x, y]) (vs := [V.ref a1, vy]) rel ⟨.ref a1, [vy], rfl, rx', vy, [], rfl, ry, rfl⟩ rfl ef q⟩
    · cases ef
  · cases ef
theorem cmpX_at {S : SS} {env : ME} {σ : St} {H : Hp} {Q : VK} {x y : AV} {vx vy : V} (cn : ClsN X.K C Ca) (rx : RA X.K σ S x vx) (ry : RA X.K σ S y vy) (z : At X.K W (RD X.K) (kCmpX C mf x y) S env σ H Q) : rBinX X.K Ca (spM X.K 2 mf) (fun σ cls dd H => W cls dd σ H) σ vx vy H Q := by
  obtain ⟨r, env', rel, ef, q⟩ := z
  unfold kCmpX at ef
  split at ef
  · rename_i c fs d hv hv'
    split at ef
    · rename_i hc
      obtain ⟨rfl, h2⟩ := hc
      have r2 := view_one rel ry hv'
      obtain ⟨C1, a1, dx, fv, cn1, rfl, hH, rf⟩ := view_one rel rx hv
      obtain rfl := cn1.inj cn
      refine ⟨a1, dx, fv, rfl, hH, anyD_of cn h2 r2, ?_⟩
      split at ef
      · rename_i d e2 hk
        cases ef
        exact kcall_sp (as := [x, y]) (vs := [V.ref a1, vy]) rel ⟨.ref a1, [vy], rfl, rx, vy, [], rfl, ry, rfl⟩ rfl hk fun S' H' st' v rv => q S' H' st' v rv
      · rename_i x' e2 hk
        cases ef
        exact kcall_sp (as := [x, y]) (vs := [V.ref a1, vy]) rel ⟨.ref a1, [vy], rfl, rx, vy, [], rfl, ry, rfl⟩ rfl hk fun S' H' st' => q S' H' st'
      · cases ef
    · cases ef
  · cases ef
theorem e_cmpX {op : CmpOp} (ho : ∀ u v, compareOp op u v = richCompare op u v) (tk : TkC X W) (cn : ClsN X.K C Ca) (D : Dun X.K Ca f (cmpInfo op).2.1) (F : FnOk X.prog X.w X.K X.mg X.base (L2.CX X.prog X.w) k f fd ps (spM X.K 2 mf)) (hd : Binds X.K fd ps []) (hr : Room j X.A) (hj : k ≤ j) (ha : DV X W a fa) (hb : DV X W b fb) (hm : behindInMarks op b = false := by rfl) :
    DE X W (.Compare a [op] [b] pos) (e2 fa fb (kCmpX C mf)) := e_cmpW (op_cmpX ho tk D F hd hr hj) ha hb (fun _ _ _ _ _ _ _ _ _ rx ry z => cmpX_at cn rx ry z) hm
theorem t_cmpX {op : CmpOp} (ho : ∀ u v, compareOp op u v = richCompare op u v) (tk : TkC X W) (cn : ClsN X.K C Ca) (D : Dun X.K Ca f (cmpInfo op).2.1) (F : FnOk X.prog X.w X.K X.mg X.base (L2.CX X.prog X.w) k f fd ps (spM X.K 2 mf)) (hd : Binds X.K fd ps []) (hr : Room j X.A) (hj : k ≤ j) (ha : DV X W a fa) (hb : DV X W b fb) (hm : behindInMarks op b = false := by rfl) :
    DT X W (.Compare a [op] [b] pos) (eT (e2 fa fb (kCmpX C mf))) := t_cmpW (op_cmpX ho tk D F hd hr hj) ha hb (fun _ _ _ _ _ _ _ _ _ rx ry z => cmpX_at cn rx ry z) hm
end
end Mir

namespace Mir
open PySem PySem.Spec PyProof.Rows L2
section
variable {X : Cx} {W : WX} {p pos : Pos} {e : Expr} {es : List Expr} {fas : EF (List AV)}
/-! ## repr of data -/
def rRepr (K : PySem.W.Frag) : List V → Hp → VK → Prop := fun xs H Q => ∃ v d, xs = [v] ∧ Dp K H v d ∧ d.showable = true ∧ d.hasDict = false ∧ d.depth ≤ 100 ∧ d.shown.length ≤ sizeLine ∧ Q (.str d.shown) H
theorem call_reprD (hr : RoomL X.A) : CallR X (.builtin "repr") (rRepr X.K) := by
  intro pins s σ H xs us Q I r h
  obtain ⟨v, d, rfl, hd, hs, hn, hz, hl, q⟩ := h
  obtain ⟨u, rfl, t⟩ := vals1 r
  cases d with
  | none => cases hd; obtain rfl : u = Value.none := t; exact PySem.P.repr_of_none ⟨.str _, H, I.tok _, ⟨_, rfl⟩, q⟩
  | bool b => cases hd; obtain rfl : u = Value.bool b := t; exact PySem.P.repr_of_bool ⟨.str _, H, I.tok _, ⟨_, rfl⟩, q⟩
  | int i => cases hd; obtain ⟨tk, rfl⟩ := t; exact PySem.P.repr_of_int (of_decide_eq_true hs) ⟨.str _, H, I.tok _, ⟨_, rfl⟩, q⟩
  | str x => cases hd; obtain ⟨tk, rfl⟩ := t; exact PySem.P.repr_of_str (hsz := hl) ⟨.str _, H, I.tok _, ⟨_, rfl⟩, q⟩
  | dict kvs => cases hd
  | list xs =>
    obtain ⟨as, r1⟩ := Dp.reads I (.list xs) v u hd t
    cases hd
    obtain rfl : u = Value.ref _ := t
    exact repr_of_reads' r1 hs (fun z => by rw [hn] at z; cases z) hr.gd (by have := hr.un; omega) (fun b o z => z) (fun h' u' tk kk => ⟨.str _, H, I.kept (t' := tk) kk, ⟨_, rfl⟩, q⟩) hl
  | tuple xs =>
    obtain ⟨as, r1⟩ := Dp.reads I (.tuple xs) v u hd t
    cases hd
    obtain rfl : u = Value.ref _ := t
    exact repr_of_reads' r1 hs (fun z => by rw [hn] at z; cases z) hr.gd (by have := hr.un; omega) (fun b o z => z) (fun h' u' tk kk => ⟨.str _, H, I.kept (t' := tk) kk, ⟨_, rfl⟩, q⟩) hl
def oRepD (d : D) : Option D := match toPy d with
  | some p => if p.showable = true ∧ p.hasDict = false ∧ p.depth ≤ 100 ∧ p.shown.length ≤ sizeLine then some (.str p.shown) else none
  | none => none
theorem de_reprD (hr : RoomL X.A) (hm : X.mg "repr" = none) (ha : DA X W (e :: es) fas) (hg : Gl X "repr" := by rfl) (he : starEach (e :: es) X.env = (false, eval e X.env) :: starEach es X.env := by rfl) (hpl : (backTo pos (starEach es X.env)).any (·.1) = false := by rfl) :
    DE X W (.Call (.Name "repr" p) (e :: es) [] pos) (eBind fas (g1 fun a => eOn a oRepD)) := by
  refine de_callB (call_reprD hr) hm (by decide +kernel) ha ?_ hg (by decide) (by decide) he hpl
  intro S env σ H Q as vs ra z
  obtain ⟨a, v, rfl, r1, z⟩ := z.g1 ra
  obtain ⟨d, x, r1, hx, rel, q⟩ := z.on r1
  unfold oRepD at hx
  split at hx
  · rename_i py hpy
    split at hx
    · rename_i hc
      cases hx
      exact ⟨v, py, rfl, dp_one rel.sub r1 hpy, hc.1, hc.2.1, hc.2.2.1, hc.2.2.2, q S H rel.step _ ⟨rfl, hc.2.2.2⟩⟩
    · cases hx
  · cases hx
/-! ## bool(e) -/
def oBool : D → Option D
  | .bl b => some (.bl b)
  | .int i => some (.bl (i != 0))
  | _ => none
theorem de_bool1 (hm : X.mg "bool" = none) (ha : DA X W (e :: es) fas) (hg : Gl X "bool" := by rfl) (he : starEach (e :: es) X.env = (false, eval e X.env) :: starEach es X.env := by rfl) (hpl : (backTo pos (starEach es X.env)).any (·.1) = false := by rfl) :
    DE X W (.Call (.Name "bool" p) (e :: es) [] pos) (eBind fas (g1 fun a => eOn a oBool)) := by
  refine de_callTy call_bool1 hm (by decide +kernel) ha ?_ hg (by decide) (by decide) he hpl
  intro S env σ H Q as vs ra z
  obtain ⟨a, v, rfl, r1, z⟩ := z.g1 ra
  obtain ⟨d, x, r1, hx, rel, q⟩ := z.on r1
  cases d with
  | bl b => cases hx; exact .inr ⟨b, by rw [show v = V.bl b from r1], q S H rel.step _ rfl⟩
  | int i => cases hx; exact .inl ⟨i, by rw [show v = V.int i from r1], q S H rel.step _ rfl⟩
  | _ => cases hx
/-! ## f-strings -/
def oFmt : D → EF Str
  | .str y => if y.length ≤ sizeLine then eRet y else fun _ => none
  | .int i => if i.natAbs.log2 < 1920 then eRet (toString i) else fun _ => none
  | _ => fun _ => none
def RS : RR Str V := fun _ _ a b => b = .str a
/-- a part: its text -/
def DJ (X : Cx) (W : WX) (e : Expr) (f : EF Str) : Prop := PE X e (tr X.K W RS f)
theorem dj_txt {x : Str} {j : Nat} : DJ X W (.Constant (.str x) j pos) (eRet x) := by
  refine pe_imp pe_str ?_
  rintro σ H Q ⟨S, env, z⟩
  exact z.ret rfl
theorem dj_fmt {f : EF D} (h : DE X W e f) : DJ X W (.FormattedValue e (-1) none pos) (eBind f oFmt) := by
  refine pe_imp (pe_fmt h) ?_
  rintro σ H Q ⟨S, env, z⟩
  refine ⟨S, env, (At.bind (R := RD X.K) z).imp fun v H1 ⟨d, S1, e1, r, st, z1⟩ => ?_⟩
  cases d with
  | str y =>
    obtain ⟨rfl, hl⟩ := r
    unfold oFmt at z1
    dsimp only at z1
    rw [if_pos hl] at z1
    exact .inl ⟨y, rfl, hl, z1.ret rfl⟩
  | int i =>
    obtain rfl : v = .int i := r
    unfold oFmt at z1
    dsimp only at z1
    split at z1
    · rename_i hz
      exact .inr ⟨i, rfl, hz, z1.ret rfl⟩
    · exact (z1.none rfl).elim
  | _ => exact (z1.none rfl).elim
inductive DJs (X : Cx) (W : WX) : List Expr → List (EF Str) → Prop
  | nil : DJs X W [] []
  | cons {e : Expr} {es : List Expr} {f : EF Str} {fs : List (EF Str)} (h : DJ X W e f) (r : DJs X W es fs) : DJs X W (e :: es) (f :: fs)
def eJs : List (EF Str) → Str → EF D
  | [], acc => eRet (.str acc)
  | f :: fs, acc => eBind f fun y => if (acc ++ y).length ≤ sizeLine then eJs fs (acc ++ y) else fun _ => none
theorem DJs.pj : ∀ {es : List Expr} {fs : List (EF Str)}, DJs X W es fs → PJ X es (fs.map fun f => tr X.K W RS f)
  | _, _, .nil => .nil
  | _, _, .cons h r => .cons h r.pj
theorem js_at {σ : St} {Q : VK} : ∀ {fs : List (EF Str)} {acc : Str} {S : SS} {env : ME} {H : Hp}, acc.length ≤ sizeLine → At X.K W (RD X.K) (eJs fs acc) S env σ H Q → tJs (fs.map fun f => tr X.K W RS f) acc σ H fun out H1 => Q (.str out) H1
  | [], acc, S, env, H, hl, z => z.ret (show Rep X.K S (.str acc) (.str acc) from ⟨rfl, hl⟩)
  | f :: fs, acc, S, env, H, hl, z => by
    refine ⟨S, env, (At.bind (R := RS) z).imp fun v H1 ⟨y, S1, e1, r, st, z1⟩ => ?_⟩
    split at z1
    · rename_i h
      exact ⟨y, r, h, js_at h z1⟩
    · exact (z1.none rfl).elim
theorem de_joined {v1 v2 : Expr} {rest : List Expr} {fs : List (EF Str)} (h : DJs X W (v1 :: v2 :: rest) fs) : DE X W (.JoinedStr (v1 :: v2 :: rest) pos) (eJs fs Str.empty) := by
  refine pe_imp (pe_joined h.pj) ?_
  rintro σ H Q ⟨S, env, z⟩
  exact js_at (Nat.zero_le _) z
/-- f'{e}' alone -/
def eStrOf (f : EF Str) : EF D := eBind f fun y => if y.length ≤ sizeLine then eRet (.str y) else fun _ => none
theorem de_joined1 {f : EF Str} (h : DJ X W e f) : DE X W (.JoinedStr [e] pos) (eStrOf f) := by
  refine pe_imp (pe_joined1 h) ?_
  rintro σ H Q ⟨S, env, z⟩
  refine ⟨S, env, (At.bind (R := RS) z).imp fun v H1 ⟨y, S1, e1, r, st, z1⟩ => ?_⟩
  split at z1
  · rename_i hl
    exact z1.ret (show Rep X.K S1 (.str y) v from ⟨r, hl⟩)
  · exact (z1.none rfl).elim
/-- {e:spec} of an int -/
structure NoDig (X : Cx) : Prop where
  nd : PySem.W.nsIn X.K PySem.cStatics "sys.int_max_str_digits" = some none
def oFmtI (sp : Str) : D → EF Str
  | .int i => if i.natAbs < 1000000000000000000 then eRet (intSpecTextOf sp i) else fun _ => none
  | _ => fun _ => none
theorem dj_fmtI {sp : Str} {f : EF D} {j : Nat} {p2 p3 : Pos} (N : NoDig X) (h : DE X W e f) (hok : intSpecOk sp = true := by decide +kernel) (hsz : sp.length ≤ sizeLine := by decide) : DJ X W (.FormattedValue e (-1) (some (.JoinedStr [.Constant (.str sp) j p2] p3)) pos) (eBind f (oFmtI sp)) := by
  refine ⟨fun pins s σ H Q I ⟨S, env, z⟩ => ?_⟩
  refine wpAny_FormattedValue_spec (thn (PE.run h pins s σ H _ I ⟨S, env, At.bind (R := RD X.K) z⟩) fun v s1 ⟨x, H1, I1, r1, d, S1, e1, rd, st, z1⟩ => ?_)
  refine thn ((pe_joined1 (pe_str (x := sp) (j := j) (pos := p2)) (pos := p3)).run pins s1 σ H1 (fun y H2 => y = .str sp ∧ H2 = H1) I1 ⟨rfl, rfl⟩) fun u s2 ⟨y, H2, I2, ry, ey, eh⟩ => ?_
  subst ey eh
  obtain ⟨tk, rfl⟩ := ry
  refine ⟨sp, tk, rfl, ?_⟩
  cases d with
  | int i =>
    obtain rfl : x = .int i := rd
    obtain ⟨t, rfl⟩ := r1
    unfold oFmtI at z1
    dsimp only at z1
    split at z1
    · rename_i hi
      obtain ⟨mc, hn, _⟩ := I2.nolimit
      refine formatField_int_specOf ⟨mc, hn, PySem.W.ns_none_of I2.kIn hn N.nd⟩ (lt_digitLimit_of_lt hi) hok (fun _ _ _ => ⟨.str _, H2, (I2.tok _).tok _, ⟨_, rfl⟩, z1.ret rfl⟩) hsz
    · exact (z1.none rfl).elim
  | _ => exact (z1.none rfl).elim
end
end Mir

namespace Mir
open PySem PySem.Spec PyProof.Rows L2
section
variable {X : Cx} {W : WX} {k j n : Nat} {f Ca : Addr} {fd : FuncData} {ps : List Str} {mf : MF} {C : Str} {p pos apos kpos : Pos} {e o : Expr} {es : List Expr} {fas : EF (List AV)}
/-! ## o(e, ..), o an instance with its own def for it -/
structure CallI (K : PySem.W.Frag) (Ca g : Addr) : Prop where
  at_ : PySem.W.findIn K (.ref Ca) "__call__" = some (some (.ref g))
  fn : PySem.W.isFn K (.ref g) = true
  fi : PySem.W.fnIn K g = true
def kCallI2 (C : Str) (n : Nat) (mf : MF) (a : AV) (as : List AV) : EF FR := fun env => match viewA a env with
  | some (.ins c _) => if c = C ∧ as.length + 1 = n then kCall mf (a :: as) env else none
  | _ => none
def kCallI (C : Str) (n : Nat) (mf : MF) (fas : EF (List AV)) (a : AV) : EF FR := fun env => match viewA a env with
  | some (.ins _ _) => eBind fas (kCallI2 C n mf a) env
  | _ => none
def eCallI (C : Str) (n : Nat) (mf : MF) (fo : EF AV) (fas : EF (List AV)) : EF FR := eBind fo (kCallI C n mf fas)
def tCallI (Ca : Addr) (sp : Sp) (E : L2.St → XK) (tf : TE) (t : TA) : TE := fun σ H Q => tf σ H fun y H1 => ∃ a, y = V.ref a ∧ t σ H1 fun vs H2 => (∃ dx fs, H2 a = some (.ins Ca dx fs)) ∧ sp (V.ref a :: vs) H2 Q (E σ)
theorem df_callI {fo : EF AV} (tk : TkC X W) (cn : ClsN X.K C Ca) (c : CallI X.K Ca f) (F : FnOk X.prog X.w X.K X.mg X.base (L2.CX X.prog X.w) k f fd ps (spM X.K n mf)) (hb : Binds X.K fd ps []) (hr : Room j X.A) (hj : k ≤ j) (ho : DV X W o fo) (ha : DA X W (e :: es) fas)
    (ht : eval (.Call o (e :: es) [] pos) X.env = (do callWith pos (← eval o X.env) [] (backTo pos (starEach (e :: es) X.env)) (backToKw pos (keywordEach [] X.env))) := by rfl)
    (he : starEach (e :: es) X.env = (false, eval e X.env) :: starEach es X.env := by rfl) (hpl : (backTo pos (starEach es X.env)).any (·.1) = false := by rfl) : DF X W (.Call o (e :: es) [] pos) (eCallI C n mf fo fas) := by
  have base : PE X (.Call o (e :: es) [] pos) (tCallI Ca (spM X.K n mf) (fun σ cls dd H => W cls dd σ H) (tr X.K W (RAv X.K) fo) (tr X.K W (RAl X.K) fas)) := by
    refine ⟨fun pins s σ H Q I h => Call_ (thn (PE.run ho pins s σ H _ I h) fun u s1 ⟨y, H1, I1, ry, a, ey, q⟩ => ?_) ht⟩
    subst ey
    obtain rfl : u = Value.ref a := ry
    refine StX.callO_with (thn (PA.run ha pos pins s1 σ H1 _ I1 q) fun us s2 ⟨vs, H2, I2, r, ⟨dx, fs, hi⟩, q2⟩ => ?_) he hpl
    obtain ⟨mA, O, _⟩ := ins_get I2.hok hi
    obtain ⟨od, J, _⟩ := O.look
    refine ⟨⟨Ca, _, _, J, rfl⟩, ?_⟩
    have all : Vals (V.ref a :: vs) (Value.ref a :: us) := .cons rfl r
    have many : (Value.ref a :: us).length = ps.length := all.length.symm.trans (F.len _ _ _ _ q2)
    have bd := hb s2 (Value.ref a :: us) I2.kIn (by simpa using many)
    refine wpAny_call (PySem.W.kco_code I2.kIn J rfl c.at_ c.fn c.fi (codeAny_mono (F.run X.A X.stack s2 H2 ⟨Value.ref a :: us, []⟩ (Value.ref a :: us) _ Q _ (hr.mono hj) I2.env0 (by simpa using bd) all q2) fun r s' hq => ?_))
    match r, hq with
    | .error e, hq => exact tk σ pins H2 s2 e s' I2 hq
    | .ok (.ret u), hq => exact I2.after hq
  refine pe_imp base ?_
  rintro σ H Q ⟨S, env, z⟩
  refine ⟨S, env, (AtF.bind (R := RAv X.K) z).imp fun y H1 ⟨a, S1, e1, ra, st, z1⟩ => ?_⟩
  obtain ⟨r, env', rel, ef, q⟩ := z1
  unfold kCallI at ef
  split at ef
  · rename_i c fs hv
    obtain ⟨Ca0, a0, dx0, fv0, cn0, rfl, hH0, rf0⟩ := view_one rel ra hv
    refine ⟨a0, rfl, S1, e1, ?_⟩
    have z2 : AtF X.K W (eBind fas (kCallI2 C n mf a)) S1 e1 σ H1 Q := ⟨r, env', rel, ef, q⟩
    refine (AtF.bind (R := RAl X.K) z2).imp fun vs H2 ⟨as, S2, e2, rv, st2, z3⟩ => ?_
    obtain ⟨r3, en3, rel3, ef3, q3⟩ := z3
    unfold kCallI2 at ef3
    split at ef3
    · rename_i c2 fs2 hv2
      split at ef3
      · rename_i hc
        obtain ⟨rfl, hln⟩ := hc
        have ra2 := ra.mono st2.nle
        obtain ⟨Ca1, a1, dx1, fv1, cn1, e1', hH1, rf1⟩ := view_one rel3 ra2 hv2
        cases e1'
        obtain rfl := cn1.inj cn
        have z4 : AtF X.K W (kCall mf (a :: as)) S2 e2 σ H2 Q := ⟨r3, en3, rel3, ef3, q3⟩
        exact ⟨⟨_, _, hH1⟩, z4.kcall ⟨.ref a0, vs, rfl, ra2, rv⟩ (by simpa using hln)⟩
      · cases ef3
    · cases ef3
  · cases ef
/-! ## C(e, .., k = e, ..) -/
/-- behind the new object -/
def inG {α : Type} (g : List α → List α → List α) (vs ws : List α) : List α := match vs with
  | v :: r => v :: g r ws
  | [] => []
/-- the arguments in the def's order: g puts the written ones, the keywords' and the defaults there -/
def eArgs (g : List AV → List AV → List AV) (a b : Nat) (fas fks : EF (List AV)) : EF (List AV) := eBind fas fun as => eBind fks fun zs => if as.length = a ∧ zs.length = b then eRet (g as zs) else fun _ => none
def DK (X : Cx) (W : WX) (ks : List Keyword) (f : EF (List AV)) : Prop := PK X ks (tr X.K W (RAl X.K) f)
theorem pk_imp {ks : List Keyword} {t t' : TA} (h : PK X ks t) (w : ∀ σ H Q, t' σ H Q → t σ H Q) : PK X ks t' := ⟨fun pos pins s σ H Q I q => h.run pos pins s σ H Q I (w σ H Q q)⟩
theorem dk_nil : DK X W [] (eRet []) := by
  refine pk_imp pk_nil ?_
  rintro σ H Q ⟨S, env, z⟩
  exact z.ret (R := RAl X.K) rfl
theorem dk_cons {ks : List Keyword} {nm : Option Str} {f : EF AV} {g : EF (List AV)} (ha : DV X W e f) (hr : DK X W ks g) : DK X W (⟨nm, e, kpos⟩ :: ks) (eCons f g) := by
  refine pk_imp (pk_cons ha hr) ?_
  rintro σ H Q ⟨S, env, z⟩
  refine ⟨S, env, (At.bind (R := RAv X.K) z).imp fun v H1 ⟨a, S1, e1, ra, st, z1⟩ => ?_⟩
  refine ⟨S1, e1, (At.bind (R := RAl X.K) z1).imp fun vs H2 ⟨as, S2, e2, rs, st2, z2⟩ => ?_⟩
  exact z2.ret (R := RAl X.K) ⟨v, vs, rfl, ra.mono st2.nle, rs⟩
/-- g on the mirror's side and on the values' -/
structure GOk (K : PySem.W.Frag) (g : List AV → List AV → List AV) (gV : List V → List V → List V) : Prop where
  ok : ∀ (σ : L2.St) (S : SS) (as zs : List AV) (vs ws : List V), RAs K σ S as vs → RAs K σ S zs ws → RAs K σ S (g as zs) (gV vs ws)
theorem gok_app {K : PySem.W.Frag} : GOk K (fun as zs => as ++ zs) (fun vs ws => vs ++ ws) := ⟨fun _ _ _ _ _ _ h h' => ras_app h h'⟩
def tMakK (Ca : Addr) (sp : Sp) (gV : List V → List V → List V) (a b : Nat) (E : L2.St → XK) (t tk : TA) : TE := fun σ H Q => t σ H fun vs H1 => tk σ H1 fun ws H2 => vs.length = a ∧ ws.length = b ∧ ∀ x dx, H2 x = none → H2 dx = none → dx ≠ x →
  sp (.ref x :: gV vs ws) (upd (upd H2 dx (.own x)) x (.ins Ca dx [])) (fun v H3 => v = .non ∧ Q (.ref x) H3) (E σ)
theorem mk_runK {ks : List Str} {g : List Value → List Value → List Value} {gV : List V → List V → List V} {E : XK} {pn : List (Addr × Obj)} {σ : L2.St} {h0 : Hp} {s0 : Shared} {G : VK} {us us2 : List Value} {vs ws : List V} {sp : Sp}
    (M : Mk X.K Ca f) (F : FnOk X.prog X.w X.K X.mg X.base (L2.CX X.prog X.w) k f fd ps sp) (room : Room (k + 1) X.A) (kb : KBn X.K fd ps (n + 1) ks g (inG gV)) (hx : PassesAt (L2.CX X.prog X.w) X σ E) (inv : L2.Inv X pn σ h0 s0) (rv : Vals vs us) (rw' : Vals ws us2) (l1 : vs.length = n) (l2 : ws.length = ks.length)
    (hsp : ∀ x dx, h0 x = none → h0 dx = none → dx ≠ x → sp (.ref x :: gV vs ws) (upd (upd h0 dx (.own x)) x (.ins Ca dx [])) (fun v h2 => v = .non ∧ G (.ref x) h2) E) :
    wpAny (model X.prog X.w) X.A (call (.ref Ca) us (ks.zip us2)) (EP X pn σ G) X.xe s0 := by
  have made := Inv.made (C := Ca) inv
  have told := hsp (s0.heap.objs.size + 1) s0.heap.objs.size (inv.hok.fresh (by omega)) (inv.hok.fresh (by omega)) (Nat.ne_of_lt (Nat.lt_succ_self _))
  have r1 : Vals (V.ref (s0.heap.objs.size + 1) :: vs) (Value.ref (s0.heap.objs.size + 1) :: us) := .cons rfl rv
  have all := kb.rel r1 rw'
  have bd := kb.to { s0 with heap := (s0.heap.push { cls := .type "dict", data := .dict #[] }).push (PySem.W.instObj Ca s0.heap.objs.size) } (Value.ref (s0.heap.objs.size + 1) :: us) us2 made.kIn (r1.length.symm.trans (congrArg Nat.succ l1)) (rw'.length.symm.trans l2)
  have ran := F.run _ X.stack _ _ ⟨Value.ref (s0.heap.objs.size + 1) :: us, ks.zip us2⟩ _ _ _ E (room.make Ca us (ks.zip us2)) (made.env0.make Ca us (ks.zip us2)) bd all told
  refine wpAny_call (make_map (f := f) inv.kIn M.makes M.init (beq_iff_eq.mp M.fn) (codeAny_mono ran fun r s2 hr => ?_))
  match r, hr with
  | .error e, hr => exact hx pn _ _ e s2 made hr
  | .ok (.ret u), hr =>
    obtain ⟨v, h2, inv2, ru, ev, g⟩ := made.after hr
    subst ev
    exact ⟨ru, V.ref (s0.heap.objs.size + 1), h2, inv2, rfl, g⟩
theorem eArgs_len {g : List AV → List AV → List AV} {a b m : Nat} {fas fks : EF (List AV)} (hg : ∀ as zs, as.length = a → zs.length = b → (g as zs).length = m) {en en' : ME} {as : List AV} (h : eArgs g a b fas fks en = some (.ok as, en')) : as.length = m := by
  unfold eArgs eBind at h
  cases h1 : fas en with
  | none => rw [h1] at h; cases h
  | some p =>
    obtain ⟨r1, e1⟩ := p
    rw [h1] at h
    cases r1 with
    | ex x => cases h
    | ok as1 =>
      dsimp only at h
      cases h2 : fks e1 with
      | none => rw [h2] at h; cases h
      | some p2 =>
        obtain ⟨r2, e2⟩ := p2
        rw [h2] at h
        cases r2 with
        | ex x => cases h
        | ok zs =>
          dsimp only at h
          split at h
          · rename_i hc
            cases h
            exact hg _ _ hc.1 hc.2
          · cases h
theorem df_makeK {ks : List Str} {kws : List Keyword} {fks : EF (List AV)} {g : List Value → List Value → List Value} {gV : List V → List V → List V} {gM : List AV → List AV → List AV} {nn : Nat} (tk : TkC X W) (M : Made X.K X.mg C Ca f) (F : FnOk X.prog X.w X.K X.mg X.base (L2.CX X.prog X.w) k f fd ps (spM X.K nn mf))
    (kb : KBn X.K fd ps (n + 1) ks g (inG gV)) (G : GOk X.K gM gV) (hr : Room j X.A) (hj : k + 1 ≤ j) (ha : DA X W (e :: es) fas) (hk : DK X W kws fks) (hgl : ∀ as zs, as.length = n → zs.length = ks.length → (gM as zs).length + 1 = nn)
    (hg : Gl X C := by rfl) (hall : (backToKw pos (keywordEach kws X.env)).all (·.1.isSome) = true := by rfl) (hks : (backToKw pos (keywordEach kws X.env)).filterMap (·.1) = ks := by rfl)
    (hdb : (C == ("__debug__" : Str)) = false := by decide) (he : starEach (e :: es) X.env = (false, eval e X.env) :: starEach es X.env := by rfl)
    (hpl : ((backTo pos (starEach (e :: es) X.env)).any (·.1) || (backToKw pos (keywordEach kws X.env)).any (·.1.isNone)) = false := by rfl) :
    DF X W (.Call (.Name C p) (e :: es) kws pos) (eMake C mf [] (eArgs gM n ks.length fas fks)) := by
  have base : PE X (.Call (.Name C p) (e :: es) kws pos) (tMakK Ca (spM X.K nn mf) gV n ks.length (fun σ cls dd H => W cls dd σ H) (tr X.K W (RAl X.K) fas) (tr X.K W (RAl X.K) fks)) := by
    refine ⟨fun pn s σ H Q inv h => wpAny_Call_Name_kw (ld_glob inv hg M.at_ ?_ hdb)⟩
    refine PySem.W.callWith_KW (h₀ := X.base) inv.ok.mod.kin M.mak.kp hall (thn (PA.run ha pos pn s σ H _ inv h) fun us s1 ⟨vs, H1, inv1, rv, q⟩ => ?_) hpl he
    refine thn (PK.run hk pos pn s1 σ H1 _ inv1 q) fun ws s2 ⟨zs, H2, inv2, rz, l1, l2, q2⟩ => ⟨inv2.kIn, ?_⟩
    rw [hks]
    exact mk_runK M.mak F (hr.mono hj) kb (tk σ) inv2 rv rz l1 l2 q2
  refine pe_imp base ?_
  rintro σ H Q ⟨S, env, z⟩
  have z1 := z.make (n := nn) (ex := []) (dvs := []) (fun S => (rfl : Reps X.K S [] [])) M.cn (fun en as en' h => by
    have := eArgs_len (m := nn - 1) (fun as zs h1 h2 => by have := hgl as zs h1 h2; omega) h
    have h3 : 1 ≤ nn := by
      have := hgl (List.replicate n (.d .non)) (List.replicate ks.length (.d .non)) (by simp) (by simp)
      omega
    simp; omega)
  refine ⟨S, env, (At.bind (R := RAl X.K) z1).imp fun vs H1 ⟨as, S1, e1, ra, st, z2⟩ => ?_⟩
  refine ⟨S1, e1, (At.bind (R := RAl X.K) z2).imp fun ws H2 ⟨zs, S2, e2, rz, st2, z3⟩ => ?_⟩
  split at z3
  · rename_i hc
    have ra2 : RAs X.K σ S2 as vs := RAs.mono st2.nle ra
    refine ⟨by rw [← RAs.len ra2]; exact hc.1, by rw [← RAs.len rz]; exact hc.2, ?_⟩
    have := z3.ret (G.ok _ _ _ _ _ _ ra2 rz)
    simpa using this
  · exact (z3.none rfl).elim
end
end Mir

namespace Mir
open PySem PySem.Spec PyProof.Rows L2
/-! ## a comprehension whose own name is a local of the def too: the local is set aside -/
section
variable {K : PySem.W.Frag} {W : WX} {S S' : SS} {env env' : ME} {σ : St} {H H' : Hp} {v : Nat} {d : D}
theorem set_id {α : Type} {l : List α} {i : Nat} {x : α} (h : l[i]? = some x) : l.set i x = l := by
  apply List.ext_getElem?
  intro j
  by_cases e : i = j
  · subst e
    rw [List.getElem?_set_self (lt_of_at h), h]
  · rw [List.getElem?_set_ne e]
theorem Step.hide (r : Rel K S env σ H) (hv : env.sl[v]? = some (some (.v d))) : Step K S env σ H S (env.set v none) σ H := by
  obtain ⟨x, hx, rx⟩ := r.val v d hv
  have st := r.forget (i := v) (x := some x) fun m e => by rw [hv] at e; cases e
  rwa [set_id hx] at st
theorem Step.unhide (r : Rel K S env σ H) (hv : env.sl[v]? = some (some (.v d))) (st : Step K S (env.set v none) σ H S' env' σ H') : Step K S env σ H S' (env'.set v (some (.v d))) σ H' := by
  obtain ⟨x, hx, rx⟩ := r.val v d hv
  have sv := st.rel.setV (i := v) (d := d) (v := x) (fun m e => by
    obtain ⟨m', q⟩ := st.borr v m e
    have q : (env.sl.set v none)[v]? = some (some (.b m')) := q
    have := set_self q
    cases this) (Rep.mono st.le _ _ rx)
  rw [set_id hx] at sv
  exact (Step.hide r hv).trans (st.trans sv)
end
/-- slot v set aside while f runs -/
def eHide {α : Type} (v : Nat) (f : EF α) : EF α := fun e => match e.sl[v]? with
  | some (some (.v d)) => match f (e.set v none) with
    | some (r, e') => some (r, e'.set v (some (.v d)))
    | none => none
  | some none => f e
  | _ => none
section
variable {X : Cx} {W : WX}
theorem At.hide {α β : Type} {K : PySem.W.Frag} {R : RR α β} {v : Nat} {f : EF α} {S : SS} {env : ME} {σ : St} {H : Hp} {Q : β → Hp → Prop} (z : At K W R (eHide v f) S env σ H Q) : ∃ env', At K W R f S env' σ H Q := by
  obtain ⟨r, e', rel, e, q⟩ := z
  unfold eHide at e
  split at e
  · rename_i d hv
    split at e
    · rename_i r' e1 h1
      cases e
      exact ⟨_, r, e1, (Step.hide rel hv).rel, h1, fun S' H' st => q S' H' (Step.unhide rel hv st)⟩
    · cases e
  · exact ⟨env, r, e', rel, e, q⟩
  · cases e
theorem AtF.hide {K : PySem.W.Frag} {v : Nat} {f : EF FR} {S : SS} {env : ME} {σ : St} {H : Hp} {Q : VK} (z : AtF K W (eHide v f) S env σ H Q) : ∃ env', AtF K W f S env' σ H Q := by
  obtain ⟨r, e', rel, e, q⟩ := z
  unfold eHide at e
  split at e
  · rename_i d hv
    split at e
    · rename_i r' e1 h1
      cases e
      exact ⟨_, r, e1, (Step.hide rel hv).rel, h1, fun S' H' st => q S' H' (Step.unhide rel hv st)⟩
    · cases e
  · exact ⟨env, r, e', rel, e, q⟩
  · cases e
theorem de_hide (v : Nat) {e : Expr} {f : EF D} (h : DE X W e f) : DE X W e (eHide v f) := pe_imp h fun σ H Q ⟨S, env, z⟩ => let ⟨env', z'⟩ := z.hide; ⟨S, env', z'⟩
theorem df_hide (v : Nat) {e : Expr} {f : EF FR} (h : DF X W e f) : DF X W e (eHide v f) := pe_imp h fun σ H Q ⟨S, env, z⟩ => let ⟨env', z'⟩ := z.hide; ⟨S, env', z'⟩
end
end Mir

namespace Mir
open PySem PySem.Spec PyProof.Rows L2
section
variable {X : Cx} {W : WX}
theorem trF.hide {K : PySem.W.Frag} {v : Nat} {f : EF FR} {σ : St} {H : Hp} {Q : VK} : trF K W (eHide v f) σ H Q → trF K W f σ H Q := fun ⟨S, env, z⟩ => let ⟨env', z'⟩ := z.hide; ⟨S, env', z'⟩
/-- name = [..], on the name's line, a local set aside -/
theorem ds_setLcH (v i : Nat) {y : Str} {py spos : Pos} {elt tg iter : Expr} {ifs : List Expr} {scope : Scope} {pos : Pos} {own : List (Str × Nat)} {fi : EF (List D)} {tgt : TF} {tst : EF Bool} {el : EF D} (hc : X.calm = true) (hN : X.N.Nodup) (hi : DI X W tg iter fi) (ok : BlkOk X.N X.env.scope scope own)
    (hg : ∀ (s : Shared) (H : Hp) (C : Addr) (cl : List (Str × Addr)) (fp : List Addr), DGv (X.blk s H scope (compEnvC scope cl C X.env) fp) (own.map (·.2)) tg tgt)
    (ht : ∀ (s : Shared) (H : Hp) (C : Addr) (cl : List (Str × Addr)) (fp : List Addr), DTs (X.blk s H scope (compEnvC scope cl C X.env) fp) W0 ifs tst)
    (he : ∀ (s : Shared) (H : Hp) (C : Addr) (cl : List (Str × Addr)) (fp : List Addr), DE (X.blk s H scope (compEnvC scope cl C X.env) fp) W0 elt el)
    (hsw : swapsWith (.ListComp elt [⟨tg, iter, ifs, 0⟩] scope pos) (some (.Name y py)) spos.line X.env = pure true) (hy : X.N[i]? = some y := by rfl) (hyl : X.env.scope.names.lookup y = some .local := by rfl) (hs : ∀ x, foldedSetIterable iter X.env x = pure x := by intro _; rfl) :
    DS X W (.Assign [.Name y py] (.ListComp elt [⟨tg, iter, ifs, 0⟩] scope pos) spos) (sSetF i (eHide v (eLc (own.map (·.2)) fi tgt tst el))) := by
  refine ps_imp (ps_setLc (g := trGv (List.map (fun p : Str × Nat => p.2) own) X.K tgt) (tt := tr X.K W0 RB tst) (te := tr X.K W0 (RD X.K) el) hc hN hy hyl hsw hi ok hg ht he hs) ?_
  rintro Dn σ H ⟨S, env, z⟩
  exact lc_tr (trF_bind z fun r S1 e1 H1 z1 => putF_end z1).hide
theorem ds_setLcH2 (u v i : Nat) {y : Str} {py spos : Pos} {elt tg iter : Expr} {ifs : List Expr} {scope : Scope} {pos : Pos} {own : List (Str × Nat)} {fi : EF (List D)} {tgt : TF} {tst : EF Bool} {el : EF D} (hc : X.calm = true) (hN : X.N.Nodup) (hi : DI X W tg iter fi) (ok : BlkOk X.N X.env.scope scope own)
    (hg : ∀ (s : Shared) (H : Hp) (C : Addr) (cl : List (Str × Addr)) (fp : List Addr), DGv (X.blk s H scope (compEnvC scope cl C X.env) fp) (own.map (·.2)) tg tgt)
    (ht : ∀ (s : Shared) (H : Hp) (C : Addr) (cl : List (Str × Addr)) (fp : List Addr), DTs (X.blk s H scope (compEnvC scope cl C X.env) fp) W0 ifs tst)
    (he : ∀ (s : Shared) (H : Hp) (C : Addr) (cl : List (Str × Addr)) (fp : List Addr), DE (X.blk s H scope (compEnvC scope cl C X.env) fp) W0 elt el)
    (hsw : swapsWith (.ListComp elt [⟨tg, iter, ifs, 0⟩] scope pos) (some (.Name y py)) spos.line X.env = pure true) (hy : X.N[i]? = some y := by rfl) (hyl : X.env.scope.names.lookup y = some .local := by rfl) (hs : ∀ x, foldedSetIterable iter X.env x = pure x := by intro _; rfl) :
    DS X W (.Assign [.Name y py] (.ListComp elt [⟨tg, iter, ifs, 0⟩] scope pos) spos) (sSetF i (eHide u (eHide v (eLc (own.map (·.2)) fi tgt tst el)))) := by
  refine ps_imp (ps_setLc (g := trGv (List.map (fun p : Str × Nat => p.2) own) X.K tgt) (tt := tr X.K W0 RB tst) (te := tr X.K W0 (RD X.K) el) hc hN hy hyl hsw hi ok hg ht he hs) ?_
  rintro Dn σ H ⟨S, env, z⟩
  exact lc_tr (trF_bind z fun r S1 e1 H1 z1 => putF_end z1).hide.hide
/-- while, at most N passes told -/
theorem ds_whileF (N : Nat) {c : Expr} {body : List Stmt} {fc : EF Bool} {fb : SF} {pos : Pos} (hp : PassesOwn (model X.prog X.w) X.A X.env X.xe) (hc : DT X W c fc) (hb : DB X W body fb) : DS X W (.While c body [] pos) (sWhile fc fb N) := by
  refine ps_imp (ds_while hp hc hb) ?_
  rintro Dn σ H ⟨S, env, o, e', rel, e, q⟩
  exact ⟨S, env, o, e', rel, sWhl_of e, q⟩
end
/-! ## tables told row by row -/
theorem TabOk.nil {K : PySem.W.Frag} {c : Value} : TabOk K c [] := fun C b h => by cases h
theorem TabOk.cons {K : PySem.W.Frag} {c : Value} {x : Str} {a : Addr} {b : Bool} {l : List (Str × Bool)} (n : ClsN K x a) (h : PySem.W.exmOne K (.ref a) c = some b) (r : TabOk K c l) : TabOk K c ((x, b) :: l) := fun C b' e => by
  rw [List.lookup_cons] at e
  split at e
  · rename_i q
    cases e
    rw [beq_iff_eq.mp q]
    exact ⟨a, n, h⟩
  · exact r C b' e
theorem SubX.nil {K : PySem.W.Frag} {c : Value} : SubX K c [] := fun C b h => by cases h
theorem SubX.cons {K : PySem.W.Frag} {c : Value} {x : Str} {a : Addr} {b : Bool} {l : List (Str × Bool)} (n : ClsN K x a) (t : L2.ExcC K a) (h : PySem.W.kitOne K (.ref a) c = some b) (r : SubX K c l) : SubX K c ((x, b) :: l) := fun C b' e => by
  rw [List.lookup_cons] at e
  split at e
  · rename_i q
    cases e
    rw [beq_iff_eq.mp q]
    exact ⟨a, n, t, h⟩
  · exact r C b' e
theorem SubC.nil {K : PySem.W.Frag} {c : Addr} : SubC K c [] := fun C b h => by cases h
theorem SubC.cons {K : PySem.W.Frag} {c : Addr} {x : Str} {a : Addr} {b : Bool} {l : List (Str × Bool)} (n : ClsN K x a) (t : InsT K a) (h : PySem.W.kitOne K (.ref a) (.ref c) = some b) (r : SubC K c l) : SubC K c ((x, b) :: l) := fun C b' e => by
  rw [List.lookup_cons] at e
  split at e
  · rename_i q
    cases e
    rw [beq_iff_eq.mp q]
    exact ⟨a, n, t, h⟩
  · exact r C b' e
theorem IsC.of {K : PySem.W.Frag} {x : Str} {a : Addr} {cd : ClassData} (n : ClsN K x a) (h : PySem.W.clsIn K a = some cd) (t : PySem.W.typeIn K (.ref a) = some (.type "type")) : IsC K x a := ⟨n, by rw [h, t]; rfl⟩
/-- the keywords' values behind the written ones -/
def gApp {α : Type} (us _its _mv ws : List α) : List α := inG (fun a b => a ++ b) us ws
theorem gApp_rel {vs ds mz zs : List V} {us its mv ws : List Value} (h : Vals vs us) (_ : Vals ds its) (_ : Vals mz mv) (h' : Vals zs ws) : Vals (gApp vs ds mz zs) (gApp us its mv ws) := by
  cases h with
  | nil => exact .nil
  | cons r q => exact .cons r (Vals.append q h')
end Mir

namespace Mir
open PySem PySem.Spec PyProof.Rows L2
/-! ## enumerate(text) -/
def Ies (x : Str) : It := ⟨fun i _ => i < x.cps.size, fun i H v H' => ∃ T c, v = .ref T ∧ H T = none ∧ H' = upd H T (.tup [.int (i : Nat), .str ⟨#[c]⟩]) ∧ x.cps[i]? = some c, fun i _ => i = x.cps.size⟩
theorem turn_enumS {P : Program} {w : World} {K : PySem.W.Frag} {elts : List Expr} {kk : Nat} {tpos : Pos} (e it : Addr) (x : Str) (t : Tok) :
    Turn P w K (.Tuple elts kk tpos) (Ies x) [e, it] e (fun i h => (∃ old, IsEnum h e it ((i : Nat) : Int) old) ∧ h.IsStrIter it (strIterType x) x t i ∧ e ≠ it) where
  mem := by simp
  obj := fun i h st b hb => by
    obtain ⟨⟨old, he⟩, ⟨o, ho, hc, hd⟩, _⟩ := st
    have e' : b = e ∨ b = it := by simpa using hb
    rcases e' with z | z
    · rw [z]; exact ⟨_, he, fun v q => nomatch q⟩
    · rw [z]; exact ⟨o, ho, fun v q => by rw [hd] at q; cases q⟩
  keep := fun i h h' st k => by
    obtain ⟨⟨old, he⟩, ⟨o, ho, r⟩, hne⟩ := st
    exact ⟨⟨old, k e (by simp) _ he⟩, ⟨o, k it (by simp) o ho, r⟩, hne⟩
  item := by
    intro X hP hw hK hc i pins s σ H E I hf st hg
    subst hP hw hK
    obtain ⟨⟨old, he⟩, hit, hne⟩ := st
    have hel : e < s.heap.objs.size := Heap.lt_size he
    have hil : it < s.heap.objs.size := by obtain ⟨_, q, _⟩ := hit; exact Heap.lt_size q
    have D : Draws X.prog X.w X.A.in1 it [it] x.cps.size (fun i v => ∃ c u, x.cps[i]? = some c ∧ v = .str ⟨#[c]⟩ u) (fun i h => h.IsStrIter it (strIterType x) x t i) := by
      unfold strIterType
      split
      · exact Draws.strAscii (A := X.A.in1) (show X.A.in1.handled = none from I.ok.hd hc) it x t
      · exact Draws.strWide (A := X.A.in1) (show X.A.in1.handled = none from I.ok.hd hc) it x t
    refine wpAny_pyNext_enum_itemD D he hit hg hne (by simpa using hne) fun u h' tk hu ho hit' hT hsz hk => ?_
    obtain ⟨c, tu, hcx, rfl⟩ := hu
    refine ⟨_, rfl, wpAny_letOwnedTupleGo_enum (s := { s with heap := h', toks := tk + 1 }) ho fun h'' he' sb => ?_⟩
    have hT2 : h''.get? s.heap.objs.size = some { cls := .type "tuple", data := .seq #[.int i tk, .str ⟨#[c]⟩ tu] } := (sb.2 _ (Nat.ne_of_gt hel)).trans hT
    have new : ObjOk X.prog X.w (upd H s.heap.objs.size (.tup [.int (i : Nat), .str ⟨#[c]⟩])) h'' s.heap.objs.size (.tup [.int (i : Nat), .str ⟨#[c]⟩]) :=
      ⟨by show 2 ≤ sizeLine; decide, [.int i tk, .str ⟨#[c]⟩ tu], .cons ⟨_, rfl⟩ (.cons ⟨_, rfl⟩ .nil), ⟨_, hT2, rfl, _, rfl⟩⟩
    have I1 : L2.Inv X pins σ (upd H s.heap.objs.size (.tup [.int (i : Nat), .str ⟨#[c]⟩])) { s with heap := h'', toks := tk + 1 } :=
      I.turnedNew (ch := [e, it]) (fun b ob hb q => (sb.2 b (fun z => hb (by simp [z]))).trans (hk b ob (fun z => hb (by simp [z])) (fun z => hb (by simp [z])) q)) hf (Nat.le_refl _) new
    refine ⟨.ref s.heap.objs.size, _, I1, rfl, ⟨_, c, rfl, I.hok.fresh (Nat.le_refl _), rfl, hcx⟩, ⟨⟨.str ⟨#[c]⟩ tu, ?_⟩, ?_, hne⟩, fun b hb => ?_⟩
    · have e1 : ((i + 1 : Nat) : Int) = (i : Int) + 1 := by omega
      rw [e1]; exact he'
    · obtain ⟨o, q, r⟩ := hit'
      exact ⟨o, (sb.2 it (Ne.symm hne)).trans q, r⟩
    · have hb' : b < s.heap.objs.size := by
        have e' : b = e ∨ b = it := by simpa using hb
        rcases e' with z | z
        · rw [z]; exact hel
        · rw [z]; exact hil
      rw [upd_ne (Nat.ne_of_lt hb')]
      exact (hf b hb).1
  done := by
    intro X hP hw hK hc i pins s σ H E I hf st hg
    subst hP hw hK
    obtain ⟨⟨old, he⟩, hit, hne⟩ := st
    obtain ⟨f0, f1, f2, f3, f4, f5⟩ := hf it (by simp)
    have hi : i = x.cps.size := hg
    subst hi
    have D : Draws X.prog X.w X.A.in1 it [it] x.cps.size (fun i v => ∃ c u, x.cps[i]? = some c ∧ v = .str ⟨#[c]⟩ u) (fun i h => h.IsStrIter it (strIterType x) x t i) := by
      unfold strIterType
      split
      · exact Draws.strAscii (A := X.A.in1) (show X.A.in1.handled = none from I.ok.hd hc) it x t
      · exact Draws.strWide (A := X.A.in1) (show X.A.in1.handled = none from I.ok.hd hc) it x t
    exact wpAny_pyNext_enum_endD D he hit fun h' eb => ⟨rfl, I.turned (t' := s.toks) (fun b o hb q => eb b o hb q) f0 f1 f3 f4 f5⟩
  self := fun A i s Q E st h => let ⟨⟨_, he⟩, _⟩ := st; wpAny_pyIter_enum he h
def iEnum4 (K : PySem.W.Frag) (ta : TA) : TI := fun σ H R => ta σ H fun vs H1 => (∃ a xs, vs = [.ref a] ∧ SqL K H1 a xs ∧ R (Ite K a) H1) ∨ ∃ x, vs = [.str x] ∧ R (Ies x) H1
theorem pi_enum4 {X : Cx} {e : Expr} {ta : TA} {p pos tpos : Pos} {elts : List Expr} {kk : Nat} (hg : Gl X "enumerate") (hm : X.mg "enumerate" = none) (ha : PA X [e] ta) (hs : starEach [e] X.env = [(false, eval e X.env)] := by rfl) :
    PI X (.Tuple elts kk tpos) (.Call (.Name "enumerate" p) [e] [] pos) (iEnum4 X.K ta) := by
  refine ⟨fun pins s σ H R I h => ?_⟩
  refine Call_ (ld_blt I hg hm boot_enumerate (PyProof.Rows.callWith_type1 (thn (ha.run pos pins s σ H _ I h) fun us s1 ⟨vs, H1, I1, r1, q1⟩ => ?_) hs rfl))
  rcases q1 with ⟨a, xs, ex, hq, q⟩ | ⟨x, ex, q⟩
  · subst ex
    cases r1 with
    | cons r rr =>
      cases rr
      cases r
      obtain ⟨its, rv, p', hz⟩ := I1.list hq
      refine call_enumerate_list p'.isList fun h' he hit hsz hk => wpAny_pyIter_enum he ?_
      have I2 : L2.Inv X pins σ H1 { s1 with heap := h' } := I1.kept (t' := s1.toks) hk
      refine ⟨s1.heap.objs.size + 1, [s1.heap.objs.size + 1, s1.heap.objs.size], _, _, H1, rfl, I2, turn_enum a (s1.heap.objs.size + 1) s1.heap.objs.size, ⟨⟨.none, he⟩, hit, Nat.succ_ne_self _⟩, fun b hb => ?_, q⟩
      have e' : b = s1.heap.objs.size + 1 ∨ b = s1.heap.objs.size := by simpa using hb
      have hle : s1.heap.objs.size ≤ b := by
        rcases e' with z | z
        · rw [z]; exact Nat.le_add_right _ _
        · rw [z]; exact Nat.le_refl _
      exact I1.fpOk hle (I1.hok.fresh hle)
  · subst ex
    cases r1 with
    | cons r rr =>
      cases rr
      obtain ⟨t, rfl⟩ := r
      refine call_enumerate_str fun h' he hit hsz hk => wpAny_pyIter_enum he ?_
      have I2 : L2.Inv X pins σ H1 { s1 with heap := h' } := I1.kept (t' := s1.toks) hk
      refine ⟨s1.heap.objs.size + 1, [s1.heap.objs.size + 1, s1.heap.objs.size], _, _, H1, rfl, I2, turn_enumS (s1.heap.objs.size + 1) s1.heap.objs.size x t, ⟨⟨.none, he⟩, hit, Nat.succ_ne_self _⟩, fun b hb => ?_, q⟩
      have e' : b = s1.heap.objs.size + 1 ∨ b = s1.heap.objs.size := by simpa using hb
      have hle : s1.heap.objs.size ≤ b := by
        rcases e' with z | z
        · rw [z]; exact Nat.le_add_right _ _
        · rw [z]; exact Nat.le_refl _
      exact I1.fpOk hle (I1.hok.fresh hle)
theorem walk_enumS {x : Str} : Walk (Ies x) x.cps.size (fun _ => True) (YPair (fun i => some (.int (i : Nat))) (fun i => (x.cps[i]?).map fun c => V.str ⟨#[c]⟩)) := by
  refine ⟨fun i _ hi _ => hi, fun _ _ => rfl, fun i H v H' _ _ y => ?_⟩
  obtain ⟨T, c, h1, h2, h3, h4⟩ := y
  exact ⟨T, .int (i : Nat), .str ⟨#[c]⟩, h1, h2, h3, rfl, by show Option.map _ (x.cps[i]?) = _; rw [h4]; rfl⟩
theorem itOk_enumS {K : PySem.W.Frag} {S : SS} {x : Str} : ItOk K S (Ies x) (enm 0 (signs x)) := by
  have hl : (signs x).length = x.cps.size := by unfold signs; simp
  refine ItOk.pairs (G := fun _ => True) (by rw [enm_len, hl]; exact walk_enumS) (fun S' H le sm => trivial) ?_
  intro i S' a b le hx hy
  cases hx
  cases hc : x.cps[i]? with
  | none => rw [hc] at hy; cases hy
  | some c =>
    rw [hc] at hy
    cases hy
    refine ⟨.int (i : Nat), .str ⟨#[c]⟩, ?_, rfl, rfl, by show 1 ≤ sizeLine; decide⟩
    have e1 : (signs x)[i]? = some (.str ⟨#[c]⟩) := by
      unfold signs
      rw [List.getElem?_map]
      simp [hc]
    have := enm_at 0 i (signs x) _ e1
    simpa using this
/-- enumerate of a list or a text -/
def gEnm4 : List AV → EF (List D)
  | [.d d] => match lsOf d with
    | some ds => eRet (enm 0 ds)
    | none => match d with
      | .str x => eRet (enm 0 (signs x))
      | _ => fun _ => none
  | _ => fun _ => none
theorem di_enum4 {X : Cx} {W : WX} {a : Expr} {f : EF (List AV)} {p pos tpos : Pos} {elts : List Expr} {kk : Nat} (hm : X.mg "enumerate" = none) (ha : DA X W [a] f) (hs : starEach [a] X.env = [(false, eval a X.env)] := by rfl) (hg : Gl X "enumerate" := by rfl) :
    DI X W (.Tuple elts kk tpos) (.Call (.Name "enumerate" p) [a] [] pos) (eBind f gEnm4) := by
  refine pi_imp (pi_enum4 hg hm ha hs) ?_
  rintro σ H R ⟨S, env, z⟩
  refine ⟨S, env, (At.bind (R := RAl X.K) z).imp fun vs H1 ⟨as, S1, e1, r, st, z1⟩ => ?_⟩
  unfold gEnm4 at z1
  split at z1
  · rename_i d
    obtain ⟨v, r0, rfl, rv, e0⟩ := r
    have e0' : r0 = [] := e0
    subst e0'
    split at z1
    · rename_i ds hd
      obtain ⟨a, xs, rfl, hq, rr⟩ := lsOf_rep hd rv
      exact .inl ⟨a, xs, rfl, (Le.of z1.rel.sub).sqL hq, z1.ret (itOk_enum hq rr)⟩
    · split at z1
      · rename_i x hx
        obtain ⟨rfl, hl⟩ := rv
        exact .inr ⟨x, rfl, z1.ret itOk_enumS⟩
      · exact (z1.none rfl).elim
  · exact (z1.none rfl).elim
end Mir

namespace Mir
open PySem PySem.Spec PyProof.Rows L2
/-! ## the mirrors, one step at a time -/
/-- a slot that holds a value or nothing -/
def Vs (x : Option Sl) : Prop := x = none ∨ ∃ d, x = some (.v d)
theorem eBind_of {α β : Type} {f : EF α} {g : α → EF β} {e e1 : ME} {a : α} {r : Option (Res β × ME)} (h : f e = some (.ok a, e1)) (h2 : g a e1 = r) : eBind f g e = r := by
  unfold eBind
  rw [h]
  exact h2
theorem sBind_of {α : Type} {f : EF α} {g : α → SF} {e e1 : ME} {a : α} {r : Option (Out × ME)} (h : f e = some (.ok a, e1)) (h2 : g a e1 = r) : sBind f g e = r := by
  unfold sBind
  rw [h]
  exact h2
theorem eCall_of {mf : MF} {fas : EF (List AV)} {e e1 : ME} {as : List AV} {sl sl' : List Sl} {ce : CEs} {r : Res FR} (h1 : fas e = some (.ok as, e1)) (hn : (ixs as).Nodup) (h2 : lend e1.sl as = some sl) (f1 : (sl.all Sl.flat) = true) (h3 : mf sl [] = some (r, sl', ce)) (f2 : (sl'.all Sl.flat && rFlat r) = true) :
    eCall mf fas e = some (r, ⟨putB e1.sl as sl', e1.ce⟩) := by
  show eCallG false mf fas e = _
  rw [eCall_k, h1]
  cases r <;> (rw [kB_ok, kCall_k, if_pos hn, h2, kC0_k, if_pos f1, h3, kC_k, if_pos f2])
theorem sFor_of {fi : EF (List D)} {g : TF} {b : SF} {e e1 : ME} {ds : List D} (h : fi e = some (.ok ds, e1)) : sFor fi g b e = sLoop g b ds e1 := sBind_of h rfl
theorem seqN {f g : SF} {e e1 : ME} (h : f e = some (.nx, e1)) : sSeq f g e = g e1 := by
  unfold sSeq
  rw [h]
theorem seqA (f g h : SF) : sSeq (sSeq f g) h = sSeq f (sSeq g h) := funext fun e => by
  unfold sSeq
  cases f e with
  | none => rfl
  | some x =>
    obtain ⟨o, e1⟩ := x
    cases o <;> rfl
end Mir

/-! ## the built-in base KeyError: its __new__ is LookupError's -/
namespace PySem.F
theorem mir_storeKey : StoreFacts "KeyError" [.type "KeyError", .type "LookupError", .type "Exception", .type "BaseException", .type "object"] "object.__setattr__" "object" := { mro := by kernel_rfl, slot := .of (owner := "object") (n := "__setattr__") (by rw [typeLookup_type, builtinLookup_eq_fast]; kernel_rfl) (by decide +kernel) (by decide +kernel) (by decide +kernel) (by first | exact .inl (by decide +kernel) | exact .inr (by decide +kernel)) (by rw [isSubtype_type]; kernel_rfl), entry := entry_object_sa, kind := by decide +kernel, split := by decide +kernel, hasOwner := by decide +kernel, args := fun a b c => by unfold argsOk; kernel_rfl, passes := fun self => by kernel_rfl }
theorem mir_entryKey : entryFor table "KeyError.__init__" = some Builtin.«BaseException.__init__» := entryFor_alias (id' := "BaseException.__init__") (by rw [fastTable_eq_tree]; kernel_rfl) (by first | rfl | decide +kernel) (by decide +kernel) (by rw [fastTable_eq_tree]; kernel_rfl)
end PySem.F
namespace Mir
open PySem PySem.Spec PyProof.Rows L2
theorem kxs_key : PySem.W.KxsFacts "KeyError" "KeyError.__init__" := { typ := by show builtinType _ = _; rw [builtinType_eq_fast]; kernel_rfl, nac := by first | kernel_rfl | rfl }
theorem b_key : ExcB0 "KeyError" "KeyError.__init__" "LookupError.__new__" [.type "KeyError", .type "LookupError", .type "Exception", .type "BaseException", .type "object"] :=
  ⟨kxs_key, ⟨by kernel_rfl, by kernel_rfl, by decide +kernel, PySem.F.mir_entryKey, by decide +kernel⟩, ⟨"LookupError", "LookupError.__init__", _, PySem.F.excBase_LookupError, by decide +kernel⟩, by decide +kernel, by decide +kernel, PySem.F.mir_storeKey⟩
end Mir

namespace Mir
open PySem PySem.Spec PyProof.Rows L2
/-! ## an own exception as a value: C(e), C(p = e) -/
def tXv (C : Addr) (fld : Str) (te : TE) : TE := fun σ H Q => te σ H fun x H1 => ∀ a dx, H1 a = none → H1 dx = none → a ≠ dx → Q (.ref a) (upd (upd H1 dx (.xd [(fld, x)])) a (ExH (.ref C) (some dx) a))
theorem x_laid {X : Cx} {pins : List (Addr × Obj)} {σ : L2.St} {H : Hp} {Q : VK} {hp h2 : Heap} {g : Array GenState} {d : Drawn} {tk tk' k : Nat} {os : OsState} {C t2 dx : Addr} {fld : Str} {x : V} {v : Value} (I : L2.Inv X pins σ H ⟨hp, g, d, tk, os⟩) (rx : RelV x v)
    (kk : ∀ b o, hp.get? b = some o → h2.get? b = some o) (he : h2.get? (hp.objs.size + 1) = some (PySem.W.excObj C t2 (some dx) .none)) (hd : h2.get? dx = some (PySem.W.dictOf (xEs X.w fld k v) 1)) (lt : hp.objs.size + 1 < dx)
    (q : ∀ a dx, H a = none → H dx = none → a ≠ dx → Q (.ref a) (upd (upd H dx (.xd [(fld, x)])) a (ExH (.ref C) (some dx) a))) : EP X pins σ Q (.ref (hp.objs.size + 1)) ⟨h2, g, d, tk', os⟩ := by
  have nE : H (hp.objs.size + 1) = none := I.hok.fresh (Nat.le_succ _)
  have nD : H dx = none := I.hok.fresh (Nat.le_of_lt (Nat.lt_of_succ_lt lt))
  have ne : hp.objs.size + 1 ≠ dx := Nat.ne_of_lt lt
  have ns := ns_one (h := h2) hd
  have J : L2.Inv X pins σ (upd H dx (.xd [(fld, x)])) ⟨h2, g, d, tk', os⟩ := I.laid (t' := tk') (a := dx) (o := .xd [(fld, x)]) (h' := h2) kk (Nat.le_of_lt (Nat.lt_of_succ_lt lt)) ⟨_, ns, fun f => by
    by_cases hf : f = fld
    · subst hf
      have z : RelO (some x) (some v) := rx
      simpa using z
    · have : (f == fld) = false := by
        rw [beq_eq_false_iff_ne]
        exact hf
      have z : List.lookup f [(fld, x)] = none := by simp [List.lookup, this]
      rw [z]
      simp only [if_neg hf]
      exact trivial⟩
  have fp := I.fpOk (b := hp.objs.size + 1) (H' := H) (Nat.le_succ _) nE
  have T : L2.Inv X pins σ (upd (upd H dx (.xd [(fld, x)])) (hp.objs.size + 1) (ExH (.ref C) (some dx) (hp.objs.size + 1))) ⟨h2, g, d, tk', os⟩ := by
    refine inv_track J (by rw [upd_ne ne]; exact nE) (fun u e _ => ?_) fp.2.1 fp.2.2.2.2.1 fp.2.2.2.2.2 ⟨⟨_, _, he, ⟨rfl, rfl⟩, rfl⟩, ⟨_, he⟩, fun g1 g2 ⟨u, us, q1, q2, q3⟩ k => ⟨u, us, k u q1, q2, q3⟩⟩
    exact absurd (Nat.lt_of_lt_of_le (Heap.lt_size e) I.sz) (Nat.not_lt.mpr (Nat.le_succ _))
  exact ⟨.ref (hp.objs.size + 1), _, T, rfl, q _ dx nE nD ne⟩
section
variable {X : Cx} {W : WX} {B i newId : String} {bmB : List Value} {Ca : Addr} {par fld C : Str} {e : Expr} {te : TE} {p pos kpos : Pos} {k : Nat}
theorem pe_xv (T : ExcB0 B i newId bmB) (D : ExcK X.prog X.K Ca par fld B i newId bmB) (N : ExcN X C Ca) (hr : Room (k + 1) X.A) (gs : X.mg "super" = none) (he : PE X e te) (hg : Gl X C := by rfl) (hdb : (C == ("__debug__" : Str)) = false := by decide)
    (hst : starEach [e] X.env = (false, eval e X.env) :: starEach [] X.env := by rfl) : PE X (.Call (.Name C p) [e] [] pos) (tXv Ca fld te) := by
  refine ⟨fun pins s σ H Q I h => ?_⟩
  refine wpAny_Call_Name_kw (ld_glob I hg N.at_ ?_ hdb)
  refine PySem.W.callWith_K (h₀ := X.base) I.ok.mod.kin N.kp (thn ((pa_cons he pa_nil hst).run pos pins s σ H (fun vs H1 => match vs with
      | [x] => ∀ a dx, H1 a = none → H1 dx = none → a ≠ dx → Q (.ref a) (upd (upd H1 dx (.xd [(fld, x)])) a (ExH (.ref Ca) (some dx) a))
      | _ => False) I h) fun us s1 ⟨vs, H1, I1, r, q⟩ => ⟨I1.kIn, ?_⟩) hst rfl
  match vs, q with
  | [x], q =>
      obtain ⟨v, rfl, rx⟩ := vals1 r
      obtain ⟨hp, g, d, tk, os⟩ := s1
      obtain ⟨mb, hb1, hb2⟩ := I1.ok.mod.blt
      have hroom : (X.A.under (.builtin "type.__call__" ⟨[.ref Ca, v], []⟩)).depth < recursionLimit := by
        have := hr.dp
        rw [make_depth]
        omega
      refine x_call T D (.inl ⟨rfl, rfl⟩) I1.kIn I1.nolimit (I1.ok.mod.glob.keeps I1.bk) gs (hb1.keeps I1.bk) ((hb2 _ (by decide)).trans rfl) hroom fun t2 dx kz tk' h' k1 k2 k3 k4 => ?_
      exact x_laid I1 rx k1 k2 k3 k4 q
theorem pe_xvK (T : ExcB0 B i newId bmB) (D : ExcK X.prog X.K Ca par fld B i newId bmB) (N : ExcN X C Ca) (hr : Room (k + 1) X.A) (gs : X.mg "super" = none) (he : PE X e te) (hg : Gl X C := by rfl) (hdb : (C == ("__debug__" : Str)) = false := by decide)
    (hks : (backToKw pos (keywordEach [⟨some par, e, kpos⟩] X.env)).filterMap (·.1) = [par] := by rfl) (hall : (backToKw pos (keywordEach [⟨some par, e, kpos⟩] X.env)).all (·.1.isSome) = true := by rfl)
    (hpl : ((backTo pos (starEach [] X.env)).any (·.1) || (backToKw pos (keywordEach [⟨some par, e, kpos⟩] X.env)).any (·.1.isNone)) = false := by rfl) : PE X (.Call (.Name C p) [] [⟨some par, e, kpos⟩] pos) (tXv Ca fld te) := by
  refine ⟨fun pins s σ H Q I h => ?_⟩
  refine wpAny_Call_Name_kw (ld_glob I hg N.at_ ?_ hdb)
  refine PySem.W.callWith_KW0 (h₀ := X.base) I.ok.mod.kin N.kp hall (thn ((pk_cons (nm := some par) (kpos := kpos) he pk_nil).run pos pins s σ H (fun vs H1 => match vs with
      | [x] => ∀ a dx, H1 a = none → H1 dx = none → a ≠ dx → Q (.ref a) (upd (upd H1 dx (.xd [(fld, x)])) a (ExH (.ref Ca) (some dx) a))
      | _ => False) I h) fun us s1 ⟨vs, H1, I1, r, q⟩ => ⟨I1.kIn, ?_⟩) hpl
  rw [hks]
  match vs, q with
  | [x], q =>
      obtain ⟨v, rfl, rx⟩ := vals1 r
      obtain ⟨hp, g, d, tk, os⟩ := s1
      obtain ⟨mb, hb1, hb2⟩ := I1.ok.mod.blt
      have hroom : (X.A.under (.builtin "type.__call__" ⟨[.ref Ca], [(par, v)]⟩)).depth < recursionLimit := by
        have := hr.dp
        rw [make_depth]
        omega
      refine x_call (us := []) (kw := [(par, v)]) T D (.inr ⟨rfl, rfl⟩) I1.kIn I1.nolimit (I1.ok.mod.glob.keeps I1.bk) gs (hb1.keeps I1.bk) ((hb2 _ (by decide)).trans rfl) hroom fun t2 dx kz tk' h' k1 k2 k3 k4 => ?_
      exact x_laid I1 rx k1 k2 k3 k4 q
def eXmk (C fld : Str) (f : EF D) : EF D := eBind f fun d => eRet (.exc C [(fld, d)])
theorem xmk_at {K : PySem.W.Frag} {f : EF D} {σ : L2.St} {H : Hp} {Q : VK} (cn : ClsN K C Ca) (h : tr K W (RD K) (eXmk C fld f) σ H Q) : tXv Ca fld (tr K W (RD K) f) σ H Q := by
  obtain ⟨S, env, z⟩ := h
  refine ⟨S, env, (At.bind (R := RD K) z).imp fun x H1 ⟨d, S1, e1, r, st, z1⟩ a dx na nd hne => ?_⟩
  have a1 := z1.rel.alloc (o := HO.xd [(fld, x)]) nd
  have a2 := a1.rel.alloc (p := a) (o := ExH (.ref Ca) (some dx) a) (by rw [upd_ne hne]; exact na)
  refine z1.ret' (a1.trans a2) ⟨Ca, a, dx, [(fld, x)], cn, rfl, upd_same, ?_, x, [], rfl, Rep.mono (a1.trans a2).le _ _ r, rfl⟩
  show upd (upd S1.hp dx _) a _ dx = _; rw [upd_ne (Ne.symm hne)]
  exact upd_same
theorem de_xmk {f : EF D} (T : ExcB0 B i newId bmB) (D : ExcK X.prog X.K Ca par fld B i newId bmB) (N : ExcN X C Ca) (hr : Room (k + 1) X.A) (gs : X.mg "super" = none) (he : DE X W e f) (hg : Gl X C := by rfl) (hdb : (C == ("__debug__" : Str)) = false := by decide)
    (hst : starEach [e] X.env = (false, eval e X.env) :: starEach [] X.env := by rfl) : DE X W (.Call (.Name C p) [e] [] pos) (eXmk C fld f) := pe_imp (pe_xv T D N hr gs he hg hdb hst) fun σ H Q h => xmk_at N.cn h
theorem de_xmkK {f : EF D} (T : ExcB0 B i newId bmB) (D : ExcK X.prog X.K Ca par fld B i newId bmB) (N : ExcN X C Ca) (hr : Room (k + 1) X.A) (gs : X.mg "super" = none) (he : DE X W e f) (hg : Gl X C := by rfl) (hdb : (C == ("__debug__" : Str)) = false := by decide)
    (hks : (backToKw pos (keywordEach [⟨some par, e, kpos⟩] X.env)).filterMap (·.1) = [par] := by rfl) (hall : (backToKw pos (keywordEach [⟨some par, e, kpos⟩] X.env)).all (·.1.isSome) = true := by rfl)
    (hpl : ((backTo pos (starEach [] X.env)).any (·.1) || (backToKw pos (keywordEach [⟨some par, e, kpos⟩] X.env)).any (·.1.isNone)) = false := by rfl) : DE X W (.Call (.Name C p) [] [⟨some par, e, kpos⟩] pos) (eXmk C fld f) := pe_imp (pe_xvK T D N hr gs he hg hdb hks hall hpl) fun σ H Q h => xmk_at N.cn h
end
end Mir

namespace Mir
open PySem PySem.Spec PyProof.Rows L2
/-! ## an exception that leaves a comprehension -/
/-- a callee's exception, in flight over the frames of X -/
def Air (X : Cx) (Wb : Value → Option Addr → Hp → Prop) (u : Value) (s' : Shared) : Prop :=
  ∃ (a : Addr) (B : Heap) (sI : Shared) (pins : List (Addr × Obj)) (τ : L2.St) (G : Hp) (cls : Value) (d : Option Addr), u = .ref a ∧ L2.Inv X pins τ G sI ∧ (∀ b o, sI.heap.get? b = some o → b ∉ frs X.stack → B.get? b = some o) ∧ sI.heap.UpToSlots s'.heap ∧
    HandSPX.FlyingZ B X.stack a (Zc cls d) s'.heap ∧ G a = none ∧ s'.os = sI.os ∧ AllBare s'.gens ∧ Wb cls d G
section
variable {X : Cx} {pins : List (Addr × Obj)} {σ : L2.St} {H : Hp} {s s' : Shared} {Wb : Value → Option Addr → Hp → Prop}
theorem air_of_call (I : L2.Inv X pins σ H s) {E : XK} (hW : ∀ cls d H', E cls d H' → Wb cls d H') {u : Value} (c : L2.CX X.prog X.w X.stack H s E u s') : Air X Wb u s' := by
  obtain ⟨a, B, G, cls, d, rfl, fl, hok, ub, na, os, ag, hE⟩ := c
  obtain ⟨Z, z1, z2⟩ := restrict s'.heap fun b => (B.get? b).isSome || decide (b ∈ frs X.stack)
  have inB : ∀ b o, B.get? b = some o → Z.get? b = some o := fun b o e => (z1 b (by simp [e])).trans (fl.1 b o e)
  have inF : ∀ b, b ∈ frs X.stack → Z.get? b = s'.heap.get? b := fun b hb => z1 b (by simp [hb])
  have old : ∀ b o, Z.get? b = some o → s'.heap.get? b = some o ∧ ((B.get? b).isSome = true ∨ b ∈ frs X.stack) := by
    intro b o e
    cases q : ((B.get? b).isSome || decide (b ∈ frs X.stack)) with
    | false =>
      rw [z2 b q] at e
      cases e
    | true =>
      rw [z1 b q] at e
      exact ⟨e, by simpa [Bool.or_eq_true] using q⟩
  refine ⟨a, B, { s with heap := Z, gens := s'.gens, drawn := s'.drawn, toks := s'.toks }, pins, σ, G, cls, d, rfl, ?_, fun b o e hb => ?_, Heap.UpToSlots.of_keeps fun b o e => (old b o e).1, fl, na, os, ag, hW _ _ _ hE⟩
  · refine I.call (ch := []) ⟨fun b o e n hb _ => inB b o (ub.keep b o e n hb), fun b o e n hb _ => ?_, fun b o e n _ => ub.free b o e n, fun b o e _ => ?_, ub.tups, ub.frzs, ub.tbls⟩ (hok.kept inB) ag (fun _ z => nomatch z)
    · obtain ⟨sl, q⟩ := ub.slot b o e hb
      exact ⟨sl, (inF b hb).trans q⟩
    · by_cases hb : b ∈ frs X.stack
      · obtain ⟨sl, q⟩ := ub.slot b o e hb
        exact ⟨_, (inF b hb).trans q⟩
      · obtain ⟨o', q⟩ := ub.there b o e hb
        exact ⟨o', inB b o' q⟩
  · obtain ⟨e', h⟩ := old b o e
    rcases h with h | h
    · obtain ⟨o', q⟩ := Option.isSome_iff_exists.mp h
      rw [fl.1 b o' q] at e'
      cases e'
      exact q
    · exact absurd h hb
theorem inv_xe (I : L2.Inv X pins σ H s) (xe : Value → Shared → Prop) : L2.Inv (X.tr X.pn xe) pins σ H s := ⟨I.ok.toTry _ _, I.os, I.bare, I.base, I.loc, I.cell, I.free, I.freeC, I.pin, I.hok, I.len⟩
theorem inv_ofxe {xe : Value → Shared → Prop} (ok : X.Ok) (I : L2.Inv (X.tr X.pn xe) pins σ H s) : L2.Inv X pins σ H s := ⟨ok, I.os, I.bare, I.base, I.loc, I.cell, I.free, I.freeC, I.pin, I.hok, I.len⟩
/-- the block's context, its elements' exceptions in the air -/
abbrev airX (X : Cx) (Wb : Value → Option Addr → Hp → Prop) : Cx := X.tr X.pn (Air X Wb)
theorem tkc_air (ok : X.Ok) : TkC (airX X Wb) (fun cls d _ G => Wb cls d G) := fun σ pins H s e s' I c => air_of_call (inv_ofxe ok I) (fun _ _ _ h => h) c
/-- held over the frames, the ground and the heap without C -/
theorem held_drop {B h h' : Heap} {l : List PySem.Env} {a C L : Addr} {Z : Obj → Prop} {m : Str → Option Value} (hh : HandSPX.HeldZ B l a Z L h) (hn : h.Ns C m) (sb : Heap.SameBut C h h') {m' : Str → Option Value} (hn' : h'.Ns C m') {B' : Heap} (b1 : ∀ b, b ≠ C → B'.get? b = B.get? b) (b2 : B'.get? C = none) : HandSPX.HeldZ B' l a Z L h' := by
  obtain ⟨st, na, ff, oe, vs, T, oT, ts, he, hz, hd, h1, hnT, hTe, hT, hdT, h3⟩ := hh
  obtain ⟨oC, es, ep, hoC, hdC, _⟩ := hn
  have nf : ∀ (b : Addr) (o : Obj) (vs : Array Value), h.get? b = some o → o.data = .fields vs → b ≠ C := by
    intro b o vs e d z
    rw [z, hoC] at e
    cases e
    rw [hdC] at d
    cases d
  have le : ∀ b, B'.get? b = none ∨ B'.get? b = B.get? b := fun b => by
    by_cases z : b = C
    · rw [z]; exact .inl b2
    · exact .inr (b1 b z)
  have noB : ∀ b, B.get? b = none → B'.get? b = none := fun b e => (le b).elim id fun q => q.trans e
  refine ⟨fun b o e => ?_, noB a na, ?_, oe, vs, T, oT, ts, (sb.2 a (nf a oe vs he hd)).trans he, hz, hd, h1, noB T hnT, hTe, (sb.2 T (nf T oT ts hT hdT)).trans hT, hdT, h3⟩
  · have hb : b ≠ C := fun z => by rw [z, b2] at e; cases e
    rw [b1 b hb] at e
    exact (sb.2 b hb).trans (st b o e)
  · have key : ∀ l : List PySem.Env, h.FunFrames B l → h.FunFrames B' l := by
      intro l
      induction l with
      | nil => exact fun _ => trivial
      | cons e r ih =>
        rintro ⟨k, ⟨L', o, hf, hb, ho, hnd⟩, hr⟩
        exact ⟨k, ⟨L', o, hf, noB L' hb, ho, hnd⟩, ih hr⟩
    exact (key l ff).sameBut sb hn'
end
section
variable {X Y : Cx} {W : WX} {σ : L2.St}
/-- out of the block Y of X -/
theorem air_out {u : Value} {s1 : Shared} {ce : PySem.Env} {pn : List (Addr × Obj)} {use : Option (Value → Sem Unit)} {Qf : Value → Shared → Prop} {acc : Value} (tk : L2.Takes X W) (hst : X.stack = X.env :: X.outer) (hf : X.env.frame = some X.env.locals) (hfr : X.A.frames = some X.stack)
    (hcf : ce.frame = X.env.frame) (yS : Y.stack = X.stack) (yE : Y.env = ce) (back : ∀ {pins : List (Addr × Obj)} {τ : L2.St} {G : Hp} {sI : Shared}, L2.Inv Y pins τ G sI → L2.Inv X pn σ G sI) (fpC : ∀ G : Hp, G ce.locals = none → FpOk X pn G ce.locals)
    (x : Air Y (fun cls d G => W cls d σ G) u s1) : notedBy (model X.prog X.w) X.A ce (fun e s' => compEnds (model X.prog X.w) X.A X.xe use Qf acc ce (.error e) s') u s1 := by
  obtain ⟨a, B, sI, pins, τ, G, cls, d, rfl, I, nb, up, fl, na, os, ag, w⟩ := x
  rw [yS] at nb fl
  have hnf : noteFrame (.ref a) ce = noteFrame (.ref a) X.env := by
    unfold noteFrame PySem.frameOf
    rw [hcf]
  show wpAny (model X.prog X.w) X.A (noteFrame (.ref a) ce) _ _ s1
  rw [hnf]
  rw [hst] at fl
  refine HandSPX.looks_onZ Zc.steady (by rw [hfr, hst]) hf fl fun h1 hh up1 => ?_
  have upA := up.trans up1
  obtain ⟨m, ⟨o, es, ep, ho, hd, r⟩, _⟩ := I.loc
  rw [yE] at ho
  obtain ⟨sl, q1⟩ := upA _ _ ho (fun vs z => by rw [hd] at z; cases z)
  have hn1 : h1.Ns ce.locals m := ⟨_, es, ep, q1, hd, r⟩
  refine (show CompFails _ _ _ _ _ _ from ⟨m, hn1, fun h2 m2 hn2 sb => ?_⟩)
  obtain ⟨B2, g1, g2⟩ := restrict B fun b => decide (b ≠ ce.locals)
  obtain ⟨G2, k1, k2⟩ := restrict sI.heap fun b => decide (b ≠ ce.locals)
  have hB : ∀ b, b ≠ ce.locals → B2.get? b = B.get? b := fun b hb => g1 b (decide_eq_true hb)
  have hBC : B2.get? ce.locals = none := g2 _ (by simp)
  have hG : ∀ b, b ≠ ce.locals → G2.get? b = sI.heap.get? b := fun b hb => k1 b (decide_eq_true hb)
  have hGC : G2.get? ce.locals = none := k2 _ (by simp)
  have hh2 := held_drop hh hn1 sb hn2 hB hBC
  have nC : G ce.locals = none := by
    have z := I.free
    rwa [yE] at z
  obtain ⟨f0, f1, f2, f3, f4, f5⟩ := fpC G nC
  have J : L2.Inv X pn σ G { sI with heap := G2 } := (back I).turned (t' := sI.toks) (h' := G2) (fun b o hb e => (hG b hb).trans e) f0 f1 f3 f4 f5
  obtain ⟨_, _, _, oe, vs, T, oT, ts, he, hz, hdd, hv1, hnT, hTe, hT, hdT, h3⟩ := id hh2
  unfold PySem.passOn
  refine wpAny_bind (wpAny_field he hdd hv1 ?_)
  rw [if_neg (show ¬ ((Value.ref T == Value.none) = true) from by simp)]
  have fin : wpAny (model X.prog X.w) X.A (setFlight (.ref a) ce.frame) (fun _ s4 => wpAny (model X.prog X.w) X.A (throw (.ref a) : Sem Value) (fun _ _ => False) X.xe s4) X.xe { s1 with heap := h2 } := by
    rw [hcf, hf]
    refine HandSPX.setFlight_onZ hh2 fun h4 hh4 up4 => wpAny_throw (tk _ _ ?_)
    refine ⟨a, B2, { sI with heap := G2 }, pn, σ, G, cls, d, rfl, J, fun b o e hb => ?_, fun b o e hnd => ?_, .inr (.inr (by rw [hst]; exact hh4)), na, os, ag, w⟩
    · have ne : b ≠ ce.locals := fun z => by rw [z] at e; rw [show G2.get? ce.locals = none from hGC] at e; cases e
      rw [hB b ne]
      exact nb b o ((hG b ne).symm.trans e) hb
    · have ne : b ≠ ce.locals := fun z => by rw [z] at e; rw [show G2.get? ce.locals = none from hGC] at e; cases e
      obtain ⟨sl1, e1⟩ := upA b o ((hG b ne).symm.trans e) hnd
      obtain ⟨sl2, e2⟩ := up4 b _ ((sb.2 b ne).trans e1) hnd
      exact ⟨sl2, e2⟩
  first
    | exact wpAny_bind (wpAny_pure (wpAny_bind fin))
    | exact wpAny_bind fin
end
end Mir

namespace Mir
open PySem PySem.Spec PyProof.Rows L2
/-! ## [el for tg in iter if ..], el may raise -/
section
variable {X : Cx} {W : WX}
theorem lcx_core {pn : List (Addr × Obj)} {s : Shared} {σ : L2.St} {H : Hp} {Q : VK} {el tg it : Expr} {ifs : List Expr} {sc : Scope} {own : List (Str × Nat)} {pos p2 : Pos} {wi : TI} {g : TG} {tt : TT} {te : TE} {use : Option (Value → Sem Unit)} {Qf : Value → Shared → Prop}
    (calm : X.calm = true) (tk : L2.Takes X W) (hst : X.stack = X.env :: X.outer) (hf : X.env.frame = some X.env.locals) (hN : X.N.Nodup) (I : L2.Inv X pn σ H s) (hi : PI X tg it wi) (ok : BlkOk X.N X.env.scope sc own)
    (pgs : ∀ s H C cl fp, PG (X.blk s H sc (compEnvC sc cl C X.env) fp) tg g) (pts : ∀ s H C cl fp, PTs (X.blk s H sc (compEnvC sc cl C X.env) fp) ifs tt) (pes : ∀ s H C cl fp, (X.blk s H sc (compEnvC sc cl C X.env) fp).Ok → PE (airX (X.blk s H sc (compEnvC sc cl C X.env) fp) (fun cls d G => W cls d σ G)) el te)
    (hs : ∀ x, foldedSetIterable it X.env x = pure x) (h : tLc wi g tt te (own.map (·.2)) σ H Q)
    (out : ∀ (L : Addr) (ce : PySem.Env) (s2 : Shared) (m : Str → Option Value) (G : Hp), L2.Inv X pn σ G s2 → Q (.ref L) G → s2.heap.Ns ce.locals m → FpOk X pn G ce.locals → compEnds (model X.prog X.w) X.A X.xe use Qf (.ref L) ce (.ok .next) s2) :
    wpAny (model X.prog X.w) X.A (comprehension (.ListComp el [⟨tg, it, ifs, 0⟩] sc pos) sc X.env p2 (newList []) false (eval it X.env) use) Qf X.xe s := by
  have fr : ∀ y ∈ sc.names, y.2 = .free → ∃ c, X.env.cells.lookup y.1 = some c := by
    intro y hy e
    rcases ok.free y hy e with q | q
    · exact I.ok.has _ (.inl q)
    · exact I.ok.has _ (.inr q)
  refine comprehension_at (use := use) rfl hs (closure_ok fr) ok.kind (fun y hy e => by rw [ok.uniq y hy, e]) (thn (hi.run pn s σ H _ I h) fun xv s1 hx => thn hx fun itv s2 h2 => ?_)
  obtain ⟨itr, fp, tn, J, G, e, I2, T, st2, f2, q⟩ := h2
  subst e
  refine wpAny_newObj_type (newEnv_comp ?_) (by show 0 ≤ sizeLine; decide)
  have hLn : G s2.heap.objs.size = none := I2.hok.fresh (Nat.le_refl _)
  obtain ⟨V, ⟨m0, v0⟩, turn⟩ := q _ hLn
  have kp3 : ∀ b o, s2.heap.get? b = some o → (s2.heap.push { cls := .type "list", data := .seq ([] : List Value).toArray }).get? b = some o := fun b o e => Heap.get?_push_of_some _ e
  have I3 := I2.laid (t' := s2.toks) (o := .lst []) kp3 (Nat.le_refl _) ⟨Nat.zero_le _, [], 0, .nil, Heap.get?_push_size _ rfl⟩
  have sz : ∀ b ∈ fp, b < s2.heap.objs.size := by
    intro b hb
    obtain ⟨o, e, _⟩ := T.obj _ _ st2 b hb
    exact Heap.lt_size e
  have st3 := T.keep _ _ _ st2 fun b _ o e => kp3 b o e
  have hz : s2.heap.objs.size < (s2.heap.push { cls := .type "list", data := .seq ([] : List Value).toArray }).objs.size := by rw [Heap.size_push]; exact Nat.lt_succ_self _
  generalize hh3 : s2.heap.push { cls := .type "list", data := .seq ([] : List Value).toArray } = h3 at *
  generalize s2.heap.objs.size = L at *
  generalize hs3 : ({ s2 with heap := h3, toks := s2.toks } : Shared) = s3 at *
  have eh : s3.heap = h3 := by rw [← hs3]
  have f3 : ∀ b ∈ fp, FpOk X pn (upd G L (.lst [])) b ∧ b < s3.heap.objs.size := by
    intro b hb
    have lt := sz b hb
    refine ⟨⟨?_, (f2 b hb).2⟩, ?_⟩
    · rw [upd_ne (Nat.ne_of_lt lt)]
      exact (f2 b hb).1
    · rw [eh]
      exact Nat.lt_trans lt hz
  have I4 := block_start I3 ok hN f3
  have pg := pgs s3 (upd G L (.lst [])) s3.heap.objs.size (cellsFrom (s3.heap.objs.size + 1) sc.names (cloFrom X.env.cells sc.names [])) fp
  have pt := pts s3 (upd G L (.lst [])) s3.heap.objs.size (cellsFrom (s3.heap.objs.size + 1) sc.names (cloFrom X.env.cells sc.names [])) fp
  have pe := pes s3 (upd G L (.lst [])) s3.heap.objs.size (cellsFrom (s3.heap.objs.size + 1) sc.names (cloFrom X.env.cells sc.names [])) fp I4.ok
  have goal : codeAny (model X.prog X.w) X.A (.compStart (.ListComp el [⟨tg, it, ifs, 0⟩] sc pos) 0 (.ref itr) (.ref L) (compEnvC sc (cellsFrom (s3.heap.objs.size + 1) sc.names (cloFrom X.env.cells sc.names [])) s3.heap.objs.size X.env)) (compEnds (model X.prog X.w) X.A X.xe use Qf (.ref L) (compEnvC sc (cellsFrom (s3.heap.objs.size + 1) sc.names (cloFrom X.env.cells sc.names [])) s3.heap.objs.size X.env)) { s3 with heap := pushCells (s3.heap.push { cls := .type "dict", data := .dict #[] }) sc.names } := by
    have cF : (compEnvC sc (cellsFrom (s3.heap.objs.size + 1) sc.names (cloFrom X.env.cells sc.names [])) s3.heap.objs.size X.env).frame = X.env.frame := rfl
    generalize hce : compEnvC sc (cellsFrom (s3.heap.objs.size + 1) sc.names (cloFrom X.env.cells sc.names [])) s3.heap.objs.size X.env = ce at I4 pg pt pe cF ⊢
    have cL : ce.locals = s3.heap.objs.size := by rw [← hce]; rfl
    have nfp : ∀ b ∈ fp, (upd G L (.lst [])) b = none := fun b hb => (f3 b hb).1.1
    generalize upd G L (.lst []) = G3 at *
    generalize hs4 : ({ s3 with heap := pushCells (s3.heap.push { cls := .type "dict", data := .dict #[] }) sc.names } : Shared) = s4 at I4 ⊢
    have st4 : tn 0 s4.heap := T.keep _ _ _ st3 fun b _ o e => by
      rw [← hs4]
      exact pushCells_keeps _ _ _ _ (Heap.get?_push_of_some _ (by rw [eh]; exact e))
    have stat : ∀ {τ : L2.St} {G2 : Hp} {s2 : Shared}, L2.Inv (X.blk s3 G3 sc ce fp) [] τ G2 s2 → (∀ b ∈ fp, G2 b = none) → ∀ b ∈ fp, FpOk (X.blk s3 G3 sc ce fp) [] G2 b := by
      intro τ G2 s2 I' hn b hb
      exact ⟨hn b hb, (I'.ok.exf b hb).1, I'.ok.exfs b hb, .inl hb, fun x c e => (I'.ok.exf b hb).2 x c e, fun p hp => absurd (show p ∈ ([] : List (Addr × Obj)) ++ [] from hp) (by simp)⟩
    have back : ∀ {ps : List (Addr × Obj)} {τ : L2.St} {G2 : Hp} {s2 : Shared}, L2.Inv (X.blk s3 G3 sc ce fp) ps τ G2 s2 → L2.Inv X pn σ G2 s2 := fun I' => I3.call' (ch := fp) I'.os I'.base I'.hok I'.bare fun b hb => ⟨(f3 b hb).1.2.2.2.1, (f3 b hb).1.2.1, (f3 b hb).1.2.2.2.2.1, (f3 b hb).1.2.2.2.2.2⟩
    have fpC : ∀ G2 : Hp, G2 ce.locals = none → FpOk X pn G2 ce.locals := fun G2 z => by
      rw [cL] at z ⊢
      exact I3.fpOk (Nat.le_refl _) z
    have lp : codeAny (model X.prog X.w) X.A (.compLoop (.ListComp el [⟨tg, it, ifs, 0⟩] sc pos) 0 (.ref itr) (.ref L) ce) (compEnds (model X.prog X.w) X.A X.xe use Qf (.ref L) ce) s4 := by
      refine compLoop_any (fun n s2 => ∃ i G2, L2.Inv (X.blk s3 G3 sc ce fp) [] (wipe σ (own.map (·.2))) G2 s2 ∧ tn i s2.heap ∧ (∀ b ∈ fp, G2 b = none) ∧ V i n G2) ?_ m0 ⟨0, G3, I4, st4, nfp, v0⟩
      rintro n s5 ⟨i, G5, I5, st5, n5, w5⟩
      rcases turn i n G5 w5 with ⟨stop, qq⟩ | ⟨go, Nx, hNx, step⟩
      · have td := T.done (X.blk s3 G3 sc ce fp) rfl rfl rfl calm i [] s5 _ G5 (fun _ _ => False) I5 (stat I5 n5) st5 stop
        refine thnF td fun r s6 ⟨hr, I6⟩ => ?_
        subst hr
        have nC : G5 ce.locals = none := I6.free
        obtain ⟨m, hn, _⟩ := I6.loc
        exact out L ce s6 m G5 (back I6) qq hn (fpC G5 nC)
      · have ti := T.item (X.blk s3 G3 sc ce fp) rfl rfl rfl calm i [] s5 _ G5 (fun _ _ => False) I5 (stat I5 n5) st5 go
        refine thnF ti fun r s6 ⟨u, hr, h6⟩ => ?_
        subst hr
        refine thnF h6 fun _ s7 ⟨x, G7, I7, r7, y7, st7, n7⟩ => ?_
        have I7' := I7.pinned (stat I7 n7) (T.obj _ _ st7)
        refine thnF (pg.run _ s7 _ G7 x u _ I7' r7 (step x G7 y7)) fun _ s8 ⟨τ, G8, I8, hw8, q8⟩ => ?_
        refine thnF (pt.run _ s8 τ G8 _ I8 q8) fun b s9 ⟨G9, I9, q9⟩ => ?_
        have fin : ∀ {s2 : Shared} {G2 : Hp}, L2.Inv (X.blk s3 G3 sc ce fp) ([] ++ pinsAt fp s7.heap) τ G2 s2 → Nx G2 → ∃ m, m < n ∧ ∃ i G2, L2.Inv (X.blk s3 G3 sc ce fp) [] (wipe σ (own.map (·.2))) G2 s2 ∧ tn i s2.heap ∧ (∀ b ∈ fp, G2 b = none) ∧ V i m G2 := by
          intro s2 G2 I' nx
          obtain ⟨k, hk, w'⟩ := hNx G2 nx
          have pin' : ∀ b ∈ fp, ∀ o, s7.heap.get? b = some o → s2.heap.get? b = some o ∧ G2 b = none := fun b hb o e => by
            have z := I'.pin (b, o) (List.mem_append_right _ (List.mem_append_right _ (mem_pinsAt hb e)))
            exact ⟨z.1, z.2.1⟩
          have hl : (wipe σ (own.map (·.2))).length = τ.length := by rw [← hw8, wipe_length]
          refine ⟨k, hk, i + 1, G2, (I'.unpinned (pins := [])).weak hl (fun j v e => ?_), T.keep _ _ _ st7 fun b hb o e => (pin' b hb o e).1, fun b hb => ?_, w'⟩
          · rw [← hw8] at e
            exact (wipe_some e).1
          · obtain ⟨o, e, _⟩ := T.obj _ _ st7 b hb
            exact (pin' b hb o e).2
        cases b with
        | false =>
          simp only [Bool.false_eq_true, if_false] at q9 ⊢
          exact fin I9 q9
        | true =>
          simp only [if_true] at q9 ⊢
          refine wpAny_mono (pe.run _ s9 τ G9 _ (inv_xe I9 _) q9) (fun z s10 ⟨yv, G10, I10, r10, acc, hL10, hz10, nx⟩ => ?_) (fun u s10 ax => ?_)
          · exact app_ok (X := X.blk s3 G3 sc ce fp) (inv_ofxe I9.ok I10) hL10 hz10 r10 fun s11 I11 => fin I11 nx
          · exact air_out (Y := X.blk s3 G3 sc ce fp) tk hst hf I.ok.frames cF rfl rfl back fpC ax
    exact codeAny_compStart_list lp (T.self X.A 0 _ _ _ st4 lp)
  subst hs3
  exact goal
theorem pe_lcX {el tg it : Expr} {ifs : List Expr} {sc : Scope} {own : List (Str × Nat)} {pos : Pos} {wi : TI} {g : TG} {tt : TT} {te : L2.St → TE} (calm : X.calm = true) (tk : L2.Takes X W) (hN : X.N.Nodup) (hi : PI X tg it wi) (ok : BlkOk X.N X.env.scope sc own)
    (pgs : ∀ s H C cl fp, PG (X.blk s H sc (compEnvC sc cl C X.env) fp) tg g) (pts : ∀ s H C cl fp, PTs (X.blk s H sc (compEnvC sc cl C X.env) fp) ifs tt) (pes : ∀ σ s H C cl fp, (X.blk s H sc (compEnvC sc cl C X.env) fp).Ok → PE (airX (X.blk s H sc (compEnvC sc cl C X.env) fp) (fun cls d G => W cls d σ G)) el (te σ))
    (hs : ∀ x, foldedSetIterable it X.env x = pure x := by intro _; rfl) (hst : X.stack = X.env :: X.outer := by rfl) (hf : X.env.frame = some X.env.locals := by rfl) :
    PE X (.ListComp el [⟨tg, it, ifs, 0⟩] sc pos) (fun σ H Q => tLc wi g tt (te σ) (own.map (·.2)) σ H Q) := by
  refine ⟨fun pins s σ H Q I h => ?_⟩
  rw [eval_ListComp]
  refine lcx_core calm tk hst hf hN I hi ok pgs pts (pes σ) hs h fun L ce s2 m G I' q hn f => ⟨m, hn, fun h2 sb => ?_⟩
  obtain ⟨f0, f1, f2, f3, f4, f5⟩ := f
  exact ⟨.ref L, G, I'.turned (t' := s2.toks) (fun b o hb e => (sb.2 b hb).trans e) f0 f1 f3 f4 f5, rfl, q⟩
end
end Mir

namespace Mir
open PySem PySem.Spec PyProof.Rows L2
section
variable {X : Cx} {W : WX}
/-! ## [el for tg in iter if tst], el may raise: mirrored -/
def cLoopX (vs : List Nat) (tgt : TF) (tst : EF Bool) (el : EF D) : List D → List D → ME → Option (Res (List D) × ME)
  | [], acc, e => some (.ok acc, e)
  | d :: ds, acc, e => match tgt d e with
    | some e1 => match tst e1 with
      | some (.ok true, e2) => match el e2 with
        | some (.ok x, e3) => cLoopX vs tgt tst el ds (acc ++ [x]) (wipeE e3 vs)
        | some (.ex x, e3) => some (.ex x, wipeE e3 vs)
        | none => none
      | some (.ok false, e2) => cLoopX vs tgt tst el ds acc (wipeE e2 vs)
      | _ => none
    | none => none
def kRes : Res (List D) → Res FR
  | .ok acc => .ok (.o (.lst acc))
  | .ex x => .ex x
def eLcX (vs : List Nat) (fi : EF (List D)) (tgt : TF) (tst : EF Bool) (el : EF D) : EF FR := eBind fi fun ds e => if offAt vs e = true ∧ ds.length ≤ sizeLine then match cLoopX vs tgt tst el ds [] e with
    | some (o, e') => some (kRes o, e')
    | none => none
  else none
theorem lcX_tr {K : PySem.W.Frag} {fi : EF (List D)} {tgt : TF} {tst : EF Bool} {el : EF D} {σ : St} {H : Hp} {Q : VK} (h : trF K W (eLcX vs fi tgt tst el) σ H Q) :
    tLc (tr K W (RI K) fi) (trGv vs K tgt) (tr K W0 RB tst) (tr K (fun cls d _ G => W cls d σ G) (RD K) el) vs σ H Q := by
  obtain ⟨S, env, r, env', rel, ef, q⟩ := h
  unfold eLcX eBind at ef
  refine ⟨S, env, ?_⟩
  cases ea : fi env with
  | none => rw [ea] at ef; cases ef
  | some p =>
    obtain ⟨r1, e1⟩ := p
    rw [ea] at ef
    cases r1 with
    | ex x =>
      have ef' : some (Res.ex x, e1) = some (r, env') := ef
      cases ef'
      exact ⟨.ex x, _, rel, ea, q⟩
    | ok ds =>
      refine ⟨.ok ds, e1, rel, ea, fun S1 H1 st J io L hL => ?_⟩
      dsimp only at ef
      split at ef
      · rename_i hc
        obtain ⟨hoff, hlen⟩ := hc
        have key : ∃ out, cLoopX vs tgt tst el ds [] e1 = some (out, env') ∧ kRes out = r := by
          cases hcl : cLoopX vs tgt tst el ds [] e1 with
          | none => rw [hcl] at ef; cases ef
          | some p =>
            obtain ⟨o, e'⟩ := p
            rw [hcl] at ef
            cases o <;> (cases ef; exact ⟨_, rfl, rfl⟩)
        obtain ⟨out, hcl, hr⟩ := key
        · skip
          have hoff := offAt_of hoff
          have l0 : (wipe σ vs).length = σ.length := wipe_length _ _
          have st0 : Step K S1 e1 (wipe σ vs) H1 S1 e1 (wipe σ vs) H1 := st.rel.step.off (fun i s h => wipe_out (hoff i s h)) (fun i s h => wipe_out (hoff i s h)) l0 l0
          refine ⟨fun i m H => m = ds.length - i ∧ i ≤ ds.length ∧ ∃ S2 : SS, ∃ e2 acc vacc, Step K S1 e1 (wipe σ vs) H1 S2 e2 (wipe σ vs) (less H L) ∧ H L = some (.lst vacc) ∧ Reps K S2 acc vacc ∧ acc.length ≤ i ∧ (∀ i s, e2.sl[i]? = some (some s) → i ∉ vs) ∧ cLoopX vs tgt tst el (ds.drop i) acc e2 = some (out, env'),
            ⟨ds.length, rfl, Nat.zero_le _, S1, e1, [], [], by rw [less_upd, less_id hL]; exact st0, upd_same, rfl, Nat.zero_le _, hoff, hcl⟩, ?_⟩
          rintro i m H2 ⟨rfl, hi, S2, en2, acc, vacc, st2, hH, rr, hal, hoff2, hcl2⟩
          have bst : Step K S2 en2 (wipe σ vs) (less H2 L) S2 en2 (wipe σ vs) H2 := by
            have := st2.rel.beside (p := L) (o := .lst vacc) less_same
            rwa [upd_less hH] at this
          have nS : S2 L = none := by
            cases e : S2 L with
            | none => rfl
            | some u =>
              have := st2.rel.sub _ _ e
              rw [less_same] at this
              cases this
          have nO : ¬ Own en2 (wipe σ vs) S2 L := by
            rintro ⟨j, m, h1, h2⟩
            obtain ⟨a, o, q1, q2, _, _⟩ := st2.rel.obj j m h1
            have := q1.inj h2
            subst this
            rw [less_same] at q2
            cases q2
          by_cases hlt : i < ds.length
          · rw [List.drop_eq_getElem_cons hlt] at hcl2
            unfold cLoopX at hcl2
            refine .inr ⟨io.goes i S2 en2 _ H2 hlt st2.le bst.rel, fun H3 => i + 1 ≤ ds.length ∧ ∃ S2 : SS, ∃ en2 acc vacc, Step K S1 e1 (wipe σ vs) H1 S2 en2 (wipe σ vs) (less H3 L) ∧ H3 L = some (.lst vacc) ∧ Reps K S2 acc vacc ∧ acc.length ≤ i + 1 ∧ (∀ i s, en2.sl[i]? = some (some s) → i ∉ vs) ∧ cLoopX vs tgt tst el (ds.drop (i + 1)) acc en2 = some (out, env'),
              fun H3 h3 => ⟨ds.length - (i + 1), by omega, rfl, h3⟩, fun x H3 hy => ?_⟩
            obtain ⟨S3, d, st3, hd, rd, _⟩ := io.yields i S2 en2 _ H2 x H3 hlt st2.le bst.rel hy
            rw [List.getElem?_eq_getElem hlt] at hd
            cases hd
            split at hcl2
            · rename_i e3 hg3
              refine ⟨S3, en2, _, e3, st3.rel, rd, hg3, fun S4 σ4 H4 st4 es eh ew => ?_⟩
              have ew' : wipe σ4 vs = wipe σ vs := ew.trans wipe_idem
              have st24 := st3.trans st4
              have fin : ∀ (S5 : SS) (e5 : ME) (H5 : Hp), Step K S2 en2 (wipe σ vs) H2 S5 e5 σ4 H5 → Step K S1 e1 (wipe σ vs) H1 S5 (wipeE e5 vs) (wipe σ vs) (less H5 L) ∧ H5 L = some (.lst vacc) := fun S5 e5 H5 st5 => by
                refine ⟨?_, st5.frame L _ hH nS nO⟩
                have a := st2.trans (st5.lessen hH nS nO)
                have b := a.rel.wipe (vs := vs) fun j hj m hm => by
                  obtain ⟨m', hm'⟩ := a.borr j m hm
                  exact hoff j _ hm' hj
                rw [ew'] at b
                exact a.trans b
              refine ⟨ew', ?_⟩
              split at hcl2
              · rename_i e4 ht4
                refine ⟨S4, e3, .ok true, e4, st4.rel, ht4, fun S5 H5 st5 b hb => ?_⟩
                have hb' : true = b := hb
                subst hb'
                split at hcl2
                · rename_i y e5 hel
                  refine iteT ⟨S5, e4, .ok y, e5, st5.rel, hel, fun S6 H6 st6 w rw6 => ?_⟩
                  obtain ⟨f1, f2⟩ := fin S6 e5 H6 ((st24.trans st5).trans st6)
                  refine ⟨vacc, f2, by rw [← Reps.len rr]; omega, hlt, S6, wipeE e5 vs, acc ++ [y], vacc ++ [w], by rw [less_upd]; exact f1, upd_same, reps_snoc (Reps.mono ((st24.trans st5).trans st6).le _ _ rr) rw6, by simp; exact hal, fun j s h => (wipeE_some h).2, hcl2⟩
                · rename_i x e5 hel
                  cases hcl2
                  have hr' : Res.ex x = r := hr
                  subst hr'
                  refine iteT ⟨S5, e4, .ex x, e5, st5.rel, hel, fun S6 H6 st6 => ?_⟩
                  obtain ⟨f1, f2⟩ := fin S6 e5 H6 ((st24.trans st5).trans st6)
                  have bs : Step K S6 (wipeE e5 vs) (wipe σ vs) (less H6 L) S6 (wipeE e5 vs) (wipe σ vs) H6 := by
                    have := f1.rel.beside (p := L) (o := .lst vacc) less_same
                    rwa [upd_less f2] at this
                  have full := st.trans ((f1.trans bs).off (fun i s h => (wipe_out (hoff i s h)).symm) (fun i s h => (wipe_out (wipeE_some h).2).symm) l0.symm l0.symm)
                  exact q S6 H6 full
                · cases hcl2
              · rename_i e4 ht4
                refine ⟨S4, e3, .ok false, e4, st4.rel, ht4, fun S5 H5 st5 b hb => ?_⟩
                have hb' : false = b := hb
                subst hb'
                obtain ⟨f1, f2⟩ := fin S5 e4 H5 (st24.trans st5)
                exact iteF ⟨hlt, S5, wipeE e4 vs, acc, vacc, f1, f2, Reps.mono (st24.trans st5).le _ _ rr, Nat.le_succ_of_le hal, fun j s h => (wipeE_some h).2, hcl2⟩
              · cases hcl2
            · cases hcl2
          · have e : i = ds.length := by omega
            subst e
            rw [List.drop_length] at hcl2
            have hcl3 : some (Res.ok acc, en2) = some (out, env') := hcl2
            cases hcl3
            have hr' : Res.ok (FR.o (.lst acc)) = r := hr
            subst hr'
            refine .inl ⟨io.stops S2 _ _ H2 st2.le bst.rel, ?_⟩
            have full := st.trans (st2.off (fun i s h => (wipe_out (hoff i s h)).symm) (fun i s h => (wipe_out (hoff2 i s h)).symm) l0.symm l0.symm)
            have z := q S2 (less H2 L) full L (.lst vacc) less_same ⟨vacc, rfl, by omega, rr⟩
            rwa [upd_less hH] at z
      · cases ef
theorem df_lcX {elt tg iter : Expr} {ifs : List Expr} {scope : Scope} {pos : Pos} {own : List (Str × Nat)} {fi : EF (List D)} {tgt : TF} {tst : EF Bool} {el : EF D} (tk : L2.Takes X W) (hc : X.calm = true) (hN : X.N.Nodup) (hi : DI X W tg iter fi) (ok : BlkOk X.N X.env.scope scope own)
    (hg : ∀ (s : Shared) (H : Hp) (C : Addr) (cl : List (Str × Addr)) (fp : List Addr), DGv (X.blk s H scope (compEnvC scope cl C X.env) fp) (own.map (·.2)) tg tgt)
    (ht : ∀ (s : Shared) (H : Hp) (C : Addr) (cl : List (Str × Addr)) (fp : List Addr), DTs (X.blk s H scope (compEnvC scope cl C X.env) fp) W0 ifs tst)
    (he : ∀ (Wb : WX) (xe : Value → Shared → Prop) (s : Shared) (H : Hp) (C : Addr) (cl : List (Str × Addr)) (fp : List Addr), TkC ((X.blk s H scope (compEnvC scope cl C X.env) fp).tr [] xe) Wb → DE ((X.blk s H scope (compEnvC scope cl C X.env) fp).tr [] xe) Wb elt el) (hs : ∀ x, foldedSetIterable iter X.env x = pure x := by intro _; rfl)
    (hst : X.stack = X.env :: X.outer := by rfl) (hf : X.env.frame = some X.env.locals := by rfl) :
    DF X W (.ListComp elt [⟨tg, iter, ifs, 0⟩] scope pos) (eLcX (own.map (·.2)) fi tgt tst el) :=
  pe_imp (pe_lcX (g := trGv (List.map (fun p : Str × Nat => p.2) own) X.K tgt) (tt := tr X.K W0 RB tst) (te := fun σ => tr X.K (fun cls d _ G => W cls d σ G) (RD X.K) el) hc tk hN hi ok hg ht (fun σ s H C cl fp o => he _ _ s H C cl fp (tkc_air o)) hs hst hf) fun σ H Q h => lcX_tr h
end
end Mir

/-! ## x * e, e an instance with its own def for it, x none, a bool, an int or a text -/
namespace PySem
open AutoSeq1 (wpAny_loadPart')
theorem mir_mul_declines (v : Value) (hv : (∃ a t, v = .int a t) ∨ ∃ b, v = .bool b) (l C dx : Addr) : Meets (Builtin.«int.__mul__» ⟨[v, .ref l], []⟩) (fun _ R s => s.heap.get? l = some (W.instObj C dx) ∧ R (.ok (.ret Value.notImplemented)) s) :=
  .of_wp fun prog w A R s h => by
    obtain ⟨hp, g, d, tk, os⟩ := s
    obtain ⟨hl, h⟩ := h
    rcases hv with ⟨a, t, rfl⟩ | ⟨b, rfl⟩
    · wp_walk using wpAny_loadPart' hl
      exact ⟨_, rfl, h⟩
    · wp_walk using wpAny_loadPart' hl
      exact ⟨_, rfl, h⟩
end PySem
namespace Mir
open PySem PySem.Spec PyProof.Rows L2
section
open PySem.W PySem.Calls
variable {prog : Program} {w : World} {A : Around} {E : Value → Shared → Prop} {s : Shared} {K : Frag} {x C f g dx : Addr} {ox : Obj} {od : Option Obj} {v : Value} {T : String} {Q : Value → Shared → Prop}
theorem rmul_T (X : K.In s.heap) (I : InstAt s.heap x ox C od) (hx : s.heap.get? x = some (instObj C dx)) (hb : Looks (model prog w) s.heap (typeOf v) (.type T)) (hc : selfFirst K C = true) (hs : findIn K (.ref C) (PySem.dunder "mul") = some (some (.ref f))) (h2 : findIn K (.ref C) (dunderR "mul") = some (some (.ref g))) (hg : isFn K (.ref g) = true)
    (hT : (fillT T "mul" = some false) ∨ (fillT T "mul" = some true ∧ s.TypeIs v T ∧ Slot T (PySem.dunder "mul") "int.__mul__" ∧ subIn K (.ref C) (.type T) = some false ∧ ((∃ a t, v = .int a t) ∨ ∃ b, v = .bool b)))
    (h : wpAny (model prog w) A (call (.ref g) [.ref x, v]) (PySem.W.CmpBack Q) E s) : wpAny (model prog w) A (binaryOp .Mult v (.ref x)) Q E s := by
  obtain ⟨cd, hcd, hm⟩ := any_some hc
  obtain ⟨rest, hm⟩ : ∃ rest, cd.mro = .ref C :: rest := by
    cases q : cd.mro with
    | nil => rw [q] at hm; cases hm
    | cons a r => rw [q] at hm; exact ⟨r, by rw [List.head?_cons] at hm; cases (beq_iff_eq.mp hm); rfl⟩
  have last : wpAny (model prog w) A (tryMethod (.ref x) (dunderR "mul") v) (fun o s' => ∃ z, o = some z ∧ Q z s') E s := by
    unfold tryMethod
    refine wpAny_bind (special_fn X I h2 (beq_iff_eq.mp hg) (wpAny_mono h (fun z s' hz => ?_) fun _ _ e => e))
    cases z <;> first | exact hz.elim | exact wpAny_pure ⟨_, rfl, hz⟩
  unfold binaryOp
  refine wpAny_holding (wpAny_bind (m := binaryOp1 "mul" v (.ref x)) ?_)
  unfold binaryOp1
  refine wpAny_bind (hb.here (wpAny_bind (I.type.here (wpAny_bind ?_))))
  rcases hT with hT | ⟨hT, ht, sl, hsub, hv⟩
  · refine (looks_fillT X hT).here ?_
    rw [show (Value.type T == Value.ref C) = false from rfl]
    simp only [Bool.false_eq_true, if_false]
    refine wpAny_bind ((fills_K X hcd hm hs).here ?_)
    simp only [Bool.false_and, Bool.false_eq_true, if_false]
    refine wpAny_bind (wpAny_pure ?_)
    simp only [Bool.false_eq_true, if_false, Bool.not_false, Bool.and_true, if_true]
    refine wpAny_bind (m := tryMethod (.ref x) (dunderR "mul") v) (wpAny_mono last (fun o s' ho => ?_) fun _ _ e => e)
    obtain ⟨z, rfl, q⟩ := ho
    exact wpAny_bind (wpAny_rule (wpAny_pure (wpAny_pure q)))
  · refine (looks_fillT X hT).here ?_
    rw [show (Value.type T == Value.ref C) = false from rfl]
    simp only [Bool.false_eq_true, if_false]
    refine wpAny_bind ((fills_K X hcd hm hs).here ?_)
    simp only [Bool.and_true, Bool.true_and, if_true]
    refine wpAny_bind ((looks_subIn X hsub).here ?_)
    simp only [Bool.false_eq_true, if_false, Bool.not_false, if_true]
    refine wpAny_bind (m := numberSlotInPython (.type T) "mul") (wpAny_pure ?_)
    simp only [Bool.false_eq_true, if_false]
    have dec : wpAny (model prog w) A (tryMethod v (PySem.dunder "mul") (.ref x)) (fun o s' => o = none ∧ s' = s) E s := by
      unfold tryMethod
      refine wpAny_bind (wpAny_callSpecial?_slot (name := PySem.dunder "mul") ht sl (call_meets sl ht F.entry_int_mul (F.args_int_mul_2 _ _) (mir_mul_declines v hv x C dx) ⟨hx, ?_⟩))
      exact wpAny_pure ⟨rfl, rfl⟩
    refine wpAny_bind (wpAny_mono dec (fun o s' ho => ?_) fun _ _ e => e)
    obtain ⟨rfl, rfl⟩ := ho
    refine wpAny_bind (m := tryMethod (.ref x) (dunderR "mul") v) (wpAny_mono last (fun o s2 ho => ?_) fun _ _ e => e)
    obtain ⟨z, rfl, q⟩ := ho
    exact wpAny_bind (wpAny_rule (wpAny_pure (wpAny_pure q)))
end
section
variable {X : Cx} {W : WX} {k j n : Nat} {f g Ca : Addr} {fd : FuncData} {ps : List Str} {mf : MF} {C : Str} {a b : Expr} {fa fb : EF AV} {pos : Pos}
/-- what is asked of the class -/
structure RMul (K : PySem.W.Frag) (Ca f g : Addr) : Prop where
  mul : PySem.W.findIn K (.ref Ca) (PySem.dunder "mul") = some (some (.ref f))
  rmul : PySem.W.findIn K (.ref Ca) (dunderR "mul") = some (some (.ref g))
  fn : PySem.W.isFn K (.ref g) = true
  sf : PySem.W.selfFirst K Ca = true
  si : PySem.W.subIn K (.ref Ca) (.type "int") = some false
  sb : PySem.W.subIn K (.ref Ca) (.type "bool") = some false
def rRmul (Ca : Addr) (sp : Sp) (E : L2.St → XK) : RW2 := fun σ x y H Q => ∃ a dx fs, y = .ref a ∧ H a = some (.ins Ca dx fs) ∧ flatV x = true ∧ sp [y, x] H Q (E σ)
theorem op_rmul (tk : TkC X W) (R : RMul X.K Ca f g) (F : FnOk X.prog X.w X.K X.mg X.base (L2.CX X.prog X.w) k g fd ps (spM X.K 2 mf)) (hb : Binds X.K fd ps []) (hr : Room j X.A) (hj : k ≤ j) : OpW X (binaryOp .Mult) (rRmul Ca (spM X.K 2 mf) (fun σ cls dd H => W cls dd σ H)) := by
  intro pn s σ H x y v u Q I rx ry h
  obtain ⟨a, dx, fs, rfl, ha, hx, hsp⟩ := h
  obtain rfl : u = Value.ref a := ry
  obtain ⟨mA, J, _⟩ := ins_get I.hok ha
  obtain ⟨od, J, _⟩ := J.look
  have hob : s.heap.get? a = some (PySem.W.instObj Ca dx) := (I.hok a _ ha).2.2.2.1
  have run : wpAny (model X.prog X.w) X.A (call (.ref g) [.ref a, v]) (PySem.W.CmpBack (EP X pn σ Q)) X.xe s := by
    exact wpAny_mono (run_at F (hr.mono hj) rfl hb (tk σ) I (vs := [V.ref a, x]) (.cons rfl (.cons rx .nil)) hsp) (fun r s2 z => by
      obtain ⟨w, H2, I2, rv, q2⟩ := z
      exact cmpBack_of rv ⟨w, H2, I2, rv, q2⟩) fun _ _ z => z
  cases x with
  | non =>
    obtain rfl : v = Value.none := rx
    exact rmul_T (T := "NoneType") I.kIn J hob (fun A Q E s k q => wpAny_of_eq rfl q) R.sf R.mul R.rmul R.fn (.inl (by decide +kernel)) run
  | bl b =>
    obtain rfl : v = Value.bool b := rx
    exact rmul_T (T := "bool") I.kIn J hob (fun A Q E s k q => wpAny_of_eq rfl q) R.sf R.mul R.rmul R.fn (.inr ⟨by decide +kernel, rfl, PySem.F.slot_bool_mul, R.sb, .inr ⟨_, rfl⟩⟩) run
  | int i =>
    obtain ⟨t, rfl⟩ := rx
    exact rmul_T (T := "int") I.kIn J hob (fun A Q E s k q => wpAny_of_eq rfl q) R.sf R.mul R.rmul R.fn (.inr ⟨by decide +kernel, rfl, PySem.F.slot_int_mul, R.si, .inl ⟨_, _, rfl⟩⟩) run
  | str z =>
    obtain ⟨t, rfl⟩ := rx
    exact rmul_T (T := "str") I.kIn J hob (fun A Q E s k q => wpAny_of_eq rfl q) R.sf R.mul R.rmul R.fn (.inl (by decide +kernel)) run
  | _ => cases hx
/-- x * e -/
def kRmul (C : Str) (mf : MF) (x y : AV) : EF FR := fun env => match viewA x env, viewA y env with
  | some d, some (.ins c _) => if c = C ∧ (flD d).isSome = true then kCall mf [y, x] env else none
  | _, _ => none
theorem df_rmul (tk : TkC X W) (cn : ClsN X.K C Ca) (R : RMul X.K Ca f g) (F : FnOk X.prog X.w X.K X.mg X.base (L2.CX X.prog X.w) k g fd ps (spM X.K 2 mf)) (hd : Binds X.K fd ps []) (hr : Room j X.A) (hj : k ≤ j) (ha : DV X W a fa) (hb : DV X W b fb) :
    DF X W (.BinOp a .Mult b pos) (e2F fa fb (kRmul C mf)) := by
  refine pe_imp (pe_opW (op_rmul tk R F hd hr hj) ha hb) ?_
  rintro σ H Q ⟨S, env, z⟩
  refine ⟨S, env, (AtF.bind (R := RAv X.K) z).imp fun vx H1 ⟨x, S1, e1, rx, st, z1⟩ => ?_⟩
  refine ⟨S1, e1, (AtF.bind (R := RAv X.K) z1).imp fun vy H2 ⟨y, S2, e2, ry, st2, z2⟩ => ?_⟩
  obtain ⟨r, env', rel, ef, q⟩ := z2
  unfold kRmul at ef
  split at ef
  · rename_i d c fs hv hv'
    split at ef
    · rename_i hc
      obtain ⟨rfl, h2⟩ := hc
      have rx' := rx.mono st2.nle
      obtain ⟨fv, h2⟩ := Option.isSome_iff_exists.mp h2
      obtain ⟨rfl, fl⟩ := flD_1 h2 (view_one rel rx' hv)
      obtain ⟨C1, a1, dx, fs2, cn1, rfl, hH, rf⟩ := view_one rel ry hv'
      obtain rfl := cn1.inj cn
      exact ⟨a1, dx, fs2, rfl, hH, fl, kcall_sp (as := [y, x]) (vs := [V.ref a1, vx]) rel ⟨.ref a1, [vx], rfl, ry, vx, [], rfl, rx', rfl⟩ rfl ef q⟩
    · cases ef
  · cases ef
end
end Mir

namespace Mir
open PySem PySem.Spec PyProof.Rows L2
section
variable {X : Cx} {W : WX}
/-! ## x, y, z = a, b, c: values -/
def sPar3 (i j l : Nat) (fa fb fc : EF D) : SF := sBind fa fun d1 => sBind fb fun d2 => sBind fc fun d3 => sSeq (putV i d1) (sSeq (putV j d2) (putV l d3))
theorem ds_par3 (i j l : Nat) {x y z : Str} {a b c : Expr} {fa fb fc : EF D} {px py pz pt pos : Pos} {kt k2 pt2} (hc : X.calm = true) (hN : X.N.Nodup) (ha : DE X W a fa) (hb : DE X W b fb) (hcc : DE X W c fc) (hi : X.N[i]? = some x := by rfl) (hj : X.N[j]? = some y := by rfl) (hl : X.N[l]? = some z := by rfl)
    (hij : i ≠ j := by decide) (hil : i ≠ l := by decide) (hjl : j ≠ l := by decide) (hx : X.env.scope.names.lookup x = some .local := by rfl) (hy : X.env.scope.names.lookup y = some .local := by rfl) (hz : X.env.scope.names.lookup z = some .local := by rfl)
    (hw : swappedStores [.Tuple [.Name x px, .Name y py, .Name z pz] kt pt] (.Tuple [a, b, c] k2 pt2) X.env = pure (some [x, y, z]) := by rfl) (hs : swapsWithSole [.Tuple [.Name x px, .Name y py, .Name z pz] kt pt] (.Tuple [a, b, c] k2 pt2) pos.line X.env = pure false := by rfl)
    (he : starEach [a, b, c] X.env = (false, eval a X.env) :: starEach [b, c] X.env := by rfl) (he2 : starEach [b, c] X.env = (false, eval b X.env) :: starEach [c] X.env := by rfl) (he3 : starEach [c] X.env = (false, eval c X.env) :: starEach [] X.env := by rfl) :
    DS X W (.Assign [.Tuple [.Name x px, .Name y py, .Name z pz] kt pt] (.Tuple [a, b, c] k2 pt2) pos) (sPar3 i j l fa fb fc) := by
  refine ps_imp (ps_par3 hc hN hi hj hl hij hil hjl hx hy hz (pa_cons ha (pa_cons hb (pa_cons hcc pa_nil he3) he2) he) hw hs) ?_
  rintro Dn σ H ⟨S, env, z⟩
  refine ⟨S, env, (AtS.bind (R := RD X.K) z).imp fun v H1 ⟨d, S1, e1, rd, st, z1⟩ => ?_⟩
  refine ⟨S1, e1, (AtS.bind (R := RD X.K) z1).imp fun v2 H2 ⟨d2, S2, e2, rd2, st2, z2⟩ => ?_⟩
  refine ⟨S2, e2, (AtS.bind (R := RD X.K) z2).imp fun v3 H3 ⟨d3, S3, e3, rd3, st3, z3⟩ => ?_⟩
  obtain ⟨e4, z4⟩ := z3.seqNx (Rep.mono (st2.trans st3).le _ _ rd)
  obtain ⟨e5, z5⟩ := z4.seqNx (Rep.mono st3.le _ _ rd2)
  exact ⟨v, v2, v3, rfl, putV_end z5 rd3⟩
end
end Mir

namespace Mir
open PySem PySem.Spec PyProof.Rows L2
section
variable {X : Cx} {W : WX}
/-! ## o.append(e), o a new list that nobody keeps -/
def eAppT (f : EF FR) (g : EF D) : EF D := eBind f fun r => match r with
  | .o (.lst ds) => if ds.length < sizeLine then eBind g fun _ => eRet .non else fun _ => none
  | _ => fun _ => none
theorem upd_less2 {H : Hp} {p : Addr} {o : HO} : upd (less H p) p o = upd H p o := by
  funext b
  by_cases e : b = p
  · rw [e, upd_same, upd_same]
  · rw [upd_ne e, upd_ne e, less_ne e]
theorem de_appT {o e : Expr} {apos cpos : Pos} {f : EF FR} {g : EF D} (ho : DF X W o f) (he : DE X W e g) (hbase : attributeBase o "append" X.env (eval o X.env) = eval o X.env := by rfl)
    (hfew : ((backTo cpos (starEach [e] X.env)).all (fun x => !x.1) && (backToKw cpos (keywordEach [] X.env)).all (fun x => x.1.isSome)
      && decide (([e]).length + ([] : List Keyword).length + (if ([] : List Keyword).isEmpty then 0 else 1) < 30)) = true := by rfl)
    (hline : (apos.endLine == cpos.line) = true := by rfl) (hs : starEach [e] X.env = (false, eval e X.env) :: starEach [] X.env := by rfl) (hplain : (backTo cpos (starEach [] X.env)).any (·.1) = false := by rfl) :
    DE X W (.Call (.Attribute o "append" apos) [e] [] cpos) (eAppT f g) := by
  refine pe_imp (pe_bm PySem.F.plainAttrs_list PySem.F.slot_list_append PySem.F.type_list_append mt_append ho (pa_cons he pa_nil hs) hbase hfew hline hs hplain) ?_
  rintro σ H Q ⟨S, env, rr, env', rel, ef, q⟩
  unfold eAppT eBind at ef
  refine ⟨S, env, ?_⟩
  split at ef
  · rename_i a e1 h1
    refine ⟨.ok a, e1, rel, h1, ?_⟩
    dsimp only at ef
    split at ef
    · rename_i ds
      split at ef
      · rename_i hlt
        intro S1 H1 st p oo hp hr
        obtain ⟨vs, rfl, hz, rv⟩ := hr
        have bs := st.rel.beside (p := p) (o := .lst vs) hp
        have nS : S1.hp p = none := st.rel.noS hp
        have nO : ¬ Own e1 σ S1 p := fun ⟨l, m, h1, h2⟩ => st.rel.noA hp h1 h2
        refine ⟨.inl ⟨rfl, vs, SqL.of upd_same⟩, S1, e1, ?_⟩
        dsimp only at ef
        split at ef
        · rename_i d e2 h2
          cases ef
          refine ⟨.ok d, _, bs.rel, h2, fun S2 H2 st2 b rb => ?_⟩
          have hp2 : H2 p = some (.lst vs) := st2.frame p _ upd_same nS nO
          refine ⟨p, vs, b, rfl, rfl, hp2, by rw [← Reps.len rv]; exact hlt, ?_⟩
          have s3 := st2.lessen upd_same nS nO
          rw [less_upd, less_id hp] at s3
          have full := (st.trans s3).trans (s3.rel.beside (p := p) (o := .lst (vs ++ [b])) less_same)
          rw [upd_less2] at full
          exact q _ _ full .non rfl
        · rename_i x e2 h2
          cases ef
          refine ⟨.ex x, _, bs.rel, h2, fun S2 H2 st2 => ?_⟩
          exact q S2 H2 (st.trans (bs.trans st2))
        · cases ef
      · cases ef
    · cases ef
  · rename_i x e1 h1
    cases ef
    exact ⟨.ex x, _, rel, h1, q⟩
  · cases ef
end
end Mir

namespace Mir
open PySem PySem.Spec PyProof.Rows L2
section
variable {X : Cx} {W : WX} {p pos : Pos} {e : Expr} {es : List Expr} {fas : EF (List AV)}
theorem AtF.non {K : PySem.W.Frag} {S : SS} {env : ME} {σ : St} {H : Hp} {Q : VK} {P : Prop} (z : AtF K W (fun _ => none) S env σ H Q) : P := by
  obtain ⟨_, _, _, e, _⟩ := z
  cases e
theorem AtF.ret {K : PySem.W.Frag} {S : SS} {env : ME} {σ : St} {H : Hp} {Q : VK} {r : FR} (z : AtF K W (eRet r) S env σ H Q) : PostF K Q (fun cls dd H => W cls dd σ H) (.ok r) S H := by
  obtain ⟨r', e', rel, e, q⟩ := z
  cases e
  exact q S H rel.step
theorem df_callTy {x : Str} {T : String} {r : List V → Hp → VK → Prop} {g : List AV → EF FR} (hc : CallR X (.type T) r) (hm : X.mg x = none) (hv : bootBuiltins x = some (.type T)) (ha : DA X W (e :: es) fas)
    (h : ∀ (S : SS) env σ H Q as vs, RAs X.K σ S as vs → AtF X.K W (g as) S env σ H Q → r vs H Q)
    (hg : Gl X x := by rfl) (hn : x ≠ "__name__" := by decide) (hd : (x == ("__debug__" : Str)) = false := by decide) (he : starEach (e :: es) X.env = (false, eval e X.env) :: starEach es X.env := by rfl) (hpl : (backTo pos (starEach es X.env)).any (·.1) = false := by rfl) :
    DF X W (.Call (.Name x p) (e :: es) [] pos) (eBind fas g) := by
  refine pe_imp (pe_callTy hc hg hm hv ha hn hd he hpl) ?_
  rintro σ H Q ⟨S, env, z⟩
  exact ⟨S, env, (AtF.bind (R := RAl X.K) z).imp fun vs H1 ⟨as, S1, e1, rv, st, z1⟩ => h S1 e1 σ H1 Q as vs rv z1⟩
/-! ## dict(d), dict(pairs) -/
def pairD : D → Option (Key × D)
  | .tup [k, v] => (keyD k).map fun j => (j, v)
  | _ => none
def pairsD : List D → Option (List (Key × D))
  | [] => some []
  | d :: ds => match pairD d with
    | some p => (pairsD ds).map fun r => p :: r
    | none => none
def mergeM (kds more : List (Key × D)) : List (Key × D) := more.foldl (fun acc kv => putM acc kv.1 kv.2) kds
theorem mergeM_len : ∀ (more kds : List (Key × D)), (mergeM kds more).length ≤ kds.length + more.length
  | [], kds => by simp [mergeM]
  | p :: more, kds => by
    have h1 := mergeM_len more (putM kds p.1 p.2)
    have h2 := putM_len kds p.1 p.2
    have h3 : mergeM kds (p :: more) = mergeM (putM kds p.1 p.2) more := rfl
    rw [h3, List.length_cons]
    omega
theorem repK_merge {K : PySem.W.Frag} {S : Hp} : ∀ {more kds : List (Key × D)} {mv kvs : List (Key × V)}, RepK K S more mv → RepK K S kds kvs → RepK K S (mergeM kds more) (mergeK kvs mv)
  | [], kds, mv, kvs, h, r => by
    cases h
    exact r
  | (k, d) :: more, kds, mv, kvs, h, r => by
    obtain ⟨v, rs, rfl, h1, h2⟩ := h
    exact repK_merge (kds := putM kds k d) (kvs := putK kvs k v) h2 (repK_put h1 r)
theorem pairs_rep {K : PySem.W.Frag} {S : Hp} : ∀ {ds : List D} {vs : List V} {kds : List (Key × D)}, pairsD ds = some kds → Reps K S ds vs → kds.length = ds.length ∧ ∃ (ps : List Addr) (kvs : List (Key × V)), vs = ps.map V.ref ∧ Paired (fun p kv => TupAt K S p [L2.kV kv.1, kv.2]) ps kvs ∧ RepK K S kds kvs
  | [], _, _, h, r => by
    cases h
    cases r
    exact ⟨rfl, [], [], rfl, .nil, rfl⟩
  | d :: ds, vs, kds, h, r => by
    unfold pairsD at h
    cases hp : pairD d with
    | none => rw [hp] at h; cases h
    | some p =>
      rw [hp] at h
      obtain ⟨kds', h1, rfl⟩ := Option.map_eq_some_iff.mp h
      obtain ⟨v, rs, rfl, r1, r2⟩ := r
      obtain ⟨hl, ps, kvs, rfl, pr, rk⟩ := pairs_rep h1 r2
      unfold pairD at hp
      split at hp
      · rename_i k x
        obtain ⟨j, hj, rfl⟩ := Option.map_eq_some_iff.mp hp
        obtain ⟨a, ws, rfl, hq, _, w1, ws1, rfl, q1, w2, ws2, rfl, q2, q3⟩ := r1
        cases q3
        have := keyD_r hj q1
        subst this
        exact ⟨by simp [hl], a :: ps, (j, w2) :: kvs, rfl, .cons hq pr, w2, kvs, rfl, q2, rk⟩
      · cases hp
theorem paired_imp {α β : Type} {P Q : α → β → Prop} (h : ∀ a b, P a b → Q a b) : ∀ {l : List α} {m : List β}, Paired P l m → Paired Q l m
  | _, _, .nil => .nil
  | _, _, .cons a b => .cons (h _ _ a) (paired_imp h b)
def oDictOf : D → Option (List (Key × D))
  | .dK kds => some kds
  | .lst ds => match pairsD ds with
    | some kds => some (mergeM [] kds)
    | none => none
  | _ => none
def gDictOf (a : AV) : EF FR := eBind (eOn a oDictOf) fun kds => eRet (.o (.dK kds))
def RKD (K : PySem.W.Frag) : RR (List (Key × D)) V := fun _ S d v => False
theorem df_dictOf (hc : X.calm = true) (hm : X.mg "dict" = none) (ha : DA X W (e :: es) fas) (hg : Gl X "dict" := by rfl) (he : starEach (e :: es) X.env = (false, eval e X.env) :: starEach es X.env := by rfl) (hpl : (backTo pos (starEach es X.env)).any (·.1) = false := by rfl) :
    DF X W (.Call (.Name "dict" p) (e :: es) [] pos) (eBind fas (g1 gDictOf)) := by
  refine df_callTy (CallR.or call_dictD (call_dictP hc)) hm (by decide +kernel) ha (fun S env σ H Q as vs rv z => ?_) hg (he := he) (hpl := hpl)
  match as, rv with
  | [], rv => exact z.non
  | _ :: _ :: _, rv => exact z.non
  | [a], rv =>
    obtain ⟨v, rs, rfl, ra, h0⟩ := rv
    cases h0
    obtain ⟨r, env', rel, ef, q⟩ := z
    have ef : eBind (eOn a oDictOf) (fun kds => eRet (FR.o (.dK kds))) env = some (r, env') := ef
    rw [eBind_k, eOn_k] at ef
    cases hv : viewA a env with
    | none => rw [hv] at ef; cases ef
    | some d =>
      rw [hv, kO_some] at ef
      cases ho : oDictOf d with
      | none => rw [ho] at ef; cases ef
      | some kds =>
        rw [ho, kR_some, kB_ok] at ef
        cases ef
        have r1 := view_one rel ra hv
        cases d with
        | dK kds' =>
          cases ho
          obtain ⟨b, kvs, rfl, hrd, hl, rk⟩ := r1
          exact .inl ⟨b, kvs, rfl, hrd, fun p hp => q S H rel.step p _ hp ⟨kvs, rfl, hl, rk⟩⟩
        | lst ds =>
          have ho' : (match pairsD ds with | some kds => some (mergeM [] kds) | none => none) = some kds := ho
          cases hk : pairsD ds with
          | none => rw [hk] at ho'; cases ho'
          | some kds' =>
            rw [hk] at ho'
            cases ho'
            obtain ⟨b, vs, rfl, hH, hl, _, rr⟩ := r1
            obtain ⟨hl2, ps, kvs, rfl, pr, rk⟩ := pairs_rep hk rr
            have rk2 : RepK X.K S.hp (mergeM [] kds') (mergeK [] kvs) := repK_merge rk rfl
            refine .inr ⟨b, ps, kvs, rfl, SqL.of hH, paired_imp (fun p kv h => ((Le.of rel.sub).tupAt h).sq) pr, fun p hp => q S H rel.step p _ hp ⟨_, rfl, ?_, rk2⟩⟩
            have := mergeM_len kds' []
            simp only [List.length_nil] at this
            omega
        | _ => cases ho
/-! ## {k: v, ..} -/
def eDisp : List (EF D × EF D) → EF (List (D × D))
  | [] => eRet []
  | (k, v) :: r => eBind k fun a => eBind v fun b => eBind (eDisp r) fun l => eRet ((a, b) :: l)
def keysP : List (D × D) → Option (List (Key × D))
  | [] => some []
  | (k, v) :: r => match keyD k, keysP r with
    | some j, some l => some ((j, v) :: l)
    | _, _ => none
def gDisp (l : List (D × D)) : EF FR := match keysP l with
  | some kds => eRet (.o (.dK (mergeM [] kds)))
  | none => fun _ => none
def eDict (prs : List (EF D × EF D)) : EF FR := eBind (eDisp prs) gDisp
def RPs (K : PySem.W.Frag) : RR (List (D × D)) (List (V × V)) := fun _ S ds vs => Paired (fun d v => Rep K S.hp d.1 v.1 ∧ Rep K S.hp d.2 v.2) ds vs
theorem disp_tr {K : PySem.W.Frag} {σ : St} : ∀ {prs : List (EF D × EF D)} {S : SS} {env : ME} {H : Hp} {Q : List (V × V) → Hp → Prop}, At K W (RPs K) (eDisp prs) S env σ H Q → tPairs (prs.map fun p => (tr K W (RD K) p.1, tr K W (RD K) p.2)) σ H Q
  | [], S, env, H, Q, z => z.ret (R := RPs K) Paired.nil
  | (k, v) :: r, S, env, H, Q, z => by
    refine ⟨S, env, (At.bind (R := RD K) z).imp fun x H1 ⟨a, S1, e1, ra, st, z1⟩ => ?_⟩
    refine ⟨S1, e1, (At.bind (R := RD K) z1).imp fun y H2 ⟨b, S2, e2, rb, st2, z2⟩ => ?_⟩
    refine disp_tr (prs := r) ((At.bind (R := RPs K) z2).imp fun vs H3 ⟨l, S3, e3, rl, st3, z3⟩ => ?_)
    exact z3.ret (R := RPs K) (Paired.cons ⟨Rep.mono (st2.trans st3).le _ _ ra, Rep.mono st3.le _ _ rb⟩ rl)
theorem keysP_rep {K : PySem.W.Frag} {S : Hp} : ∀ {l : List (D × D)} {ps : List (V × V)} {kds : List (Key × D)}, keysP l = some kds → Paired (fun d v => Rep K S d.1 v.1 ∧ Rep K S d.2 v.2) l ps → kds.length = l.length ∧ ∃ kvs : List (Key × V), ps = kvs.map (fun kv => (L2.kV kv.1, kv.2)) ∧ RepK K S kds kvs
  | [], _, _, h, .nil => by
    cases h
    exact ⟨rfl, [], rfl, rfl⟩
  | (k, v) :: r, _, kds, h, .cons (b := (x, y)) ⟨h1, h2⟩ t => by
    unfold keysP at h
    split at h
    · rename_i j l hj hl
      cases h
      obtain ⟨hl2, kvs, rfl, rk⟩ := keysP_rep hl t
      have := keyD_r hj h1
      have h3 : x = L2.kV j := this
      subst h3
      exact ⟨by simp [hl2], (j, y) :: kvs, rfl, y, kvs, rfl, h2, rk⟩
    · cases h
theorem eDisp_len : ∀ {prs : List (EF D × EF D)} {e e' : ME} {l : List (D × D)}, eDisp prs e = some (.ok l, e') → l.length = prs.length
  | [], e, e', l, h => by cases h; rfl
  | (k, v) :: r, e, e', l, h => by
    unfold eDisp eBind at h
    split at h
    · rename_i a e1 h1
      dsimp only at h
      split at h
      · rename_i b e2 h2
        try dsimp only at h
        split at h
        · rename_i l' e3 h3
          cases h
          simp [eDisp_len h3]
        · cases h
        · cases h
      · cases h
      · cases h
    · cases h
    · cases h
theorem df_disp {keys : List (Option Expr)} {values : List Expr} {prs : List (EF D × EF D)} (h : PPs X pos keys values (prs.map fun p => (tr X.K W (RD X.K) p.1, tr X.K W (RD X.K) p.2))) (hall : keys.all (·.isSome) = true := by rfl) (hl : keys.length = values.length := by rfl) (h0 : keys ≠ [] := by simp)
    (h15 : keys.length ≤ 15 := by decide) (h16 : prs.length ≤ 15 := by decide) : DF X W (.Dict keys values pos) (eDict prs) := by
  refine pe_imp (pe_disp h hall hl h0 h15) ?_
  rintro σ H Q ⟨S, env, r, env', rel, ef, q⟩ p hp
  have bs := rel.beside (p := p) (o := .dK []) hp
  have nS : S.hp p = none := rel.noS hp
  have nO : ¬ Own env σ S p := fun ⟨l, m, h1, h2⟩ => rel.noA hp h1 h2
  unfold eDict eBind at ef
  cases ed : eDisp prs env with
  | none => rw [ed] at ef; cases ef
  | some x =>
    obtain ⟨r1, e1⟩ := x
    rw [ed] at ef
    refine disp_tr (W := W) (S := S) (env := env) ⟨r1, e1, bs.rel, ed, fun S1 H1 st => ?_⟩
    cases r1 with
    | ex x =>
      have ef' : some (Res.ex x, e1) = some (r, env') := ef
      cases ef'
      exact q S1 H1 (bs.trans st)
    | ok l =>
      intro ps rp
      have hp2 : H1 p = some (.dK []) := st.frame p _ upd_same nS nO
      have ef' : gDisp l e1 = some (r, env') := ef
      unfold gDisp at ef'
      cases hk : keysP l with
      | none => rw [hk] at ef'; cases ef'
      | some kds =>
        rw [hk] at ef'
        cases ef'
        obtain ⟨hl2, kvs, rfl, rk⟩ := keysP_rep hk rp
        have hl3 := eDisp_len ed
        have s3 := st.lessen upd_same nS nO
        rw [less_upd, less_id hp] at s3
        have z := q _ _ s3 p (.dK (mergeK [] kvs)) less_same ⟨_, rfl, ?_, repK_merge rk rfl⟩
        · rw [upd_less2] at z
          exact ⟨hp2, kvs, rfl, by rw [← repK_len rk]; omega, z⟩
        · have := mergeM_len kds []
          have h4 : 15 ≤ sizeLine := by decide
          simp only [List.length_nil] at this
          omega
theorem dpp_nil : PPs X pos [] [] (([] : List (EF D × EF D)).map fun p => (tr X.K W (RD X.K) p.1, tr X.K W (RD X.K) p.2)) := pps_nil
theorem dpp_cons {k v : Expr} {ks : List (Option Expr)} {vs : List Expr} {fk fv : EF D} {prs : List (EF D × EF D)} (hk : DE X W k fk) (hv : DE X W v fv) (hr : PPs X pos ks vs (prs.map fun p => (tr X.K W (RD X.K) p.1, tr X.K W (RD X.K) p.2))) :
    PPs X pos (some k :: ks) (v :: vs) (((fk, fv) :: prs).map fun p => (tr X.K W (RD X.K) p.1, tr X.K W (RD X.K) p.2)) := pps_cons hk hv hr
/-! ## x, y = a, b: a may be a new object -/
def sPar2 (i j : Nat) (fa fb : EF FR) : SF := sBind fa fun r => sBind fb fun r2 => sSeq (putF i r) (putF j r2)
theorem AtS.seqF {K : PySem.W.Frag} {S : SS} {env : ME} {σ : St} {H : Hp} {Dn : Ends} {i : Nat} {r : FR} {g : SF} (z : AtS K W (sSeq (putF i r) g) S env σ H Dn) : PostF K (fun v H' => ∃ env', AtS K W g S env' (σ.set i (some v)) H' Dn) (fun _ _ _ => False) (.ok r) S H := by
  obtain ⟨o, e', rel, e, q⟩ := z
  unfold sSeq at e
  cases r with
  | d d =>
    intro v rv
    unfold putF putV at e
    cases hb : isB env i with
    | true => simp only [hb] at e; cases e
    | false =>
      simp only [hb] at e
      have st := rel.setV (notB_of hb) rv
      exact ⟨_, o, e', st.rel, e, fun S' σ' H' st' => q S' σ' H' (st.trans st')⟩
  | o m =>
    intro p oo hp ho
    unfold putF at e
    cases hb : isB env i with
    | true => simp only [hb] at e; cases e
    | false =>
      simp only [hb] at e
      have st := rel.setO (notB_of hb) hp ho
      exact ⟨_, o, e', st.rel, e, fun S' σ' H' st' => q S' σ' H' (st.trans st')⟩
  | h n =>
    intro a ha
    unfold putF at e
    cases hb : isB env i with
    | true => simp only [hb] at e; cases e
    | false =>
      simp only [hb] at e
      have st := rel.setH (notB_of hb) ha
      exact ⟨_, o, e', st.rel, e, fun S' σ' H' st' => q S' σ' H' (st.trans st')⟩
/-- what is wanted of the second of two -/
theorem par_end {E : XK} {K : PySem.W.Frag} {S : SS} {σ : St} {H : Hp} {Dn : Ends} {i j : Nat} {r2 : FR} {v : V} (z : ∃ env', AtS K W (putF j r2) S env' (σ.set i (some v)) H Dn) :
    PostF K (fun u H3 => ∃ v' u', [v, u] = [v', u'] ∧ Dn.nx ((σ.set i (some v')).set j (some u')) H3) E (.ok r2) S H := by
  obtain ⟨env', z⟩ := z
  have w := putF_end z
  cases r2 with
  | d d => exact fun u hu => ⟨v, u, rfl, w u hu⟩
  | o m => exact fun p oo hp ho => ⟨v, .ref p, rfl, w p oo hp ho⟩
  | h n => exact fun a ha => ⟨v, .ref a, rfl, w a ha⟩
theorem ds_par2 (i j : Nat) {x y : Str} {a b : Expr} {fa fb : EF FR} {px py pt pos : Pos} {kt k2 pt2} (hc : X.calm = true) (hN : X.N.Nodup) (ha : DF X W a fa) (hb : DF X W b fb) (hi : X.N[i]? = some x := by rfl) (hj : X.N[j]? = some y := by rfl) (hij : i ≠ j := by decide)
    (hx : X.env.scope.names.lookup x = some .local := by rfl) (hy : X.env.scope.names.lookup y = some .local := by rfl) (hw : swappedStores [.Tuple [.Name x px, .Name y py] kt pt] (.Tuple [a, b] k2 pt2) X.env = pure (some [x, y]) := by rfl)
    (hs : swapsWithSole [.Tuple [.Name x px, .Name y py] kt pt] (.Tuple [a, b] k2 pt2) pos.line X.env = pure false := by rfl) (he : starEach [a, b] X.env = (false, eval a X.env) :: starEach [b] X.env := by rfl) (he2 : starEach [b] X.env = (false, eval b X.env) :: starEach [] X.env := by rfl) :
    DS X W (.Assign [.Tuple [.Name x px, .Name y py] kt pt] (.Tuple [a, b] k2 pt2) pos) (sPar2 i j fa fb) := by
  refine ps_imp (ps_par hc hN hi hj hij hx hy (pa_cons ha (pa_cons hb pa_nil he2) he) hw hs) ?_
  rintro Dn σ H ⟨S, env, o, e', rel, e, q⟩
  unfold sPar2 sBind at e
  refine ⟨S, env, ?_⟩
  cases ef : fa env with
  | none => rw [ef] at e; cases e
  | some pp =>
    obtain ⟨r1, e1⟩ := pp
    rw [ef] at e
    cases r1 with
    | ex x =>
      have e' : some (Out.ex x, e1) = some (o, e') := e
      cases e'
      exact ⟨.ex x, _, rel, ef, fun S' H' st => q S' σ H' st⟩
    | ok r =>
      refine ⟨.ok r, e1, rel, ef, fun S1 H1 st1 => ?_⟩
      dsimp only at e
      have ends : ∀ (S2 : SS) (en2 : ME) (H2 : Hp) (r2 : FR), fb e1 = some (.ok r2, en2) → Step X.K S env σ H S2 en2 σ H2 → AtS X.K W (sSeq (putF i r) (putF j r2)) S2 en2 σ H2 Dn := fun S2 en2 H2 r2 eb st2 => by
        rw [eb] at e
        exact ⟨o, e', st2.rel, e, fun S' σ' H' st' => q S' σ' H' (st2.trans st')⟩
      have exs : ∀ (S2 : SS) (en2 : ME) (H2 : Hp) (x : Ex), fb e1 = some (.ex x, en2) → Step X.K S env σ H S2 en2 σ H2 → ∀ cls dd, RepX X.K S2.hp x cls dd H2 → W cls dd σ H2 := fun S2 en2 H2 x eb st2 => by
        rw [eb] at e
        have e' : some (Out.ex x, en2) = some (o, e') := e
        cases e'
        exact q S2 σ H2 st2
      cases eb : fb e1 with
      | none => rw [eb] at e; cases e
      | some p2 =>
        obtain ⟨rr, en2⟩ := p2
        cases r with
        | d d =>
          intro v rv
          refine ⟨S1, e1, rr, en2, st1.rel, eb, fun S2 H2 st2 => ?_⟩
          cases rr with
          | ex x => exact exs S2 en2 H2 x eb (st1.trans st2)
          | ok r2 => exact par_end ((ends S2 en2 H2 r2 eb (st1.trans st2)).seqF v (Rep.mono st2.le _ _ rv))
        | h n =>
          intro a ha
          refine ⟨S1, e1, rr, en2, st1.rel, eb, fun S2 H2 st2 => ?_⟩
          cases rr with
          | ex x => exact exs S2 en2 H2 x eb (st1.trans st2)
          | ok r2 => exact par_end ((ends S2 en2 H2 r2 eb (st1.trans st2)).seqF a (st2.nm _ _ ha))
        | o m =>
          intro p oo hp ho
          have bs := st1.rel.beside (p := p) (o := oo) hp
          have nS : S1.hp p = none := st1.rel.noS hp
          have nO : ¬ Own e1 σ S1 p := fun ⟨l, m, h1, h2⟩ => st1.rel.noA hp h1 h2
          refine ⟨S1, e1, rr, en2, bs.rel, eb, fun S2 H2 st2 => ?_⟩
          cases rr with
          | ex x => exact exs S2 en2 H2 x eb (st1.trans (bs.trans st2))
          | ok r2 =>
            have hp2 : H2 p = some oo := st2.frame p _ upd_same nS nO
            have s3 := st2.lessen upd_same nS nO
            rw [less_upd, less_id hp] at s3
            have z := (ends S2 en2 _ r2 eb (st1.trans s3)).seqF p oo less_same (ho.mono st2.nle)
            rw [upd_less hp2] at z
            exact par_end z
end
end Mir

namespace Mir
open PySem PySem.Spec PyProof.Rows L2
/-! ## sorted(xs), texts or ints -/
def putI (x : Int) : List Int → List Int
  | [] => [x]
  | y :: r => if x ≤ y then x :: y :: r else y :: putI x r
def srtI : List Int → List Int
  | [] => []
  | x :: l => putI x (srtI l)
theorem putI_perm (x : Int) : ∀ l : List Int, (putI x l).Perm (x :: l)
  | [] => List.Perm.refl _
  | y :: r => by
    unfold putI
    split
    · exact List.Perm.refl _
    · exact ((putI_perm x r).cons y).trans (List.Perm.swap x y r)
theorem srtI_perm : ∀ l : List Int, (srtI l).Perm l
  | [] => List.Perm.refl _
  | x :: l => (putI_perm x (srtI l)).trans ((srtI_perm l).cons x)
theorem putI_pw (x : Int) : ∀ l : List Int, l.Pairwise (· ≤ ·) → (putI x l).Pairwise (· ≤ ·)
  | [], _ => by simp [putI]
  | y :: r, h => by
    unfold putI
    obtain ⟨h1, h2⟩ := List.pairwise_cons.mp h
    split
    · rename_i hx
      refine List.pairwise_cons.mpr ⟨fun z hz => ?_, h⟩
      rcases List.mem_cons.mp hz with rfl | hz
      · exact hx
      · exact Int.le_trans hx (h1 z hz)
    · rename_i hx
      refine List.pairwise_cons.mpr ⟨fun z hz => ?_, putI_pw x r h2⟩
      rcases List.mem_cons.mp ((putI_perm x r).subset hz) with rfl | hz
      · omega
      · exact h1 z hz
theorem srtI_pw : ∀ l : List Int, (srtI l).Pairwise (· ≤ ·)
  | [] => List.Pairwise.nil
  | x :: l => putI_pw x (srtI l) (srtI_pw l)
theorem pwI_unique {l m : List Int} (h : l.Perm m) (h1 : l.Pairwise (· ≤ ·)) (h2 : m.Pairwise (· ≤ ·)) : l = m :=
  h.eq_of_pairwise (fun a b _ _ h h' => Int.le_antisymm h h') h1 h2
theorem srtI_eq {l m : List Int} (h : l.Perm m) : srtI l = srtI m := pwI_unique ((srtI_perm l).trans (h.trans (srtI_perm m).symm)) (srtI_pw l) (srtI_pw m)
theorem srtI_of {l m : List Int} (h : m.Perm l) (hs : m.Pairwise (· ≤ ·)) : m = srtI l := pwI_unique (h.trans (srtI_perm l).symm) hs (srtI_pw l)
def oSrt4 : D → Option D
  | .lst ds => match dStrs ds with
    | some xs => if xs.length < 64 then some (.lst ((srt xs).map .str)) else none
    | none => match dInts ds with
      | some ns => if ns.length < 64 then some (.lst ((srtI ns).map .int)) else none
      | none => none
  | _ => none
theorem de_srt4 {X : Cx} {W : WX} {p pos : Pos} {e : Expr} {es : List Expr} {fas : EF (List AV)} (hm : X.mg "sorted" = none) (ha : DA X W (e :: es) fas) (hg : Gl X "sorted" := by rfl) (he : starEach (e :: es) X.env = (false, eval e X.env) :: starEach es X.env := by rfl) (hpl : (backTo pos (starEach es X.env)).any (·.1) = false := by rfl) :
    DE X W (.Call (.Name "sorted" p) (e :: es) [] pos) (eBind fas (g1 fun a => eOn a oSrt4)) := by
  refine de_callB (CallR.or cr_sortedS cr_sorted) hm rfl ha (fun S env σ H Q as vs rv z => ?_) hg (he := he) (hpl := hpl)
  obtain ⟨a, v, rfl, ra, z⟩ := z.g1 rv
  obtain ⟨d, x, r1, ho, rel, q⟩ := z.on ra
  cases d with
  | lst ds =>
    obtain ⟨b, ws, rfl, hH, hl, hlen, rr⟩ := r1
    unfold oSrt4 at ho
    dsimp only at ho
    cases hx : dStrs ds with
    | some xs =>
      rw [hx] at ho
      dsimp only at ho
      split at ho
      · rename_i h64
        cases ho
        obtain ⟨ev, hl2, hb⟩ := dStrs_v hx rr
        subst ev
        refine .inl ⟨b, xs, rfl, .inl (.inl hH), h64, fun ys p hp hs hn => ?_⟩
        have hy := srt_of hp hs
        subst hy
        have al := rel.alloc (o := .lst ((srt xs).map V.str)) hn
        refine q _ _ al _ ⟨p, _, rfl, upd_same, ?_, reps_strs fun y hy => hb y ((srt_perm xs).subset hy)⟩
        rw [List.length_map, (srt_perm xs).length_eq]
        exact small_le (by omega)
      · cases ho
    | none =>
      rw [hx] at ho
      dsimp only at ho
      cases hn : dInts ds with
      | none => rw [hn] at ho; cases ho
      | some ns =>
        rw [hn] at ho
        dsimp only at ho
        split at ho
        · rename_i h64
          cases ho
          have ev := dInts_v hn rr
          subst ev
          refine .inr ⟨b, ns, rfl, .inl (.inl hH), h64, fun ys p hp hs hn => ?_⟩
          have hy := srtI_of hp hs
          subst hy
          have al := rel.alloc (o := .lst ((srtI ns).map V.int)) hn
          refine q _ _ al _ ⟨p, _, rfl, upd_same, ?_, reps_ints _⟩
          rw [List.length_map, (srtI_perm ns).length_eq]
          exact small_le (by omega)
        · cases ho
  | _ => cases ho
/-! ## the evaluator: comprehensions, loops -/
theorem set_back {e : ME} {v : Nat} {x : Option Sl} (h : e.sl[v]? = some none) : (e.set v x).set v none = e := by
  show ME.mk _ _ = e
  rw [List.set_set, set_id h]
/-- [f for v in ds if p], which leaves the slots as they are -/
theorem cLoop_fm {v : Nat} {t : EF Bool} {el : EF D} {e : ME} (p : D → Bool) (f : D → D) (hv : e.sl[v]? = some none) : ∀ (ds acc : List D), (∀ d ∈ ds, t (e.set v (some (.v d))) = some (.ok (p d), e.set v (some (.v d)))) → (∀ d ∈ ds, p d = true → el (e.set v (some (.v d))) = some (.ok (f d), e.set v (some (.v d)))) →
    cLoop [v] (gSl v) t el ds acc e = some (acc ++ (ds.filter p).map f, e)
  | [], acc, _, _ => by simp [cLoop]
  | d :: ds, acc, ht, hel => by
    have ih := fun acc => cLoop_fm p f hv ds acc (fun d h => ht d (List.mem_cons_of_mem _ h)) (fun d h => hel d (List.mem_cons_of_mem _ h))
    have hg : gSl v d e = some (e.set v (some (.v d))) := by
      show (if isB e v then none else _) = _
      rw [isB_k, hv]
      rfl
    have hw : wipeE (e.set v (some (.v d))) [v] = e := set_back hv
    unfold cLoop
    rw [hg]
    dsimp only
    rw [ht d List.mem_cons_self]
    cases hp : p d with
    | false =>
      dsimp only
      rw [hw, ih, List.filter_cons, hp]
      rfl
    | true =>
      dsimp only
      rw [hel d List.mem_cons_self hp]
      dsimp only
      rw [hw, ih, List.filter_cons, hp]
      simp
theorem eLc_fm {v : Nat} {fi : EF (List D)} {t : EF Bool} {el : EF D} {e0 e : ME} {ds : List D} (p : D → Bool) (f : D → D) (hi : fi e0 = some (.ok ds, e)) (hv : e.sl[v]? = some none) (hz : ds.length ≤ sizeLine) (ht : ∀ d ∈ ds, t (e.set v (some (.v d))) = some (.ok (p d), e.set v (some (.v d)))) (hel : ∀ d ∈ ds, p d = true → el (e.set v (some (.v d))) = some (.ok (f d), e.set v (some (.v d)))) :
    eLc [v] fi (gSl v) t el e0 = some (.ok (.o (.lst ((ds.filter p).map f))), e) := by
  have ho : offAt [v] e = true := by rw [offAt_cons, hv]; rfl
  rw [eLc_k, hi, kB_ok, if_pos ⟨ho, hz⟩, cLoop_fm p f hv ds [] ht hel]
  rfl
/-- .. without a test -/
theorem eLc_map {v : Nat} {fi : EF (List D)} {el : EF D} {e0 e : ME} {ds : List D} (f : D → D) (hi : fi e0 = some (.ok ds, e)) (hv : e.sl[v]? = some none) (hz : ds.length ≤ sizeLine) (hel : ∀ d ∈ ds, el (e.set v (some (.v d))) = some (.ok (f d), e.set v (some (.v d)))) :
    eLc [v] fi (gSl v) (eRet true) el e0 = some (.ok (.o (.lst (ds.map f))), e) := by
  rw [eLc_fm (fun _ => true) f hi hv hz (fun _ _ => rfl) fun d h _ => hel d h, List.filter_eq_self.mpr (fun _ _ => rfl)]
/-- sorted({f for v in ds}) -/
def insAll : List Str → List Str → List Str
  | [], acc => acc
  | x :: xs, acc => insAll xs (insT acc x)
theorem stLoop_map {v : Nat} {el : EF D} {e : ME} (f : D → Str) (hv : e.sl[v]? = some none) : ∀ (ds : List D) (acc : List Str), (∀ d ∈ ds, el (e.set v (some (.v d))) = some (.ok (.str (f d)), e.set v (some (.v d)))) →
    stLoop [v] (gSl v) (eRet true) el ds acc e = some (insAll (ds.map f) acc, e)
  | [], acc, _ => rfl
  | d :: ds, acc, hel => by
    have ih := fun acc => stLoop_map f hv ds acc (fun d h => hel d (List.mem_cons_of_mem _ h))
    have hg : gSl v d e = some (e.set v (some (.v d))) := by
      show (if isB e v then none else _) = _
      rw [isB_k, hv]
      rfl
    have hw : wipeE (e.set v (some (.v d))) [v] = e := set_back hv
    unfold stLoop
    rw [hg]
    dsimp only [eRet]
    rw [hel d List.mem_cons_self]
    dsimp only
    rw [hw, ih]
    rfl
theorem eSrtSt_map {v : Nat} {fi : EF (List D)} {el : EF D} {e0 e : ME} {ds : List D} (f : D → Str) (hi : fi e0 = some (.ok ds, e)) (hv : e.sl[v]? = some none) (hz : ds.length ≤ 1000) (hel : ∀ d ∈ ds, el (e.set v (some (.v d))) = some (.ok (.str (f d)), e.set v (some (.v d)))) :
    eSrtSt [v] fi (gSl v) (eRet true) el e0 = some (.ok (.o (.lst ((srt (insAll (ds.map f) [])).map .str))), e) := by
  have ho : offAt [v] e = true := by rw [offAt_cons, hv]; rfl
  have hb : ds.length + 1 < scanBound := Nat.lt_of_le_of_lt (Nat.succ_le_succ hz) (by decide)
  unfold eSrtSt
  rw [eBind_k, hi, kB_ok, if_pos ⟨ho, hb⟩, stLoop_map f hv ds [] hel]
theorem insAll_mem : ∀ {xs acc : List Str} {z : Str}, z ∈ insAll xs acc ↔ z ∈ acc ∨ z ∈ xs
  | [], acc, z => by simp [insAll]
  | x :: xs, acc, z => by
    unfold insAll
    rw [insAll_mem]
    unfold insT
    split
    · rename_i h
      constructor
      · rintro (q | q)
        · exact .inl q
        · exact .inr (List.mem_cons_of_mem _ q)
      · rintro (q | q)
        · exact .inl q
        · rcases List.mem_cons.mp q with rfl | q
          · exact .inl h
          · exact .inr q
    · simp only [List.mem_append, List.mem_cons, List.not_mem_nil, or_false]
      constructor
      · rintro ((q | q) | q)
        · exact .inl q
        · exact .inr (.inl q)
        · exact .inr (.inr q)
      · rintro (q | q | q)
        · exact .inl (.inl q)
        · exact .inl (.inr q)
        · exact .inr q
theorem insAll_nd : ∀ {xs acc : List Str}, acc.Nodup → (insAll xs acc).Nodup
  | [], acc, h => h
  | x :: xs, acc, h => by
    unfold insAll
    refine insAll_nd ?_
    unfold insT
    split
    · exact h
    · rename_i hx
      rw [List.nodup_append]
      exact ⟨h, by simp, fun a ha b hb e => by simp at hb; subst hb; exact hx (e ▸ ha)⟩
/-- two rows of unlike texts with the same members are sorted alike -/
theorem srt_same {l m : List Str} (h1 : l.Nodup) (h2 : m.Nodup) (h : ∀ z, z ∈ l ↔ z ∈ m) : srt l = srt m := srt_eq ((List.perm_ext_iff_of_nodup h1 h2).mpr h)
theorem srtI_same {l m : List Int} (h1 : l.Nodup) (h2 : m.Nodup) (h : ∀ z, z ∈ l ↔ z ∈ m) : srtI l = srtI m := srtI_eq ((List.perm_ext_iff_of_nodup h1 h2).mpr h)
/-- a loop whose body goes on: the state E x s, x what the target holds -/
theorem sLoop_fold {τ : Type} {i : Nat} {body : SF} (E : Option Sl → τ → ME) (step : τ → D → τ) (Inv : τ → Prop) : ∀ (ds : List D), (∀ d ∈ ds, ∀ x s, Inv s → isB (E x s) i = false ∧ (E x s).set i (some (.v d)) = E (some (.v d)) s ∧ (body (E (some (.v d)) s) = some (.nx, E (some (.v d)) (step s d)) ∨ body (E (some (.v d)) s) = some (.cnt, E (some (.v d)) (step s d))) ∧ Inv (step s d)) →
    ∀ x s, Inv s → ∃ y, sLoop (gSl i) body ds (E x s) = some (.nx, E y (ds.foldl step s)) ∧ Inv (ds.foldl step s) ∧ (ds = [] → y = x) ∧ (∀ d, ds.getLast? = some d → y = some (.v d))
  | [], _, x, s, hs => ⟨x, rfl, hs, fun _ => rfl, fun d h => by simp at h⟩
  | d :: ds, hb, x, s, hs => by
    obtain ⟨h1, h2, h3, h4⟩ := hb d List.mem_cons_self x s hs
    obtain ⟨y, q1, q2, q3, q4⟩ := sLoop_fold E step Inv ds (fun d h => hb d (List.mem_cons_of_mem _ h)) (some (.v d)) (step s d) h4
    refine ⟨y, ?_, q2, fun h => (nomatch h), fun d' h => ?_⟩
    · unfold sLoop
      have hg : gSl i d (E x s) = some (E (some (.v d)) s) := by
        show (if isB (E x s) i then none else some _) = _
        rw [h1, h2]
        rfl
      rw [hg]
      dsimp only
      rcases h3 with h3 | h3 <;> (rw [h3]; exact q1)
    · cases ds with
      | nil =>
        simp at h
        subst h
        exact q3 rfl
      | cons a r => exact q4 d' (by simpa using h)
/-- one turn of a while -/
theorem sWhile_on {c : EF Bool} {b : SF} {n : Nat} {e e1 e2 : ME} (h1 : c e = some (.ok true, e1)) (h2 : b e1 = some (.nx, e2)) : sWhile c b (n + 1) e = sWhile c b n e2 := by
  rw [sWhile]
  rw [h1]
  dsimp only
  rw [h2]
theorem sWhile_off {c : EF Bool} {b : SF} {n : Nat} {e e1 : ME} (h1 : c e = some (.ok false, e1)) : sWhile c b (n + 1) e = some (.nx, e1) := by
  rw [sWhile]
  rw [h1]
end Mir

namespace Mir
open PySem PySem.Spec PyProof.Rows L2
theorem eqvAll_strs : ∀ xs ys : List Str, PyData.eqvAll (xs.map .str) (ys.map .str) = decide (xs = ys)
  | [], [] => by simp [PyData.eqvAll]
  | [], y :: ys => by simp [PyData.eqvAll]
  | x :: xs, [] => by simp [PyData.eqvAll]
  | x :: xs, y :: ys => by
    simp only [List.map_cons, PyData.eqvAll, PyData.eqv, eqvAll_strs xs ys]
    by_cases h : x = y
    · subst h; simp
    · simp [h]
theorem toPys_strs : ∀ xs : List Str, toPys (xs.map .str) = some (xs.map .str)
  | [] => rfl
  | x :: xs => by simp [toPys, toPy, toPys_strs xs]
theorem lay_strs : ∀ xs : List Str, PyData.canLayAll0 (xs.map .str) = xs.all PyData.strOk
  | [] => rfl
  | x :: xs => by simp [PyData.canLayAll0, PyData.canLay0, lay_strs xs]
theorem dep_strs : ∀ xs : List Str, PyData.depthAll (xs.map .str) = 0
  | [] => rfl
  | x :: xs => by simp [PyData.depthAll, PyData.depth, dep_strs xs]
theorem shaped_strs (xs : List Str) : SeqAt.shaped (.tuple (xs.map .str)) = xs.all PyData.strOk := by
  simp [SeqAt.shaped, PyData.canLay0, lay_strs, PyData.depth, dep_strs]
theorem oNe_strs (xs ys : List Str) (h : xs.all PyData.strOk = true) (h' : ys.all PyData.strOk = true) : oNe (.tup (xs.map .str)) (.tup (ys.map .str)) = some (.bl (!decide (xs = ys))) := by
  have e1 : ∀ zs : List Str, toPy (.tup (zs.map .str)) = some (.tuple (zs.map .str)) := fun zs => by
    unfold toPy
    rw [toPys_strs]
  unfold oNe eqD
  rw [e1, e1]
  simp only [shaped_strs, h, h', and_self, if_true, PyData.eqv, eqvAll_strs]
theorem lay_list (xs : List Str) (h : xs.all PyData.strOk = true) : SeqAt.shaped (.list (xs.map .str)) = true := by
  simp [SeqAt.shaped, PyData.canLay0, lay_strs, PyData.depth, dep_strs]
  simpa using h
theorem shaped_str (y : Str) : SeqAt.shaped (.str y) = PyData.strOk y := by
  simp [SeqAt.shaped, PyData.canLay0, PyData.depth]
theorem any_strs (xs : List Str) (y : Str) : ((xs.map PyData.str).any fun z => PyData.eqv z (.str y)) = decide (y ∈ xs) := by
  induction xs with
  | nil => simp
  | cons x xs ih =>
    rw [List.map_cons, List.any_cons, ih]
    simp only [PyData.eqv, List.mem_cons]
    by_cases h : x = y
    · subst h; simp
    · have h' : ¬ y = x := fun e => h e.symm
      simp [h, h']
theorem oInL_strs (xs : List Str) (y : Str) (h : xs.all PyData.strOk = true) (hy : PyData.strOk y = true) : oInL (.str y) (.lst (xs.map .str)) = some (.bl (decide (y ∈ xs))) := by
  unfold oInL
  simp only [toPy, toPys_strs, shaped_str, hy, lay_list xs h, and_self, if_true, any_strs]
theorem oIn4_strs (xs : List Str) (y : Str) (h : xs.all PyData.strOk = true) (hy : PyData.strOk y = true) : oIn4 (.str y) (.lst (xs.map .str)) = some (.bl (decide (y ∈ xs))) := by
  have e : oInS (.str y) (.lst (xs.map .str)) = none := rfl
  unfold oIn4 oIn
  simp only [e, oInL_strs xs y h hy]
theorem oNotIn4_strs (xs : List Str) (y : Str) (h : xs.all PyData.strOk = true) (hy : PyData.strOk y = true) : oNotIn4 (.str y) (.lst (xs.map .str)) = some (.bl (!decide (y ∈ xs))) := by
  unfold oNotIn4 oNotIn
  simp only [oInL_strs xs y h hy]
theorem atI_nat {α : Type} (xs : List α) (n : Nat) {x : α} (h : xs[n]? = some x) : atI xs (n : Int) = some x := by
  have hl := (List.getElem?_eq_some_iff.mp h).1
  unfold atI ixN
  rw [if_pos (by omega), if_pos (by omega)]
  simpa using h
theorem oIx4_l {xs : List D} {n : Nat} {x : D} (h : xs[n]? = some x) : oIx4 (.lst xs) (.int n) = some x := by
  unfold oIx4
  rw [oIx_l, atI_nat xs n h]
theorem oIx4_t {xs : List D} {n : Nat} {x : D} (h : xs[n]? = some x) : oIx4 (.tup xs) (.int n) = some x := by
  unfold oIx4
  rw [oIx_t, atI_nat xs n h]
@[simp] theorem tup4_0 (a b c d : D) : oIx4 (.tup [a, b, c, d]) (.int 0) = some a := rfl
@[simp] theorem tup4_1 (a b c d : D) : oIx4 (.tup [a, b, c, d]) (.int 1) = some b := rfl
@[simp] theorem tup4_2 (a b c d : D) : oIx4 (.tup [a, b, c, d]) (.int 2) = some c := rfl
@[simp] theorem tup4_3 (a b c d : D) : oIx4 (.tup [a, b, c, d]) (.int 3) = some d := rfl
theorem word_ok {cs : List Nat} (h : ∀ c ∈ cs, c < 1114112) : PyData.strOk ⟨cs.toArray⟩ = true := by
  unfold PyData.strOk
  simpa using h
end Mir

namespace Mir
open PySem PySem.Spec PyProof.Rows L2
/-! ## closures, found one behind another -/
section
variable {α : Type} [DecidableEq α]
/-- R: all that is reached from f -/
structure Clo (nx : α → List α) (f R : List α) : Prop where
  has : ∀ y ∈ f, y ∈ R
  clo : ∀ x ∈ R, ∀ y ∈ nx x, y ∈ R
  min : ∀ C : α → Prop, (∀ y ∈ f, C y) → (∀ x, C x → ∀ y ∈ nx x, C y) → ∀ y ∈ R, C y
/-- one turn: what is new of x's successors is put behind -/
structure StepOk (nx : α → List α) (st : List α → α → List α) : Prop where
  ext : ∀ f x, ∃ new, st f x = f ++ new
  mem : ∀ f x y, y ∈ st f x ↔ y ∈ f ∨ y ∈ nx x
  nd : ∀ f x, f.Nodup → (st f x).Nodup
def bfs (st : List α → α → List α) : Nat → List α → Nat → List α
  | 0, f, _ => f
  | k + 1, f, a => match f[a]? with
    | some x => bfs st k (st f x) (a + 1)
    | none => f
theorem nd_le : ∀ {l U : List α}, l.Nodup → (∀ y ∈ l, y ∈ U) → l.length ≤ U.length
  | [], U, _, _ => Nat.zero_le _
  | x :: l, U, h, s => by
    obtain ⟨h1, h2⟩ := List.nodup_cons.mp h
    have hx : x ∈ U := s x List.mem_cons_self
    have r := nd_le (U := U.erase x) h2 fun y hy => (List.mem_erase_of_ne (fun e : y = x => h1 (e ▸ hy))).mpr (s y (List.mem_cons_of_mem _ hy))
    rw [List.length_erase_of_mem hx] at r
    have := List.length_pos_of_mem hx
    rw [List.length_cons]
    omega
theorem bfs_ok {nx : α → List α} {st : List α → α → List α} (S : StepOk nx st) (U : List α) (f0 : List α) (hU : ∀ x ∈ U, ∀ y ∈ nx x, y ∈ U) : ∀ (k : Nat) (f : List α) (a : Nat), f.Nodup → (∀ y ∈ f, y ∈ U) → U.length ≤ a + k → (∀ y ∈ f0, y ∈ f) → (∀ C : α → Prop, (∀ y ∈ f0, C y) → (∀ x, C x → ∀ y ∈ nx x, C y) → ∀ y ∈ f, C y) →
    (∀ i x, i < a → f[i]? = some x → ∀ y ∈ nx x, y ∈ f) → Clo nx f0 (bfs st k f a) ∧ (bfs st k f a).Nodup ∧ (∃ more, bfs st k f a = f ++ more) ∧ ∀ y ∈ bfs st k f a, y ∈ U := by
  intro k
  induction k with
  | zero =>
    intro f a hn hs hk h0 hm hd
    refine ⟨⟨h0, fun x hx y hy => ?_, hm⟩, hn, ⟨[], by simp [bfs]⟩, hs⟩
    obtain ⟨i, hi⟩ := List.mem_iff_getElem?.mp hx
    have h1 := nd_le hn hs
    have hi' : i < f.length := (List.getElem?_eq_some_iff.mp hi).1
    exact hd i x (by omega) hi y hy
  | succ k ih =>
    intro f a hn hs hk h0 hm hd
    unfold bfs
    cases hx : f[a]? with
    | none =>
      have ha : f.length ≤ a := List.getElem?_eq_none_iff.mp hx
      refine ⟨⟨h0, fun x hx y hy => ?_, hm⟩, hn, ⟨[], by simp⟩, hs⟩
      obtain ⟨i, hi⟩ := List.mem_iff_getElem?.mp hx
      have hi' : i < f.length := (List.getElem?_eq_some_iff.mp hi).1
      exact hd i x (by omega) hi y hy
    | some x =>
      dsimp only
      have hxf : x ∈ f := List.mem_of_getElem? hx
      obtain ⟨new, hnew⟩ := S.ext f x
      have r := ih (st f x) (a + 1) (S.nd f x hn) (fun y hy => by
        rcases (S.mem f x y).mp hy with h | h
        · exact hs y h
        · exact hU x (hs x hxf) y h) (by omega) (fun y hy => (S.mem f x y).mpr (.inl (h0 y hy))) (fun C c1 c2 y hy => by
        rcases (S.mem f x y).mp hy with h | h
        · exact hm C c1 c2 y h
        · exact c2 x (hm C c1 c2 x hxf) y h) (fun i z hi hz y hy => by
        rcases Nat.lt_or_eq_of_le (Nat.le_of_lt_succ hi) with h | h
        · have : f[i]? = some z := by
            rw [hnew] at hz
            have hl : i < f.length := by
              have := (List.getElem?_eq_some_iff.mp hx).1
              omega
            rw [List.getElem?_append_left hl] at hz
            exact hz
          exact (S.mem f x y).mpr (.inl (hd i z h this y hy))
        · subst h
          have : z = x := by
            rw [hnew] at hz
            have hl : i < f.length := (List.getElem?_eq_some_iff.mp hx).1
            rw [List.getElem?_append_left hl, hx] at hz
            cases hz
            rfl
          subst this
          exact (S.mem f z y).mpr (.inr hy))
      obtain ⟨r1, r2, ⟨more, r3⟩, r4⟩ := r
      exact ⟨r1, r2, ⟨new ++ more, by rw [r3, hnew, List.append_assoc]⟩, r4⟩
/-- from x itself, or from its successors: the same but x -/
theorem clo_same {nx : α → List α} {x : α} {P L : List α} (hP : Clo nx (nx x) P) (hL : Clo nx [x] L) (y : α) (hy : y ≠ x) : y ∈ P ↔ y ∈ L := by
  constructor
  · exact fun h => hP.min (· ∈ L) (fun z hz => hL.clo x (hL.has x (by simp)) z hz) (fun z hz w hw => hL.clo z hz w hw) y h
  · intro h
    rcases hL.min (fun z => z = x ∨ z ∈ P) (fun z hz => .inl (by simpa using hz)) (fun z hz w hw => by
      rcases hz with rfl | hz
      · exact .inr (hP.has w hw)
      · exact .inr (hP.clo z hz w hw)) y h with e | e
    · exact absurd e hy
    · exact e
/-- the successors by their members -/
theorem Clo.eqv {nx nx' : α → List α} {f f' R : List α} (h : Clo nx f R) (hn : ∀ x y, y ∈ nx x ↔ y ∈ nx' x) (hf : ∀ y, y ∈ f ↔ y ∈ f') : Clo nx' f' R :=
  ⟨fun y hy => h.has y ((hf y).mpr hy), fun x hx y hy => h.clo x hx y ((hn x y).mpr hy), fun C c1 c2 => h.min C (fun y hy => c1 y ((hf y).mp hy)) fun x hx y hy => c2 x hx y ((hn x y).mp hy)⟩
theorem Clo.uniq {nx : α → List α} {f R R' : List α} (h : Clo nx f R) (h' : Clo nx f R') (y : α) : y ∈ R ↔ y ∈ R' :=
  ⟨fun q => h.min (· ∈ R') h'.has h'.clo y q, fun q => h'.min (· ∈ R) h.has h.clo y q⟩
end
/-! ## rows of a book -/
structure Row where
  a : Str
  b : Str
  s : Int
  t : Option Int
  deriving DecidableEq
def oD : Option Int → D
  | none => .non
  | some i => .int i
def Row.d (r : Row) : D := .tup [.str r.a, .str r.b, .int r.s, oD r.t]
def tillOk (t : Option Int) (date : Int) : Bool := match t with
  | none => true
  | some t => decide (date ≤ t)
def Row.opn (r : Row) (date : Int) : Bool := decide (r.s ≤ date) && tillOk r.t date
/-- what stands for x at a date -/
def nxt (rows : List Row) (date : Int) (x : Str) : List Str := (rows.filter fun r => decide (r.b = x) && r.opn date).map (·.a)
theorem mem_nxt {rows : List Row} {date : Int} {x y : Str} : y ∈ nxt rows date x ↔ ∃ r ∈ rows, r.b = x ∧ r.opn date = true ∧ r.a = y := by
  unfold nxt
  simp only [List.mem_map, List.mem_filter, Bool.and_eq_true, decide_eq_true_eq]
  exact ⟨fun ⟨r, ⟨h1, h2, h3⟩, h4⟩ => ⟨r, h1, h2, h3, h4⟩, fun ⟨r, h1, h2, h3, h4⟩ => ⟨r, ⟨h1, h2, h3⟩, h4⟩⟩
theorem nxt_same {rows rows' : List Row} (h : ∀ r, r ∈ rows ↔ r ∈ rows') {date : Int} (x y : Str) : y ∈ nxt rows date x ↔ y ∈ nxt rows' date x := by
  rw [mem_nxt, mem_nxt]
  exact ⟨fun ⟨r, q, z⟩ => ⟨r, (h r).mp q, z⟩, fun ⟨r, q, z⟩ => ⟨r, (h r).mpr q, z⟩⟩
/-- a row of texts, each once, in order -/
def asc (xs : List Str) : List Str := srt (insAll xs [])
theorem asc_nd (xs : List Str) : (asc xs).Nodup := (srt_perm _).symm.nodup_iff.mp (insAll_nd List.nodup_nil)
theorem mem_asc {xs : List Str} {y : Str} : y ∈ asc xs ↔ y ∈ xs := by
  unfold asc
  rw [(srt_perm _).mem_iff, insAll_mem]
  simp
theorem asc_eq {xs ys : List Str} (h : ∀ y, y ∈ xs ↔ y ∈ ys) : asc xs = asc ys := srt_same (insAll_nd List.nodup_nil) (insAll_nd List.nodup_nil) fun z => by
  rw [insAll_mem, insAll_mem]
  simp [h z]
theorem asc_nodup {xs : List Str} (h : xs.Nodup) : asc xs = srt xs := srt_same (insAll_nd List.nodup_nil) h fun z => by
  rw [insAll_mem]
  simp
def stp (rows : List Row) (date : Int) (x : Str) : List Str := asc (nxt rows date x)
def stepP (rows : List Row) (date : Int) (f : List Str) (x : Str) : List Str := f ++ (stp rows date x).filter fun y => decide (y ∉ f)
theorem stepP_ok (rows : List Row) (date : Int) : StepOk (nxt rows date) (stepP rows date) where
  ext := fun f x => ⟨_, rfl⟩
  mem := fun f x y => by
    unfold stepP stp
    simp only [List.mem_append, List.mem_filter, decide_eq_true_eq, mem_asc]
    constructor
    · rintro (h | h)
      · exact .inl h
      · exact .inr h.1
    · rintro (h | h)
      · exact .inl h
      · by_cases hf : y ∈ f
        · exact .inl hf
        · exact .inr ⟨h, hf⟩
  nd := fun f x h => by
    unfold stepP
    rw [List.nodup_append]
    refine ⟨h, (asc_nd _).filter _, fun a ha b hb e => ?_⟩
    subst e
    have := (List.mem_filter.mp hb).2
    simp [ha] at this
def stepL (rows : List Row) (date : Int) (f : List Str) (x : Str) : List Str := rows.foldl (fun f r => if r.b = x ∧ r.a ∉ f ∧ r.opn date = true then f ++ [r.a] else f) f
theorem stepL_ok (rows : List Row) (date : Int) : StepOk (nxt rows date) (stepL rows date) := by
  have key : ∀ (rs : List Row) (f : List Str) (x : Str), (∃ new, stepL rs date f x = f ++ new) ∧ (∀ y, y ∈ stepL rs date f x ↔ y ∈ f ∨ y ∈ nxt rs date x) ∧ (f.Nodup → (stepL rs date f x).Nodup) := by
    intro rs
    induction rs with
    | nil => exact fun f x => ⟨⟨[], by simp [stepL]⟩, fun y => by simp [stepL, nxt], fun h => h⟩
    | cons r rs ih =>
      intro f x
      have e : stepL (r :: rs) date f x = stepL rs date (if r.b = x ∧ r.a ∉ f ∧ r.opn date = true then f ++ [r.a] else f) x := rfl
      obtain ⟨⟨new, h1⟩, h2, h3⟩ := ih (if r.b = x ∧ r.a ∉ f ∧ r.opn date = true then f ++ [r.a] else f) x
      rw [e]
      have hm : ∀ y, y ∈ nxt (r :: rs) date x ↔ (r.b = x ∧ r.opn date = true ∧ r.a = y) ∨ y ∈ nxt rs date x := fun y => by
        rw [mem_nxt, mem_nxt]
        simp only [List.mem_cons]
        constructor
        · rintro ⟨q, rfl | hq, z⟩
          · exact .inl z
          · exact .inr ⟨q, hq, z⟩
        · rintro (z | ⟨q, hq, z⟩)
          · exact ⟨r, .inl rfl, z⟩
          · exact ⟨q, .inr hq, z⟩
      by_cases c : r.b = x ∧ r.a ∉ f ∧ r.opn date = true
      · rw [if_pos c] at h1 h2 h3 ⊢
        refine ⟨⟨r.a :: new, by rw [h1]; simp⟩, fun y => ?_, fun hn => h3 ?_⟩
        · rw [h2, hm]
          simp only [List.mem_append, List.mem_cons, List.not_mem_nil, or_false]
          constructor
          · rintro ((q | q) | q)
            · exact .inl q
            · exact .inr (.inl ⟨c.1, c.2.2, q.symm⟩)
            · exact .inr (.inr q)
          · rintro (q | q | q)
            · exact .inl (.inl q)
            · exact .inl (.inr q.2.2.symm)
            · exact .inr q
        · rw [List.nodup_append]
          exact ⟨hn, by simp, fun a ha b hb e => by simp at hb; subst hb; exact c.2.1 (e ▸ ha)⟩
      · rw [if_neg c] at h1 h2 h3 ⊢
        refine ⟨⟨new, h1⟩, fun y => ?_, h3⟩
        rw [h2, hm]
        constructor
        · rintro (q | q)
          · exact .inl q
          · exact .inr (.inr q)
        · rintro (q | q | q)
          · exact .inl q
          · by_cases hf : r.a ∈ f
            · exact .inl (q.2.2 ▸ hf)
            · exact absurd ⟨q.1, hf, q.2.1⟩ c
          · exact .inr q
  exact ⟨fun f x => (key rows f x).1, fun f x => (key rows f x).2.1, fun f x => (key rows f x).2.2⟩
/-- the candidates but the plain part, as the program finds them -/
def foundP (rows : List Row) (thr : Bool) (x : Str) (date : Int) : List Str := if thr = true then bfs (stepP rows date) 62 (stp rows date x) 0 else stp rows date x
def foundL (rows : List Row) (thr : Bool) (x : Str) (date : Int) : List Str := if thr = true then bfs (stepL rows date) 62 [x] 0 else stepL rows date [x] x
def candO (rows : List Row) (thr : Bool) (x : Str) (date : Int) : List Str := asc ((foundP rows thr x date).filter fun y => decide (y ≠ x))
def univ (rows : List Row) (x : Str) : List Str := x :: rows.map (·.a)
theorem univ_clo (rows : List Row) (date : Int) (x : Str) : ∀ z ∈ univ rows x, ∀ y ∈ nxt rows date z, y ∈ univ rows x := fun z _ y hy => by
  obtain ⟨r, h1, _, _, h4⟩ := mem_nxt.mp hy
  exact List.mem_cons_of_mem _ (List.mem_map.mpr ⟨r, h1, h4⟩)
theorem foundP_ok {rows : List Row} (hl : rows.length ≤ 60) (x : Str) (date : Int) : Clo (nxt rows date) (nxt rows date x) (foundP rows true x date) ∧ (foundP rows true x date).Nodup ∧ ∀ y ∈ foundP rows true x date, y ∈ univ rows x := by
  have r := bfs_ok (stepP_ok rows date) (univ rows x) (nxt rows date x) (univ_clo rows date x) 62 (stp rows date x) 0 (asc_nd _) (fun y hy => univ_clo rows date x x (by simp [univ]) y (mem_asc.mp hy)) (by simp [univ]; omega) (fun y hy => mem_asc.mpr hy) (fun C c1 c2 y hy => c1 y (mem_asc.mp hy)) (fun i z hi => by omega)
  exact ⟨r.1, r.2.1, r.2.2.2⟩
theorem foundL_ok {rows : List Row} (hl : rows.length ≤ 60) (x : Str) (date : Int) : Clo (nxt rows date) [x] (foundL rows true x date) ∧ (foundL rows true x date).Nodup ∧ ∃ more, foundL rows true x date = x :: more := by
  have r := bfs_ok (stepL_ok rows date) (univ rows x) [x] (univ_clo rows date x) 62 [x] 0 (by simp) (fun y hy => by simp at hy; subst hy; simp [univ]) (by simp [univ]; omega) (fun y hy => hy) (fun C c1 c2 y hy => c1 y hy) (fun i z hi => by omega)
  exact ⟨r.1, r.2.1, r.2.2.1⟩
/-- both ways find the same -/
theorem cand_same {rows rows' : List Row} (hl : rows.length ≤ 60) (hl' : rows'.length ≤ 60) (hm : ∀ r, r ∈ rows ↔ r ∈ rows') (thr : Bool) (x : Str) (date : Int) : candO rows thr x date = srt ((foundL rows' thr x date).drop 1) := by
  have key : ∀ P L : List Str, L.Nodup → (∃ more, L = x :: more) → (∀ y, y ≠ x → (y ∈ P ↔ y ∈ L)) → asc (P.filter fun y => decide (y ≠ x)) = srt (L.drop 1) := fun P L hn ⟨more, e⟩ h => by
    subst e
    obtain ⟨hx, hn'⟩ := List.nodup_cons.mp hn
    refine srt_same (insAll_nd List.nodup_nil) hn' fun z => ?_
    rw [insAll_mem]
    simp only [List.not_mem_nil, false_or, List.mem_filter, decide_eq_true_eq]
    constructor
    · rintro ⟨h1, h2⟩
      rcases List.mem_cons.mp ((h z h2).mp h1) with e | e
      · exact absurd e h2
      · exact e
    · intro hz
      have h2 : z ≠ x := fun e => hx (e ▸ hz)
      exact ⟨(h z h2).mpr (List.mem_cons_of_mem _ hz), h2⟩
  unfold candO
  cases thr with
  | true =>
    obtain ⟨h1, _, _⟩ := foundP_ok hl x date
    obtain ⟨h2, h3, h4⟩ := foundL_ok hl' x date
    exact key _ _ h3 h4 fun y hy => clo_same (h1.eqv (nxt_same hm) (nxt_same hm x)) h2 y hy
  | false =>
    obtain ⟨h1, h2, h3⟩ : (∃ new, stepL rows' date [x] x = [x] ++ new) ∧ (∀ y, y ∈ stepL rows' date [x] x ↔ y ∈ [x] ∨ y ∈ nxt rows' date x) ∧ (stepL rows' date [x] x).Nodup := ⟨(stepL_ok rows' date).ext _ _, (stepL_ok rows' date).mem _ _, (stepL_ok rows' date).nd _ _ (by simp)⟩
    refine key _ _ h3 h1 fun y hy => ?_
    rw [show foundL rows' false x date = stepL rows' date [x] x from rfl, h2, show foundP rows false x date = stp rows date x from rfl]
    unfold stp
    rw [mem_asc, nxt_same hm]
    simp [hy]
/-- candidates hang on what is open alone -/
theorem cand_open {rows : List Row} {thr : Bool} {x : Str} {d d' : Int} (h : ∀ r ∈ rows, r.opn d = r.opn d') : candO rows thr x d = candO rows thr x d' := by
  have e : ∀ x, nxt rows d x = nxt rows d' x := fun x => by
    unfold nxt
    congr 1
    exact List.filter_congr fun r hr => by rw [h r hr]
  have e1 : nxt rows d = nxt rows d' := funext e
  have e2 : stp rows d = stp rows d' := funext fun x => by unfold stp; rw [e x]
  have e3 : stepP rows d = stepP rows d' := funext fun f => funext fun x => by unfold stepP; rw [e2]
  unfold candO foundP
  rw [e2, e3]
/-! ## rows as data -/
def oP : Option Int → PyData
  | none => .none
  | some i => .int i
def Row.p (r : Row) : PyData := .tuple [.str r.a, .str r.b, .int r.s, oP r.t]
def Row.ok (r : Row) : Bool := PyData.strOk r.a && PyData.strOk r.b
theorem toPy_row (r : Row) : toPy r.d = some r.p := by
  cases r with
  | mk a b s t => cases t <;> rfl
theorem toPys_rows : ∀ rs : List Row, toPys (rs.map Row.d) = some (rs.map Row.p)
  | [] => rfl
  | r :: rs => by simp [toPys, toPy_row, toPys_rows rs]
theorem shaped_row (r : Row) : SeqAt.shaped r.p = r.ok := by
  cases r with
  | mk a b s t => cases t <;> simp [Row.p, oP, Row.ok, SeqAt.shaped, PyData.canLay0, PyData.canLayAll0, PyData.depth, PyData.depthAll]
theorem dep_rows : ∀ rs : List Row, PyData.depthAll (rs.map Row.p) ≤ 1
  | [] => by simp [PyData.depthAll]
  | r :: rs => by
    have := dep_rows rs
    simp only [List.map_cons, PyData.depthAll]
    have h : r.p.depth ≤ 1 := by
      cases r with
      | mk a b s t => cases t <;> simp [Row.p, oP, PyData.depth, PyData.depthAll]
    omega
theorem lay_rows : ∀ rs : List Row, PyData.canLayAll0 (rs.map Row.p) = rs.all Row.ok
  | [] => rfl
  | r :: rs => by
    have h : PyData.canLay0 r.p = r.ok := by
      cases r with
      | mk a b s t => cases t <;> simp [Row.p, oP, Row.ok, PyData.canLay0, PyData.canLayAll0]
    simp [PyData.canLayAll0, h, lay_rows rs]
theorem shaped_rows (rs : List Row) (h : rs.all Row.ok = true) : SeqAt.shaped (.list (rs.map Row.p)) = true := by
  have := dep_rows rs
  unfold SeqAt.shaped
  rw [Bool.and_eq_true, decide_eq_true_eq]
  exact ⟨(lay_rows rs).trans h, by show PyData.depthAll _ + 1 ≤ 64; omega⟩
theorem eqv_row (r q : Row) : PyData.eqv r.p q.p = decide (r = q) := by
  cases r with
  | mk a b s t => cases q with
    | mk a' b' s' t' =>
      rw [Bool.eq_iff_iff]
      cases t <;> cases t' <;> simp [Row.p, oP, PyData.eqv, PyData.eqvAll]
theorem any_rows (rs : List Row) (q : Row) : ((rs.map Row.p).any fun z => PyData.eqv z q.p) = decide (q ∈ rs) := by
  induction rs with
  | nil => simp
  | cons x xs ih =>
    rw [List.map_cons, List.any_cons, ih, eqv_row]
    simp only [List.mem_cons]
    by_cases h : x = q
    · subst h; simp
    · have h' : ¬ q = x := fun e => h e.symm
      simp [h, h']
theorem oInL_rows (rs : List Row) (q : Row) (h : rs.all Row.ok = true) (hq : q.ok = true) : oInL q.d (.lst (rs.map Row.d)) = some (.bl (decide (q ∈ rs))) := by
  unfold oInL
  simp only [toPy_row, toPys_rows, shaped_row, hq, shaped_rows rs h, and_self, if_true, any_rows]
theorem oIn4_rows (rs : List Row) (q : Row) (h : rs.all Row.ok = true) (hq : q.ok = true) : oIn4 q.d (.lst (rs.map Row.d)) = some (.bl (decide (q ∈ rs))) := by
  have e : oInS q.d (.lst (rs.map Row.d)) = none := rfl
  unfold oIn4 oIn
  simp only [e, oInL_rows rs q h hq]
theorem oNotIn4_rows (rs : List Row) (q : Row) (h : rs.all Row.ok = true) (hq : q.ok = true) : oNotIn4 q.d (.lst (rs.map Row.d)) = some (.bl (!decide (q ∈ rs))) := by
  unfold oNotIn4 oNotIn
  simp only [oInL_rows rs q h hq]
def optOf : D → Option Int
  | .int i => some i
  | _ => none
def rowOf : D → Row
  | .tup [.str a, .str b, .int s, t] => ⟨a, b, s, optOf t⟩
  | _ => ⟨Str.empty, Str.empty, 0, none⟩
@[simp] theorem rowOf_d (r : Row) : rowOf r.d = r := by
  cases r with
  | mk a b s t => cases t <;> rfl
def strOf : D → Str
  | .str z => z
  | _ => Str.empty
@[simp] theorem strOf_s (z : Str) : strOf (.str z) = z := rfl
def bookD (rows : List Row) (thr : Bool) : D := .ins "Allowances" [("own_rows", .lst (rows.map Row.d)), ("own_through", .bl thr)]
end Mir

namespace Mir
open PySem PySem.Spec PyProof.Rows L2
/-- a loop whose body goes on: any target -/
theorem sLoop_foldT {β τ : Type} {tgt : TF} {body : SF} (E : β → τ → ME) (bnd : D → β) (step : τ → D → τ) (Inv : τ → Prop) : ∀ (ds : List D), (∀ d ∈ ds, ∀ x s, Inv s → tgt d (E x s) = some (E (bnd d) s) ∧ (body (E (bnd d) s) = some (.nx, E (bnd d) (step s d)) ∨ body (E (bnd d) s) = some (.cnt, E (bnd d) (step s d))) ∧ Inv (step s d)) →
    ∀ x s, Inv s → ∃ y, sLoop tgt body ds (E x s) = some (.nx, E y (ds.foldl step s)) ∧ Inv (ds.foldl step s)
  | [], _, x, s, hs => ⟨x, rfl, hs⟩
  | d :: ds, hb, x, s, hs => by
    obtain ⟨h1, h3, h4⟩ := hb d List.mem_cons_self x s hs
    obtain ⟨y, q1, q2⟩ := sLoop_foldT E bnd step Inv ds (fun d h => hb d (List.mem_cons_of_mem _ h)) (bnd d) (step s d) h4
    refine ⟨y, ?_, q2⟩
    unfold sLoop
    rw [h1]
    dsimp only
    rcases h3 with h3 | h3 <;> (rw [h3]; exact q1)
theorem sFor_on {fi : EF (List D)} {tgt : TF} {body : SF} {e e1 : ME} {ds : List D} (h : fi e = some (.ok ds, e1)) : sFor fi tgt body e = sLoop tgt body ds e1 := by
  unfold sFor sBind
  rw [h]
theorem foldl_rows {τ : Type} (step : τ → Row → τ) : ∀ (rs : List Row) (s : τ), (rs.map Row.d).foldl (fun s d => step s (rowOf d)) s = rs.foldl step s
  | [], s => rfl
  | r :: rs, s => by simp [foldl_rows step rs]
theorem dStrs_strs : ∀ l : List Str, dStrs (l.map D.str) = some l
  | [] => rfl
  | a :: l => by simp [dStrs, dStrs_strs l]
theorem dInts_ints : ∀ l : List Int, dInts (l.map D.int) = some l
  | [] => rfl
  | a :: l => by simp [dInts, dInts_ints l]
theorem oSrt4_strs (xs : List Str) (h : xs.length < 64) : oSrt4 (.lst (xs.map .str)) = some (.lst ((srt xs).map .str)) := by
  unfold oSrt4
  simp only [dStrs_strs, h, if_true]
theorem oSrt4_ints (xs : List Int) (h : xs.length < 64) : oSrt4 (.lst (xs.map .int)) = some (.lst ((srtI xs).map .int)) := by
  cases xs with
  | nil => rfl
  | cons a l =>
    have e : dStrs ((a :: l).map D.int) = none := rfl
    unfold oSrt4
    simp only [e, dInts_ints, h, if_true]
theorem eqvAll_ints : ∀ xs ys : List Int, PyData.eqvAll (xs.map .int) (ys.map .int) = decide (xs = ys)
  | [], [] => rfl
  | [], _ :: _ => by simp [PyData.eqvAll]
  | _ :: _, [] => by simp [PyData.eqvAll]
  | x :: xs, y :: ys => by
    have := eqvAll_ints xs ys
    rw [Bool.eq_iff_iff]
    simp [PyData.eqvAll, PyData.eqv, this]
theorem toPys_ints : ∀ xs : List Int, toPys (xs.map .int) = some (xs.map .int)
  | [] => rfl
  | x :: xs => by simp [toPys, toPy, toPys_ints xs]
theorem lay_ints : ∀ xs : List Int, PyData.canLayAll0 (xs.map .int) = true
  | [] => rfl
  | x :: xs => by simp [PyData.canLayAll0, PyData.canLay0, lay_ints xs]
theorem dep_ints : ∀ xs : List Int, PyData.depthAll (xs.map .int) = 0
  | [] => rfl
  | x :: xs => by simp [PyData.depthAll, PyData.depth, dep_ints xs]
theorem shaped_ints (xs : List Int) : SeqAt.shaped (.list (xs.map .int)) = true := by
  unfold SeqAt.shaped
  rw [Bool.and_eq_true, decide_eq_true_eq]
  exact ⟨(lay_ints xs), by show PyData.depthAll _ + 1 ≤ 64; rw [dep_ints]; omega⟩
theorem oNe_ints (xs ys : List Int) : oNe (.lst (xs.map .int)) (.lst (ys.map .int)) = some (.bl (!decide (xs = ys))) := by
  have e1 : ∀ zs : List Int, toPy (.lst (zs.map .int)) = some (.list (zs.map .int)) := fun zs => by
    unfold toPy
    rw [toPys_ints]
  unfold oNe eqD
  rw [e1, e1]
  simp only [shaped_ints, and_self, if_true, PyData.eqv, eqvAll_ints]
theorem cutD_tail (x : D) (l : List D) : cutD (x :: l) (some 1) none = l := by
  unfold cutD
  rw [HT.sIx_none, show HT.sIx (x :: l).length 0 (some 1) = min 1 (x :: l).length from HT.sIx_nat _ _ 1]
  simp
theorem set_set {e : ME} {v : Nat} {x y : Option Sl} (h : e.sl[v]? = some y) : (e.set v x).set v y = e := by
  unfold ME.set
  simp only [List.set_set]
  have : e.sl.set v y = e.sl := by
    obtain ⟨hv, e1⟩ := List.getElem?_eq_some_iff.mp h
    rw [← e1]
    exact List.set_getElem_self hv
  rw [this]
theorem eHide_on {α : Type} {v : Nat} {f : EF α} {e : ME} {r : Res α} {o : Option D} (hs : e.sl[v]? = some (o.map .v)) (h : f (e.set v none) = some (r, e.set v none)) : eHide v f e = some (r, e) := by
  unfold eHide
  cases o with
  | none =>
    have hs' : e.sl[v]? = some none := hs
    have e1 : e.set v none = e := by
      have := set_set (x := none) hs'
      rw [← this]
      unfold ME.set
      simp
    rw [e1] at h
    rw [hs']
    exact h
  | some d =>
    have hs' : e.sl[v]? = some (some (.v d)) := hs
    rw [hs']
    dsimp only
    rw [h]
    dsimp only
    rw [set_set hs']
end Mir

namespace Mir
open PySem PySem.Spec PyProof.Rows L2
/-! ## dicts as sets of whole numbers -/
def iK (d : D) (l : List Int) : List (Key × D) := l.map fun i => (Sum.inl i, d)
def addK (l : List Int) (i : Int) : List Int := if i ∈ l then l else l ++ [i]
theorem addK_mem {l : List Int} {i j : Int} : j ∈ addK l i ↔ j ∈ l ∨ j = i := by
  unfold addK
  split
  · rename_i h
    constructor
    · exact .inl
    · rintro (h1 | h1)
      · exact h1
      · exact h1 ▸ h
  · simp
theorem addK_nd {l : List Int} {i : Int} (h : l.Nodup) : (addK l i).Nodup := by
  unfold addK
  split
  · exact h
  · rename_i hi
    rw [List.nodup_append]
    exact ⟨h, by simp, fun a ha b hb e => by simp at hb; subst hb; exact hi (e ▸ ha)⟩
theorem addK_len (l : List Int) (i : Int) : (addK l i).length ≤ l.length + 1 := by
  unfold addK
  split
  · omega
  · simp
theorem putM_iK (d : D) (l : List Int) (i : Int) : putM (iK d l) (.inl i) d = iK d (addK l i) := by
  have h1 : ((iK d l).any fun p => decide (p.1 = .inl i)) = decide (i ∈ l) := by
    unfold iK
    induction l with
    | nil => simp
    | cons a l ih =>
      rw [List.map_cons, List.any_cons, ih]
      by_cases h : a = i
      · subst h
        simp
      · have h' : ¬ i = a := fun e => h e.symm
        simp [h, h']
  unfold putM addK
  rw [h1]
  by_cases h : i ∈ l
  · rw [if_pos (decide_eq_true h), if_pos h]
    have : ∀ m : List Int, (iK d m).map (fun p => if p.1 = .inl i then (p.1, d) else p) = iK d m := fun m => by
      unfold iK
      rw [List.map_map]
      apply List.map_congr_left
      intro a _
      show (if _ then _ else _) = _
      split <;> rfl
    exact this l
  · rw [if_neg (by rw [decide_eq_false h]; exact Bool.false_ne_true), if_neg h]
    unfold iK
    simp
theorem keysOk_iK (d : D) (l : List Int) : keysOk (iK d l) = true := by
  unfold keysOk iK
  simp
theorem keys_iK (d : D) (l : List Int) : (iK d l).map (fun p => keyOf p.1) = l.map .int := by
  unfold iK
  rw [List.map_map]
  rfl
@[simp] theorem iK_len (d : D) (l : List Int) : (iK d l).length = l.length := by
  unfold iK
  simp
theorem mergeM_iK (d : D) : ∀ (m l : List Int), mergeM (iK d l) (iK d m) = iK d (m.foldl addK l)
  | [], l => rfl
  | a :: m, l => by
    show mergeM (putM (iK d l) (.inl a) d) (iK d m) = _
    rw [putM_iK, mergeM_iK d m]
    rfl
theorem pairsD_iK (d : D) : ∀ m : List Int, pairsD (m.map fun i => D.tup [.int i, d]) = some (iK d m)
  | [] => rfl
  | a :: m => by simp [pairsD, pairD, keyD, pairsD_iK d m, iK]
theorem foldK_mem : ∀ {m l : List Int} {j : Int}, j ∈ m.foldl addK l ↔ j ∈ l ∨ j ∈ m
  | [], l, j => by simp
  | a :: m, l, j => by
    rw [List.foldl_cons, foldK_mem, addK_mem]
    simp [or_assoc]
theorem foldK_nd : ∀ {m l : List Int}, l.Nodup → (m.foldl addK l).Nodup
  | [], l, h => h
  | a :: m, l, h => foldK_nd (m := m) (l := addK l a) (addK_nd h)
theorem foldK_len : ∀ (m l : List Int), (m.foldl addK l).length ≤ l.length + m.length
  | [], l => by simp
  | a :: m, l => by
    have := foldK_len m (addK l a)
    have := addK_len l a
    simp
    omega
/-! ## dicts by text -/
def tK {α : Type} (t : α → Str) (v : α → D) (l : List α) : List (Key × D) := l.map fun a => (Sum.inr (t a), v a)
theorem putM_tK {α : Type} (t : α → Str) (v : α → D) (l : List α) (a : α) (h : ∀ b ∈ l, t b ≠ t a) : putM (tK t v l) (.inr (t a)) (v a) = tK t v (l ++ [a]) := by
  have h1 : ((tK t v l).any fun p => decide (p.1 = .inr (t a))) = false := by
    rw [List.any_eq_false]
    intro p hp
    obtain ⟨b, hb, rfl⟩ := List.mem_map.mp hp
    simp [h b hb]
  unfold putM
  rw [h1]
  unfold tK
  simp
theorem keys_tK {α : Type} (t : α → Str) (v : α → D) (l : List α) : (tK t v l).map (fun p => keyOf p.1) = (l.map t).map .str := by
  unfold tK
  rw [List.map_map, List.map_map]
  rfl
theorem keysOk_tK {α : Type} (t : α → Str) (v : α → D) (l : List α) (h : ∀ a ∈ l, (t a).length ≤ sizeLine) : keysOk (tK t v l) = true := by
  unfold keysOk
  rw [List.all_eq_true]
  intro p hp
  obtain ⟨b, hb, rfl⟩ := List.mem_map.mp hp
  exact decide_eq_true (h b hb)
theorem lookD_tK {α : Type} (t : α → Str) (v : α → D) : ∀ {l : List α} {a : α}, a ∈ l → (∀ b ∈ l, t b = t a → b = a) → lookD (tK t v l) (.inr (t a)) = some (v a)
  | b :: l, a, ha, h => by
    show (if (Sum.inr (t b) : Key) = .inr (t a) then some (v b) else lookD (tK t v l) (.inr (t a))) = _
    by_cases e : t b = t a
    · rw [if_pos (by rw [e]), h b List.mem_cons_self e]
    · rw [if_neg (by intro q; injection q with q; exact e q)]
      refine lookD_tK t v ?_ fun c hc => h c (List.mem_cons_of_mem _ hc)
      rcases List.mem_cons.mp ha with rfl | q
      · exact absurd rfl e
      · exact q
theorem cutD_take (l : List D) (k : Nat) (h : k ≤ l.length) : cutD l none (some (k : Int)) = l.take k := by
  unfold cutD
  rw [HT.sIx_none, HT.sIx_nat]
  simp
theorem split_at {s : Nat} : ∀ {u v w z : List Nat}, (∀ c ∈ u, c ≠ s) → (∀ c ∈ v, c ≠ s) → u ++ s :: w = v ++ s :: z → u = v ∧ w = z
  | [], [], _, _, _, _, h => by simpa using h
  | [], c :: v, _, _, _, hv, h => by
    simp at h
    exact absurd h.1.symm (hv c List.mem_cons_self)
  | c :: u, [], _, _, hu, _, h => by
    simp at h
    exact absurd h.1 (hu c List.mem_cons_self)
  | c :: u, d :: v, w, z, hu, hv, h => by
    simp only [List.cons_append, List.cons.injEq] at h
    obtain ⟨h1, h2⟩ := h
    obtain ⟨h3, h4⟩ := split_at (fun c hc => hu c (List.mem_cons_of_mem _ hc)) (fun c hc => hv c (List.mem_cons_of_mem _ hc)) h2
    exact ⟨by rw [h1, h3], h4⟩
theorem str_extL {x y : Str} (h : x.cps.toList = y.cps.toList) : x = y := by
  cases x; cases y
  congr
  exact Array.toList_inj.mp h
theorem app_cps (x y : Str) : (x ++ y).cps.toList = x.cps.toList ++ y.cps.toList := by
  show (x.cps ++ y.cps).toList = _
  simp
theorem eHide_to {α : Type} {v : Nat} {f : EF α} {e e1 : ME} {r : Res α} {o : Option D} (hs : e.sl[v]? = some (o.map .v)) (h : f (e.set v none) = some (r, e1)) (h1 : e1.sl[v]? = some none) : eHide v f e = some (r, e1.set v (o.map .v)) := by
  unfold eHide
  cases o with
  | none =>
    have hs' : e.sl[v]? = some none := hs
    have q1 : ∀ {e : ME}, e.sl[v]? = some none → e.set v none = e := fun {e} h => by
      have := set_set (x := none) h
      rw [← this]
      unfold ME.set
      simp
    rw [q1 hs'] at h
    rw [hs']
    show f e = some (r, e1.set v none)
    rw [h, q1 h1]
  | some d =>
    have hs' : e.sl[v]? = some (some (.v d)) := hs
    rw [hs']
    dsimp only
    rw [h]
    rfl
theorem eOf4_k (f : EF D) (e : ME) : eOf4 f e = kB (f e) oIter4 := rfl
/-! ## f-strings whose parts leave the slots as they are -/
theorem eJs_all {e : ME} : ∀ (fs : List (EF Str)) (ys : List Str) (acc : Str), fs.map (fun f => f e) = ys.map (fun y => some (.ok y, e)) → acc.length + (ys.map (·.length)).sum ≤ sizeLine → eJs fs acc e = some (.ok (.str (ys.foldl (· ++ ·) acc)), e)
  | [], [], acc, _, _ => rfl
  | [], _ :: _, _, h, _ => by simp at h
  | _ :: _, [], _, h, _ => by simp at h
  | f :: fs, y :: ys, acc, h, hl => by
    rw [List.map_cons, List.map_cons, List.cons.injEq] at h
    rw [List.map_cons, List.sum_cons] at hl
    have hl2 : (acc ++ y).length + (ys.map (·.length)).sum ≤ sizeLine := by
      rw [str_add_len]
      omega
    unfold eJs
    rw [eBind_k, h.1]
    show (if (acc ++ y).length ≤ sizeLine then eJs fs (acc ++ y) else fun _ => none) e = _
    rw [if_pos (by omega)]
    exact eJs_all fs ys (acc ++ y) h.2 hl2
end Mir

namespace Mir.Lk02
open PySem PySem.Spec PyProof.Rows L2 Mir
/-! ### the text -/
def top (i : Nat) : Stmt := PySem.Challenge.pw_standinparts_k02_whole_candidates.main.body.getD i (.Pass ⟨0, 0, 0, 0⟩)
abbrev s_ascending : Stmt := top 14
abbrev s_is_open : Stmt := top 18
abbrev s_Allowances_steps : Stmt := inClass (top 21) 3
abbrev s_is_integer : Stmt := top 11
abbrev s_is_date : Stmt := top 12
abbrev s_check_date : Stmt := top 13
abbrev s_Allowances___call__ : Stmt := inClass (top 21) 4
abbrev s__law_fits : Stmt := top 30
abbrev s_Allowances_dates : Stmt := inClass (top 21) 5
abbrev s_text_of : Stmt := top 19
abbrev s_is_word : Stmt := top 10
abbrev s_is_allowance : Stmt := top 17
abbrev s_Allowances___init__ : Stmt := inClass (top 21) 0
abbrev s__law_draw : Stmt := top 24
abbrev s__law_pick : Stmt := top 25
abbrev s__law_book : Stmt := top 27
abbrev s__law_parts : Stmt := top 26
abbrev s__law_pool : Stmt := top 23
abbrev s_law : Stmt := top 32
abbrev sx_BadDate : Stmt := inClass (top 3) 0
abbrev sx_TooMany : Stmt := inClass (top 5) 0
abbrev sx_BadAllowance : Stmt := inClass (top 2) 0
def ps_BadDate (i : Nat) : Pos := match defBody sx_BadDate with
  | [.Expr (.Call (.Attribute (.Call (.Name _ p0) _ _ p1) _ p2) [.Constant _ _ p3] _ p4) p5, .Assign [.Attribute (.Name _ p6) _ p7] (.Name _ p8) p9] => match i with
    | 0 => p0 | 1 => p1 | 2 => p2 | 3 => p3 | 4 => p4 | 5 => p5 | 6 => p6 | 7 => p7 | 8 => p8 | _ => p9
  | _ => ⟨0, 0, 0, 0⟩
def ps_TooMany (i : Nat) : Pos := match defBody sx_TooMany with
  | [.Expr (.Call (.Attribute (.Call (.Name _ p0) _ _ p1) _ p2) [.Constant _ _ p3] _ p4) p5, .Assign [.Attribute (.Name _ p6) _ p7] (.Name _ p8) p9] => match i with
    | 0 => p0 | 1 => p1 | 2 => p2 | 3 => p3 | 4 => p4 | 5 => p5 | 6 => p6 | 7 => p7 | 8 => p8 | _ => p9
  | _ => ⟨0, 0, 0, 0⟩
def ps_BadAllowance (i : Nat) : Pos := match defBody sx_BadAllowance with
  | [.Expr (.Call (.Attribute (.Call (.Name _ p0) _ _ p1) _ p2) [.Constant _ _ p3] _ p4) p5, .Assign [.Attribute (.Name _ p6) _ p7] (.Name _ p8) p9] => match i with
    | 0 => p0 | 1 => p1 | 2 => p2 | 3 => p3 | 4 => p4 | 5 => p5 | 6 => p6 | 7 => p7 | 8 => p8 | _ => p9
  | _ => ⟨0, 0, 0, 0⟩
abbrev n_ascending : List Str := ["words", "word"]
theorem sc_ascending : FnScope n_ascending ["words"] (defScope s_ascending) := ⟨rfl, rfl, rfl, by decide +kernel, rfl, by decide +kernel, by decide +kernel⟩
abbrev n_is_open : List Str := ["row", "date"]
theorem sc_is_open : FnScope n_is_open ["row", "date"] (defScope s_is_open) := ⟨rfl, rfl, rfl, by decide +kernel, rfl, by decide +kernel, by decide +kernel⟩
abbrev n_Allowances_steps : List Str := ["self", "plain", "date", "row"]
theorem sc_Allowances_steps : FnScope n_Allowances_steps ["self", "plain", "date"] (defScope s_Allowances_steps) := ⟨rfl, rfl, rfl, by decide +kernel, rfl, by decide +kernel, by decide +kernel⟩
abbrev n_is_integer : List Str := ["value", "lowest", "highest"]
theorem sc_is_integer : FnScope n_is_integer ["value", "lowest", "highest"] (defScope s_is_integer) := ⟨rfl, rfl, rfl, by decide +kernel, rfl, by decide +kernel, by decide +kernel⟩
abbrev n_is_date : List Str := ["value"]
theorem sc_is_date : FnScope n_is_date ["value"] (defScope s_is_date) := ⟨rfl, rfl, rfl, by decide +kernel, rfl, by decide +kernel, by decide +kernel⟩
abbrev n_check_date : List Str := ["value"]
theorem sc_check_date : FnScope n_check_date ["value"] (defScope s_check_date) := ⟨rfl, rfl, rfl, by decide +kernel, rfl, by decide +kernel, by decide +kernel⟩
abbrev n_Allowances___call__ : List Str := ["self", "plain", "date", "found", "at", "part"]
theorem sc_Allowances___call__ : FnScope n_Allowances___call__ ["self", "plain", "date"] (defScope s_Allowances___call__) := ⟨rfl, rfl, rfl, by decide +kernel, rfl, by decide +kernel, by decide +kernel⟩
abbrev n__law_fits : List Str := ["_law_book_here", "_law_chain", "_law_plain", "_law_date", "_law_found", "_law_at", "_law_part", "_law_other", "_law_since", "_law_till"]
theorem sc__law_fits : FnScope n__law_fits ["_law_book_here", "_law_chain", "_law_plain", "_law_date"] (defScope s__law_fits) := ⟨rfl, rfl, rfl, by decide +kernel, rfl, by decide +kernel, by decide +kernel⟩
abbrev n_Allowances_dates : List Str := ["self", "found", "row", "date"]
theorem sc_Allowances_dates : FnScope n_Allowances_dates ["self"] (defScope s_Allowances_dates) := ⟨rfl, rfl, rfl, by decide +kernel, rfl, by decide +kernel, by decide +kernel⟩
abbrev n_text_of : List Str := ["row", "till"]
theorem sc_text_of : FnScope n_text_of ["row"] (defScope s_text_of) := ⟨rfl, rfl, rfl, by decide +kernel, rfl, by decide +kernel, by decide +kernel⟩
abbrev n_is_word : List Str := ["value", "sign"]
theorem sc_is_word : FnScope n_is_word ["value"] (defScope s_is_word) := ⟨rfl, rfl, rfl, by decide +kernel, rfl, by decide +kernel, by decide +kernel⟩
abbrev n_is_allowance : List Str := ["value"]
theorem sc_is_allowance : FnScope n_is_allowance ["value"] (defScope s_is_allowance) := ⟨rfl, rfl, rfl, by decide +kernel, rfl, by decide +kernel, by decide +kernel⟩
abbrev n_Allowances___init__ : List Str := ["self", "rows", "through", "index", "row", "known", "text"]
theorem sc_Allowances___init__ : FnScope n_Allowances___init__ ["self", "rows", "through"] (defScope s_Allowances___init__) := ⟨rfl, rfl, rfl, by decide +kernel, rfl, by decide +kernel, by decide +kernel⟩
abbrev n__law_draw : List Str := ["_law_pool_here", "_law_many", "_law_found"]
theorem sc__law_draw : FnScope n__law_draw ["_law_pool_here", "_law_many"] (defScope s__law_draw) := ⟨rfl, rfl, rfl, by decide +kernel, rfl, by decide +kernel, by decide +kernel⟩
abbrev n__law_pick : List Str := ["_law_pool_here", "_law_row"]
theorem sc__law_pick : FnScope n__law_pick ["_law_pool_here", "_law_row"] (defScope s__law_pick) := ⟨rfl, rfl, rfl, by decide +kernel, rfl, by decide +kernel, by decide +kernel⟩
abbrev n__law_book : List Str := ["_law_pool_here", "_law_parts_here", "_law_many", "_law_found", "_law_turn", "_law_part", "_law_plain", "_law_since", "_law_row"]
theorem sc__law_book : FnScope n__law_book ["_law_pool_here", "_law_parts_here", "_law_many"] (defScope s__law_book) := ⟨rfl, rfl, rfl, by decide +kernel, rfl, by decide +kernel, by decide +kernel⟩
abbrev n__law_parts : List Str := ["_law_pool_here", "_law_many", "_law_signs", "_law_start", "_law_step", "_law_tail", "_law_k"]
theorem sc__law_parts : FnScope n__law_parts ["_law_pool_here", "_law_many"] (defScope s__law_parts) := ⟨rfl, rfl, rfl, by decide +kernel, rfl, by decide +kernel, by decide +kernel⟩
abbrev n__law_pool : List Str := ["_law_script", "_law_k", "_law_cell", "_law_size", "_law_mixed"]
theorem sc__law_pool : FnScope n__law_pool ["_law_script", "_law_k"] (defScope s__law_pool) := ⟨rfl, rfl, rfl, by decide +kernel, rfl, by decide +kernel, by decide +kernel⟩
abbrev n_law : List Str := ["_law_script", "_law_k", "_law_pool_here", "_law_parts_here", "_law_rows", "_law_chain", "_law_book_here", "_law_dates", "_law_date", "_law_start", "_law_part", "_law_due", "_law_one", "_law_row"]
theorem sc_law : FnScope n_law ["_law_script"] (defScope s_law) := ⟨rfl, rfl, rfl, by decide +kernel, rfl, by decide +kernel, by decide +kernel⟩
/-! ### what each def computes -/
-- ascending: 0=words 1=word
def g_ascending : SF :=
  sRet (eSrtSt [1] (eOf4 (eFrz 0)) (gSl 1) (eRet true) (eBind (eCons (eD (eFrz 1)) (eRet [])) (g1 fun a => eOn a oStr)))
def m_ascending : MF := mDef 1 1 g_ascending
-- is_open: 0=row 1=date
def g_is_open : SF :=
  sRet (eDF (eAndV (e2 (eD (e2 (eD (eFrz 0)) (eD (eRet (.int 2))) fun x y => eOn2 x y oIx4)) (eD (eFrz 1)) fun x y => eOn2 x y oLe) (eOrV (e2 (eD (e2 (eD (eFrz 0)) (eD (eRet (.int 3))) fun x y => eOn2 x y oIx4)) (eD (eRet .non)) fun x y => eOn2 x y oIs) (e2 (eD (eFrz 1)) (eD (e2 (eD (eFrz 0)) (eD (eRet (.int 3))) fun x y => eOn2 x y oIx4)) fun x y => eOn2 x y oLe))))
def m_is_open : MF := mDef 2 0 g_is_open
-- Allowances_steps: 0=self 1=plain 2=date 3=row
def g_Allowances_steps : SF :=
  sRet (eCall m_ascending (eCons (eD (eFz (eLc [3] (eOf4 (eBind (eD (eFrz 0)) fun a => eOn a (oFld "Allowances" "own_rows"))) (gSl 3) (eAnd (eT (e2 (eD (e2 (eD (eFrz 3)) (eD (eRet (.int 1))) fun x y => eOn2 x y oIx4)) (eD (eFrz 1)) fun x y => eOn2 x y oEq)) (eT (eFz (eCall m_is_open (eCons (eD (eFrz 3)) (eCons (eD (eFrz 2)) (eRet []))))))) (e2 (eD (eFrz 3)) (eD (eRet (.int 0))) fun x y => eOn2 x y oIx4)))) (eRet [])))
def m_Allowances_steps : MF := mDef 3 1 g_Allowances_steps
-- is_integer: 0=value 1=lowest 2=highest
def g_is_integer : SF :=
  sRet (eDF (eAndV (eBind (eCons (eD (eFrz 0)) (eCons (eD (eRet (.ty "int"))) (eRet []))) (g2 fun a b => eOn2 a b oIsi)) (eAndV (eNotV (eBind (eCons (eD (eFrz 0)) (eCons (eD (eRet (.ty "bool"))) (eRet []))) (g2 fun a b => eOn2 a b oIsi))) (eChain (eD (eFrz 1)) (eD (eFrz 0)) (eD (eFrz 2)) oLe oLe))))
def m_is_integer : MF := mDef 3 0 g_is_integer
-- is_date: 0=value
def g_is_date : SF :=
  sRet (eCall m_is_integer (eCons (eD (eFrz 0)) (eCons (eD (eRet (.int 0))) (eCons (eD (eRet (.int 9999))) (eRet [])))))
def m_is_date : MF := mDef 1 0 g_is_date
-- check_date: 0=value
def g_check_date : SF :=
  sIf (eNot (eT (eFz (eCall m_is_date (eCons (eD (eFrz 0)) (eRet [])))))) (sRaise "BadDate" "date" (eFrz 0)) (sNx)
def m_check_date : MF := mDef 1 0 g_check_date
-- Allowances___call__: 0=self 1=plain 2=date 3=found 4=at 5=part
def l_Allowances___call___0 : SF :=
  sSeq (sDo (eMut 3 (eCons (eD (eFz (eLc [5] (eOf4 (eFz (eMeth "Allowances" "steps" m_Allowances_steps [] (eD (eFrz 0)) (eCons (eD (e2 (eName 3) (eD (eFrz 4)) fun x y => eOn2 x y oIx4)) (eCons (eD (eFrz 2)) (eRet [])))))) (gSl 5) (eT (e2 (eD (eFrz 5)) (eName 3) fun x y => eOn2 x y oNotIn4)) (eFrz 5)))) (eRet [])) oExtend))
  (sAug 4 (eRet (.int 1)) gAddI)
def g_Allowances___call__ : SF :=
  sSeq (sDo (eFz (eCall m_check_date (eCons (eD (eFrz 2)) (eRet [])))))
  (sSeq (sSetF 3 (eMeth "Allowances" "steps" m_Allowances_steps [] (eD (eFrz 0)) (eCons (eD (eFrz 1)) (eCons (eD (eFrz 2)) (eRet [])))))
  (sSeq (sSet 4 (eRet (.int 0)))
  (sSeq (sWhile (eAnd (eT (eBind (eD (eFrz 0)) fun a => eOn a (oFld "Allowances" "own_through"))) (eT (e2 (eD (eFrz 4)) (eD (eBind (eCons (eName 3) (eRet [])) (g1 fun a => eOn a oLen))) fun x y => eOn2 x y oLt))) (l_Allowances___call___0) 64)
  (sRet (eDF (eTup (eCons (eD (eFrz 1)) (eStar (eD (eFz (eCall m_ascending (eCons (eD (eFz (eLc [5] (eOf4 (eFrz 3)) (gSl 5) (eT (e2 (eD (eFrz 5)) (eD (eFrz 1)) fun x y => eOn2 x y oNe)) (eFrz 5)))) (eRet []))))) (eRet [])))))))))
def m_Allowances___call__ : MF := mDef 3 3 g_Allowances___call__
-- _law_fits: 0=_law_book_here 1=_law_chain 2=_law_plain 3=_law_date 4=_law_found 5=_law_at 6=_law_part 7=_law_other 8=_law_since 9=_law_till
def l__law_fits_0 : SF :=
  sIf (eAnd (eT (e2 (eD (eFrz 7)) (eD (e2 (eName 4) (eD (eFrz 5)) fun x y => eOn2 x y oIx4)) fun x y => eOn2 x y oEq)) (eAnd (eT (e2 (eD (eFrz 6)) (eName 4) fun x y => eOn2 x y oNotIn4)) (eAnd (eT (e2 (eD (eFrz 8)) (eD (eFrz 3)) fun x y => eOn2 x y oLe)) (eOr (eT (e2 (eD (eFrz 9)) (eD (eRet .non)) fun x y => eOn2 x y oIs)) (eT (e2 (eD (eFrz 3)) (eD (eFrz 9)) fun x y => eOn2 x y oLe)))))) (sDo (eMut 4 (eCons (eD (eFrz 6)) (eRet [])) oAppend)) (sNx)
def l__law_fits_1 : SF :=
  sSeq (sFor (eOf4 (eFrz 0)) (gTupM [gSl 6, gSl 7, gSl 8, gSl 9]) (l__law_fits_0))
  (sSet 5 (eIf (eT (eFrz 1)) (e2 (eD (eFrz 5)) (eD (eRet (.int 1))) fun x y => eOn2 x y oAdd) (eBind (eCons (eName 4) (eRet [])) (g1 fun a => eOn a oLen))))
def g__law_fits : SF :=
  sSeq (sPar2 4 5 (eLst (eCons (eD (eFrz 2)) (eRet []))) (eDF (eRet (.int 0))))
  (sSeq (sWhile (eT (e2 (eD (eFrz 5)) (eD (eBind (eCons (eName 4) (eRet [])) (g1 fun a => eOn a oLen))) fun x y => eOn2 x y oLt)) (l__law_fits_1) 64)
  (sRet (eDF (e2 (eD (eFz (eLst (eCons (eD (eFrz 2)) (eRet []))))) (eD (eBind (eCons (eD (eFz (eHide 6 (eLc [6] (eOf4 (eSl (eName 4) (ePart (some (eRet (.int 1)))) (ePart none))) (gSl 6) (eRet true) (eBind (eCons (eD (eFrz 6)) (eRet [])) (g1 fun a => eOn a oStr)))))) (eRet [])) (g1 fun a => eOn a oSrt4))) fun x y => eOn2 x y oAdd))))
def m__law_fits : MF := mDef 4 6 g__law_fits
-- Allowances_dates: 0=self 1=found 2=row 3=date
def l_Allowances_dates_0 : SF :=
  sSeq (sPutA 1 (eRet (.bl true)) (e2 (eD (eFrz 2)) (eD (eRet (.int 2))) fun x y => eOn2 x y oIx4))
  (sIf (eAnd (eT (e2 (eD (e2 (eD (eFrz 2)) (eD (eRet (.int 3))) fun x y => eOn2 x y oIx4)) (eD (eRet .non)) fun x y => eOn2 x y oIsNot)) (eT (e2 (eD (e2 (eD (eFrz 2)) (eD (eRet (.int 3))) fun x y => eOn2 x y oIx4)) (eD (eRet (.int 9999))) fun x y => eOn2 x y oLt))) (sPutA 1 (eRet (.bl true)) (e2 (eD (e2 (eD (eFrz 2)) (eD (eRet (.int 3))) fun x y => eOn2 x y oIx4)) (eD (eRet (.int 1))) fun x y => eOn2 x y oAdd)) (sNx))
def g_Allowances_dates : SF :=
  sSeq (sSetF 1 (eDict [(eRet (.int 0), eRet (.bl true))]))
  (sSeq (sFor (eOf4 (eBind (eD (eFrz 0)) fun a => eOn a (oFld "Allowances" "own_rows"))) (gSl 2) (l_Allowances_dates_0))
  (sRet (eDF (eBind (eCons (eD (eFz (eLc [3] (eOf4 (eFrz 1)) (gSl 3) (eRet true) (eBind (eCons (eD (eFrz 3)) (eRet [])) (g1 fun a => eOn a oInt))))) (eRet [])) (g1 fun a => eOn a oSrt4)))))
def m_Allowances_dates : MF := mDef 1 3 g_Allowances_dates
-- text_of: 0=row 1=till
def g_text_of : SF :=
  sSeq (sSet 1 (eIf (eT (e2 (eD (e2 (eD (eFrz 0)) (eD (eRet (.int 3))) fun x y => eOn2 x y oIx4)) (eD (eRet .non)) fun x y => eOn2 x y oIs)) (eRet (.str "x")) (eStrOf (eBind (e2 (eD (eFrz 0)) (eD (eRet (.int 3))) fun x y => eOn2 x y oIx4) (oFmtI "05")))))
  (sRet (eDF (eJs [eBind (e2 (eD (eFrz 0)) (eD (eRet (.int 0))) fun x y => eOn2 x y oIx4) oFmt, eRet " ", eBind (e2 (eD (eFrz 0)) (eD (eRet (.int 1))) fun x y => eOn2 x y oIx4) oFmt, eRet " ", eBind (e2 (eD (eFrz 0)) (eD (eRet (.int 2))) fun x y => eOn2 x y oIx4) (oFmtI "05"), eRet " ", eBind (eFrz 1) oFmt] Str.empty)))
def m_text_of : MF := mDef 1 1 g_text_of
-- is_word: 0=value 1=sign
def g_is_word : SF :=
  sSeq (sIf (eOr (eNot (eT (eBind (eCons (eD (eFrz 0)) (eCons (eD (eRet (.ty "str"))) (eRet []))) (g2 fun a b => eOn2 a b oIsi)))) (eNot (eT (eChain (eD (eRet (.int 1))) (eD (eBind (eCons (eD (eFrz 0)) (eRet [])) (g1 fun a => eOn a oLen))) (eD (eRet (.int 8))) oLe oLe)))) (sRet (eDF (eRet (.bl false)))) (sNx))
  (sRet (eDF (eBind (eCons (eD (eFz (eLc [1] (eOf4 (eFrz 0)) (gSl 1) (eRet true) (e2 (eD (eFrz 1)) (eD (eRet (.str "abcdefghijklmnopqrstuvwxyz"))) fun x y => eOn2 x y oIn4)))) (eRet [])) (g1 fun a => eOn a oAll))))
def m_is_word : MF := mDef 1 1 g_is_word
-- is_allowance: 0=value
def g_is_allowance : SF :=
  sSeq (sIf (eOr (eNot (eT (eBind (eCons (eD (eFrz 0)) (eCons (eD (eRet (.ty "tuple"))) (eRet []))) (g2 fun a b => eOn2 a b oIsi)))) (eOr (eT (e2 (eD (eBind (eCons (eD (eFrz 0)) (eRet [])) (g1 fun a => eOn a oLen))) (eD (eRet (.int 4))) fun x y => eOn2 x y oNe)) (eOr (eNot (eT (eFz (eCall m_is_word (eCons (eD (e2 (eD (eFrz 0)) (eD (eRet (.int 0))) fun x y => eOn2 x y oIx4)) (eRet [])))))) (eNot (eT (eFz (eCall m_is_word (eCons (eD (e2 (eD (eFrz 0)) (eD (eRet (.int 1))) fun x y => eOn2 x y oIx4)) (eRet []))))))))) (sRet (eDF (eRet (.bl false)))) (sNx))
  (sSeq (sIf (eOr (eT (e2 (eD (e2 (eD (eFrz 0)) (eD (eRet (.int 0))) fun x y => eOn2 x y oIx4)) (eD (e2 (eD (eFrz 0)) (eD (eRet (.int 1))) fun x y => eOn2 x y oIx4)) fun x y => eOn2 x y oEq)) (eNot (eT (eFz (eCall m_is_date (eCons (eD (e2 (eD (eFrz 0)) (eD (eRet (.int 2))) fun x y => eOn2 x y oIx4)) (eRet []))))))) (sRet (eDF (eRet (.bl false)))) (sNx))
  (sRet (eDF (eOrV (e2 (eD (e2 (eD (eFrz 0)) (eD (eRet (.int 3))) fun x y => eOn2 x y oIx4)) (eD (eRet .non)) fun x y => eOn2 x y oIs) (eAndV (eFz (eCall m_is_date (eCons (eD (e2 (eD (eFrz 0)) (eD (eRet (.int 3))) fun x y => eOn2 x y oIx4)) (eRet [])))) (e2 (eD (e2 (eD (eFrz 0)) (eD (eRet (.int 3))) fun x y => eOn2 x y oIx4)) (eD (e2 (eD (eFrz 0)) (eD (eRet (.int 2))) fun x y => eOn2 x y oIx4)) fun x y => eOn2 x y oGe))))))
def m_is_allowance : MF := mDef 1 0 g_is_allowance
-- Allowances___init__: 0=self 1=rows 2=through 3=index 4=row 5=known 6=text
def l_Allowances___init___0 : SF :=
  sIf (eOr (eNot (eT (eFz (eCall m_is_allowance (eCons (eD (eFrz 4)) (eRet [])))))) (eT (e2 (eD (eFrz 4)) (eD (eSl (eD (eFrz 1)) (ePart none) (ePart (some (eFrz 3))))) fun x y => eOn2 x y oIn4))) (sRaise "BadAllowance" "index" (eFrz 3)) (sNx)
def g_Allowances___init__ : SF :=
  sSeq (sIf (eNot (eT (eBind (eCons (eD (eFrz 1)) (eCons (eD (eTup (eCons (eD (eRet (.ty "list"))) (eCons (eD (eRet (.ty "tuple"))) (eRet []))))) (eRet []))) (g2 fun a b => eOn2 a b oIsi)))) (sRaise "BadAllowance" "index" (eRet .non)) (sNx))
  (sSeq (sFor (eBind (eCons (eD (eFrz 1)) (eRet [])) gEnm4) (gTupM [gSl 3, gSl 4]) (l_Allowances___init___0))
  (sSeq (sIf (eT (e2 (eD (eBind (eCons (eD (eFrz 1)) (eRet [])) (g1 fun a => eOn a oLen))) (eD (eRet (.int 12))) fun x y => eOn2 x y oGt)) (sRaise "TooMany" "limit" (eRet (.int 12))) (sNx))
  (sSeq (sSetF 5 (eHide 4 (eDc [4] (eOf4 (eFrz 1)) (gSl 4) (eRet true) (eFz (eCall m_text_of (eCons (eD (eFrz 4)) (eRet [])))) (eFrz 4))))
  (sSeq (sPutF 0 "Allowances" "own_rows" (eFz (eLc [6] (eOf4 (eBind (eCons (eD (eFz (eLc [6] (eOf4 (eFrz 5)) (gSl 6) (eRet true) (eBind (eCons (eD (eFrz 6)) (eRet [])) (g1 fun a => eOn a oStr))))) (eRet [])) (g1 fun a => eOn a oSrt4))) (gSl 6) (eRet true) (e2 (eD (eFrz 5)) (eD (eFrz 6)) fun x y => eOn2 x y oIx4))))
  (sPutF 0 "Allowances" "own_through" (eBind (eCons (eD (eFrz 2)) (eRet [])) (g1 fun a => eOn a oBool)))))))
def m_Allowances___init__ : MF := mDef 3 4 g_Allowances___init__
-- _law_draw: 0=_law_pool_here 1=_law_many 2=_law_found
def g__law_draw : SF :=
  sSeq (sIf (eT (e2 (eD (e2 (eName 0) (eD (eRet (.int 0))) fun x y => eOn2 x y oIx4)) (eD (eRet (.int 0))) fun x y => eOn2 x y oGt)) (sSeq (sSet 2 (e2 (eD (eBind (eCons (eD (e2 (eName 0) (eD (eRet (.int 0))) fun x y => eOn2 x y oIx4)) (eRet [])) (g1 fun a => eOn a oInt))) (eD (eFrz 1)) fun x y => eOn2 x y oMod))
  (sSeq (sPutA 0 (e2 (eD (e2 (eName 0) (eD (eRet (.int 0))) fun x y => eOn2 x y oIx4)) (eD (eFrz 1)) fun x y => eOn2 x y oFdiv) (eRet (.int 0)))
  (sRet (eOut 2)))) (sNx))
  (sSeq (sPutA 0 (e2 (eD (eBind (eCons (eD (e2 (eD (e2 (eD (e2 (eName 0) (eD (eRet (.int 1))) fun x y => eOn2 x y oIx4)) (eD (eRet (.int 48271))) fun x y => eOn2 x y oMul)) (eD (eRet (.int 11))) fun x y => eOn2 x y oAdd)) (eRet [])) (g1 fun a => eOn a oInt))) (eD (eRet (.int 2147483647))) fun x y => eOn2 x y oMod) (eRet (.int 1)))
  (sRet (eDF (e2 (eD (eBind (eCons (eD (e2 (eD (e2 (eD (eBind (eCons (eD (e2 (eD (e2 (eName 0) (eD (eRet (.int 1))) fun x y => eOn2 x y oIx4)) (eD (e2 (eName 0) (eD (eRet (.int 1))) fun x y => eOn2 x y oIx4)) fun x y => eOn2 x y oMul)) (eRet [])) (g1 fun a => eOn a oInt))) (eD (eRet (.int 2147483629))) fun x y => eOn2 x y oMod)) (eD (eRet (.int 16))) fun x y => eOn2 x y oFdiv)) (eRet [])) (g1 fun a => eOn a oInt))) (eD (eFrz 1)) fun x y => eOn2 x y oMod))))
def m__law_draw : MF := mDef 2 1 g__law_draw
-- _law_pick: 0=_law_pool_here 1=_law_row
def g__law_pick : SF :=
  sRet (eDF (e2 (eD (eFrz 1)) (eD (eFz (eCall m__law_draw (eCons (eName 0) (eCons (eD (eBind (eCons (eD (eFrz 1)) (eRet [])) (g1 fun a => eOn a oLen))) (eRet [])))))) fun x y => eOn2 x y oIx4))
def m__law_pick : MF := mDef 2 0 g__law_pick
-- _law_book: 0=_law_pool_here 1=_law_parts_here 2=_law_many 3=_law_found 4=_law_turn 5=_law_part 6=_law_plain 7=_law_since 8=_law_row
def l__law_book_0 : SF :=
  sSeq (sPar3 5 6 7 (eFz (eCall m__law_pick (eCons (eName 0) (eCons (eD (eFrz 1)) (eRet []))))) (eFz (eCall m__law_pick (eCons (eName 0) (eCons (eD (eFrz 1)) (eRet []))))) (eFz (eCall m__law_draw (eCons (eName 0) (eCons (eD (eRet (.int 4))) (eRet []))))))
  (sSeq (sSet 8 (eTup (eCons (eD (eFrz 5)) (eCons (eD (eFrz 6)) (eCons (eD (eFrz 7)) (eCons (eD (eFz (eCall m__law_pick (eCons (eName 0) (eCons (eD (eFz (eLst (eCons (eD (eRet .non)) (eCons (eD (eRet .non)) (eCons (eD (eFrz 7)) (eCons (eD (e2 (eD (eFrz 7)) (eD (eRet (.int 2))) fun x y => eOn2 x y oAdd)) (eCons (eD (eRet (.int 9999))) (eRet []))))))))) (eRet [])))))) (eRet [])))))))
  (sIf (eAnd (eT (e2 (eD (eFrz 5)) (eD (eFrz 6)) fun x y => eOn2 x y oNe)) (eT (e2 (eD (eFrz 8)) (eName 3) fun x y => eOn2 x y oNotIn4))) (sDo (eMut 3 (eCons (eD (eFrz 8)) (eRet [])) oAppend)) (sNx)))
def g__law_book : SF :=
  sSeq (sSetF 3 (eLst (eRet [])))
  (sSeq (sFor (eBind (eCons (eD (eFrz 2)) (eRet [])) gRng1) (gSl 4) (l__law_book_0))
  (sRet (eOut 3)))
def m__law_book : MF := mDef 3 6 g__law_book
-- _law_parts: 0=_law_pool_here 1=_law_many 2=_law_signs 3=_law_start 4=_law_step 5=_law_tail 6=_law_k
def g__law_parts : SF :=
  sSeq (sSet 2 (eRet (.str "abcdefghijklmnopqrstuvwxyz")))
  (sSeq (sTo (eTup (eCons (eD (eFz (eCall m__law_draw (eCons (eName 0) (eCons (eD (eRet (.int 26))) (eRet [])))))) (eCons (eD (e2 (eD (eRet (.int 1))) (eD (e2 (eD (eRet (.int 2))) (eD (eFz (eCall m__law_draw (eCons (eName 0) (eCons (eD (eRet (.int 6))) (eRet [])))))) fun x y => eOn2 x y oMul)) fun x y => eOn2 x y oAdd)) (eCons (eD (eFz (eCall m__law_pick (eCons (eName 0) (eCons (eD (eFz (eLst (eCons (eD (eRet (.str ""))) (eCons (eD (eRet (.str ""))) (eCons (eD (eRet (.str "q"))) (eCons (eD (eRet (.str "abcdefg"))) (eRet [])))))))) (eRet [])))))) (eRet []))))) (gTupM [gSl 3, gSl 4, gSl 5]))
  (sRet (eLc [6] (eBind (eCons (eD (eFrz 1)) (eRet [])) gRng1) (gSl 6) (eRet true) (e2 (eD (e2 (eD (eFrz 2)) (eD (e2 (eD (eBind (eCons (eD (e2 (eD (eFrz 3)) (eD (e2 (eD (eFrz 4)) (eD (eFrz 6)) fun x y => eOn2 x y oMul)) fun x y => eOn2 x y oAdd)) (eRet [])) (g1 fun a => eOn a oInt))) (eD (eRet (.int 26))) fun x y => eOn2 x y oMod)) fun x y => eOn2 x y oIx4)) (eD (eFrz 5)) fun x y => eOn2 x y oAdd))))
def m__law_parts : MF := mDef 2 5 g__law_parts
-- _law_pool: 0=_law_script 1=_law_k 2=_law_cell 3=_law_size 4=_law_mixed
def g__law_pool : SF :=
  sSeq (sSet 2 (eIf (eT (e2 (eD (eFrz 1)) (eD (eBind (eCons (eD (eFrz 0)) (eRet [])) (g1 fun a => eOn a oLen))) fun x y => eOn2 x y oLt)) (e2 (eD (eFrz 0)) (eD (eFrz 1)) fun x y => eOn2 x y oIx4) (e2 (eD (e2 (eD (eRet (.int 7))) (eD (eBind (eCons (eD (eSl (eD (eFrz 0)) (ePart none) (ePart (some (eRet (.int 63)))))) (eRet [])) (g1 fun a => eOn a oSum))) fun x y => eOn2 x y oMul)) (eD (eFrz 1)) fun x y => eOn2 x y oAdd)))
  (sSeq (sSet 3 (eBind (eCons (eD (eFrz 2)) (eRet [])) (g1 fun a => eOn a oAbs)))
  (sSeq (sSet 4 (e2 (eD (e2 (eD (e2 (eD (e2 (eD (eBind (eCons (eD (eFrz 3)) (eRet [])) (g1 fun a => eOn a oInt))) (eD (eRet (.int 2147483629))) fun x y => eOn2 x y oMod)) (eD (e2 (eD (e2 (eD (eRet (.int 7919))) (eD (eFrz 1)) fun x y => eOn2 x y oMul)) (eD (eFrz 1)) fun x y => eOn2 x y oMul)) fun x y => eOn2 x y oAdd)) (eD (e2 (eD (eRet (.int 31))) (eD (eFrz 1)) fun x y => eOn2 x y oMul)) fun x y => eOn2 x y oAdd)) (eD (eRet (.int 17))) fun x y => eOn2 x y oAdd))
  (sSeq (sSet 4 (e2 (eD (eBind (eCons (eD (e2 (eD (eFrz 4)) (eD (eRet (.int 48271))) fun x y => eOn2 x y oMul)) (eRet [])) (g1 fun a => eOn a oInt))) (eD (eRet (.int 2147483647))) fun x y => eOn2 x y oMod))
  (sRet (eLst (eCons (eD (e2 (eD (eFrz 3)) (eD (eBind (eCons (eD (e2 (eD (eFrz 3)) (eD (e2 (eD (eRet (.int 10))) (eD (eRet (.int 18))) fun x y => eOn2 x y oPow)) fun x y => eOn2 x y oGe)) (eRet [])) (g1 fun a => eOn a oInt))) fun x y => eOn2 x y oMul)) (eCons (eD (e2 (eD (eBind (eCons (eD (e2 (eD (eFrz 4)) (eD (eFrz 4)) fun x y => eOn2 x y oMul)) (eRet [])) (g1 fun a => eOn a oInt))) (eD (eRet (.int 2147483629))) fun x y => eOn2 x y oMod)) (eRet []))))))))
def m__law_pool : MF := mDef 2 3 g__law_pool
-- law: 0=_law_script 1=_law_k 2=_law_pool_here 3=_law_parts_here 4=_law_rows 5=_law_chain 6=_law_book_here 7=_law_dates 8=_law_date 9=_law_start 10=_law_part 11=_law_due 12=_law_one 13=_law_row
def l_law_0 : SF :=
  sIf (eT (e2 (eD (eFrz 7)) (eD (eBind (eCons (eD (eFz (eHide 8 (eLc [8] (eOf4 (eFrz 11)) (gSl 8) (eRet true) (eBind (eCons (eD (eFrz 8)) (eRet [])) (g1 fun a => eOn a oInt)))))) (eRet [])) (g1 fun a => eOn a oSrt4))) fun x y => eOn2 x y oNe)) (sRet (eDF (eRet (.bl false)))) (sNx)
def l_law_1 : SF :=
  sSetF 11 (eBind (eCons (eD (eFz (eHide 8 (eLc [8] (eOf4 (eFrz 11)) (gSl 8) (eT (e2 (eD (eFrz 8)) (eD (eRet (.int 10000))) fun x y => eOn2 x y oLt)) (eTup (eCons (eD (eFrz 8)) (eCons (eD (eRet (.int 0))) (eRet [])))))))) (eRet [])) (g1 gDictOf))
def l_law_2 : SF :=
  sSet 11 (e2 (eD (e2 (eD (eFz (eLst (eCons (eD (eRet (.int 0))) (eRet []))))) (eD (eFz (eLc [13] (eOf4 (eFrz 4)) (gSl 13) (eRet true) (e2 (eD (eFrz 13)) (eD (eRet (.int 2))) fun x y => eOn2 x y oIx4)))) fun x y => eOn2 x y oAdd)) (eD (eFz (eLc [13] (eOf4 (eFrz 4)) (gSl 13) (eT (e2 (eD (e2 (eD (eFrz 13)) (eD (eRet (.int 3))) fun x y => eOn2 x y oIx4)) (eD (eRet .non)) fun x y => eOn2 x y oIsNot)) (e2 (eD (e2 (eD (eFrz 13)) (eD (eRet (.int 3))) fun x y => eOn2 x y oIx4)) (eD (eRet (.int 1))) fun x y => eOn2 x y oAdd)))) fun x y => eOn2 x y oAdd)
def l_law_3 : SF :=
  sIf (eOr (eT (e2 (eD (eFz (eCallI "Allowances" 3 m_Allowances___call__ (eD (eFrz 6)) (eCons (eD (eFrz 10)) (eCons (eD (eFrz 8)) (eRet [])))))) (eD (eFrz 11)) fun x y => eOn2 x y oNe)) (eT (e2 (eD (eFz (eCallI "Allowances" 3 m_Allowances___call__ (eD (eFrz 6)) (eCons (eD (eFrz 10)) (eCons (eD (eFrz 9)) (eRet [])))))) (eD (eFrz 11)) fun x y => eOn2 x y oNe))) (sRet (eDF (eRet (.bl false)))) (sNx)
def l_law_4 : SF :=
  sSet 11 (eBind (eCons (eD (eFz (eCall m__law_fits (eCons (eD (eFrz 4)) (eCons (eD (eFrz 5)) (eCons (eD (eFrz 10)) (eCons (eD (eFrz 8)) (eRet [])))))))) (eRet [])) (g1 fun a => eOn a oTupOf))
def l_law_5 : SF :=
  sSeq (l_law_4)
  (l_law_3)
def l_law_6 : SF :=
  sFor (eOf4 (e2 (eD (eFrz 3)) (eD (eFz (eLst (eCons (eD (eRet (.str "other"))) (eRet []))))) fun x y => eOn2 x y oAdd)) (gSl 10) (l_law_5)
def l_law_7 : SF :=
  sSet 9 (e2 (eD (eFz (eLc [12] (eOf4 (eFrz 7)) (gSl 12) (eT (e2 (eD (eFrz 12)) (eD (eFrz 8)) fun x y => eOn2 x y oLe)) (eFrz 12)))) (eD (eBind (eRet (.int 1)) oNeg)) fun x y => eOn2 x y oIx4)
def l_law_8 : SF :=
  sSeq (l_law_7)
  (l_law_6)
def l_law_9 : SF :=
  sFor (eOf4 (eFz (eLst (eCons (eD (eRet (.int 0))) (eCons (eD (eRet (.int 1))) (eCons (eD (eRet (.int 2))) (eCons (eD (eRet (.int 3))) (eCons (eD (eRet (.int 4))) (eCons (eD (eRet (.int 5))) (eCons (eD (eRet (.int 6))) (eCons (eD (eRet (.int 7))) (eCons (eD (eRet (.int 8))) (eCons (eD (eRet (.int 9999))) (eRet [])))))))))))))) (gSl 8) (l_law_8)
def l_law_10 : SF :=
  sSetF 7 (eMeth "Allowances" "dates" m_Allowances_dates [] (eD (eFrz 6)) (eRet []))
def l_law_11 : SF :=
  sSetF 6 (eMake "Allowances" m_Allowances___init__ [] (eArgs (fun as zs => as ++ zs) 1 1 (eCons (eD (eFrz 4)) (eRet [])) (eCons (eD (eFrz 5)) (eRet []))))
def l_law_12 : SF :=
  sSeq (l_law_11)
  (sSeq (l_law_10)
  (sSeq (l_law_9)
  (sSeq (l_law_2)
  (sSeq (l_law_1)
  (l_law_0)))))
def l_law_13 : SF :=
  sFor (eOf4 (eFz (eLst (eCons (eD (eRet (.bl false))) (eCons (eD (eRet (.bl true))) (eRet [])))))) (gSl 5) (l_law_12)
def l_law_14 : SF :=
  sSetF 4 (eCall m__law_book (eCons (eName 2) (eCons (eD (eFrz 3)) (eCons (eD (eFz (eCall m__law_draw (eCons (eName 2) (eCons (eD (eRet (.int 7))) (eRet [])))))) (eRet [])))))
def l_law_15 : SF :=
  sSetF 3 (eCall m__law_parts (eCons (eName 2) (eCons (eD (eRet (.int 4))) (eRet []))))
def l_law_16 : SF :=
  sSetF 2 (eCall m__law_pool (eCons (eD (eFrz 0)) (eCons (eD (eFrz 1)) (eRet []))))
def l_law_17 : SF :=
  sSeq (l_law_16)
  (sSeq (l_law_15)
  (sSeq (l_law_14)
  (l_law_13)))
def l_law_18 : SF :=
  sFor (eBind (eCons (eD (eBind (eCons (eD (eRet (.int 1))) (eCons (eD (eBind (eCons (eD (eBind (eCons (eD (eFrz 0)) (eRet [])) (g1 fun a => eOn a oLen))) (eCons (eD (eRet (.int 3))) (eRet []))) (g2 fun a b => eOn2 a b oMin))) (eRet []))) (g2 fun a b => eOn2 a b oMax))) (eRet [])) gRng1) (gSl 1) (l_law_17)
def g_law : SF :=
  sSeq (l_law_18)
  (sRet (eDF (eRet (.bl true))))
def m_law : MF := mDef 1 13 g_law
/-! ### facts of the top -/
structure Tx (P : Program) (K : PySem.W.Frag) (mg : Str → Option Value) where
  f_law : Addr
  fd_law : FuncData
  F_law : Fun K "law" "law" s_law f_law fd_law
  g_law : mg "law" = some (.ref f_law)
  b_law : Binds K fd_law ["_law_script"] []
  z_max : mg "max" = none
  z_min : mg "min" = none
  z_len : mg "len" = none
  z_range : mg "range" = none
  z_sorted : mg "sorted" = none
  z_int : mg "int" = none
  z_dict : mg "dict" = none
  c_Allowances : Addr
  n_Allowances : ClsN K "Allowances" c_Allowances
  m_Allowances : mg "Allowances" = some (.ref c_Allowances)
  f_Allowances___call__ : Addr
  fd_Allowances___call__ : FuncData
  F_Allowances___call__ : Fun K "__call__" "Allowances.__call__" s_Allowances___call__ f_Allowances___call__ fd_Allowances___call__
  me_Allowances___call__ : Meth K c_Allowances "__call__" f_Allowances___call__
  b_Allowances___call__ : Binds K fd_Allowances___call__ ["self", "plain", "date"] []
  f_ascending : Addr
  fd_ascending : FuncData
  F_ascending : Fun K "ascending" "ascending" s_ascending f_ascending fd_ascending
  g_ascending : mg "ascending" = some (.ref f_ascending)
  b_ascending : Binds K fd_ascending ["words"] []
  z_str : mg "str" = none
  p_Allowances : Plain K "Allowances" c_Allowances
  na_Allowances_own_through : NoAttr K c_Allowances "own_through"
  f_Allowances_steps : Addr
  fd_Allowances_steps : FuncData
  F_Allowances_steps : Fun K "steps" "Allowances.steps" s_Allowances_steps f_Allowances_steps fd_Allowances_steps
  me_Allowances_steps : Meth K c_Allowances "steps" f_Allowances_steps
  b_Allowances_steps : Binds K fd_Allowances_steps ["self", "plain", "date"] []
  na_Allowances_own_rows : NoAttr K c_Allowances "own_rows"
  f_is_open : Addr
  fd_is_open : FuncData
  F_is_open : Fun K "is_open" "is_open" s_is_open f_is_open fd_is_open
  g_is_open : mg "is_open" = some (.ref f_is_open)
  b_is_open : Binds K fd_is_open ["row", "date"] []
  f_check_date : Addr
  fd_check_date : FuncData
  F_check_date : Fun K "check_date" "check_date" s_check_date f_check_date fd_check_date
  g_check_date : mg "check_date" = some (.ref f_check_date)
  b_check_date : Binds K fd_check_date ["value"] []
  f_is_date : Addr
  fd_is_date : FuncData
  F_is_date : Fun K "is_date" "is_date" s_is_date f_is_date fd_is_date
  g_is_date : mg "is_date" = some (.ref f_is_date)
  b_is_date : Binds K fd_is_date ["value"] []
  f_is_integer : Addr
  fd_is_integer : FuncData
  F_is_integer : Fun K "is_integer" "is_integer" s_is_integer f_is_integer fd_is_integer
  g_is_integer : mg "is_integer" = some (.ref f_is_integer)
  b_is_integer : Binds K fd_is_integer ["value", "lowest", "highest"] []
  z_isinstance : mg "isinstance" = none
  z_bool : mg "bool" = none
  k_LAST_DATE : ∃ t, mg "LAST_DATE" = some (.int 9999 t)
  c_BadDate : Addr
  n_BadDate : ClsN K "BadDate" c_BadDate
  m_BadDate : mg "BadDate" = some (.ref c_BadDate)
  z_super : mg "super" = none
  x_BadDate : ExcK P K c_BadDate "date" "date" "ValueError" "ValueError.__init__" "ValueError.__new__" [.type "ValueError", .type "Exception", .type "BaseException", .type "object"]
  xk_BadDate : PySem.W.keepIn K (.ref c_BadDate) = true
  xb_BadDate : PySem.W.subIn K (.ref c_BadDate) (.type "BaseException") = some true
  xt_BadDate : PySem.W.typeIn K (.ref c_BadDate) = some (.type "type")
  ci_Allowances : CallI K c_Allowances f_Allowances___call__
  z_tuple : mg "tuple" = none
  f__law_fits : Addr
  fd__law_fits : FuncData
  F__law_fits : Fun K "_law_fits" "_law_fits" s__law_fits f__law_fits fd__law_fits
  g__law_fits : mg "_law_fits" = some (.ref f__law_fits)
  b__law_fits : Binds K fd__law_fits ["_law_book_here", "_law_chain", "_law_plain", "_law_date"] []
  f_Allowances_dates : Addr
  fd_Allowances_dates : FuncData
  F_Allowances_dates : Fun K "dates" "Allowances.dates" s_Allowances_dates f_Allowances_dates fd_Allowances_dates
  me_Allowances_dates : Meth K c_Allowances "dates" f_Allowances_dates
  b_Allowances_dates : Binds K fd_Allowances_dates ["self"] []
  f_Allowances___init__ : Addr
  fd_Allowances___init__ : FuncData
  F_Allowances___init__ : Fun K "__init__" "Allowances.__init__" s_Allowances___init__ f_Allowances___init__ fd_Allowances___init__
  me_Allowances___init__ : Meth K c_Allowances "__init__" f_Allowances___init__
  dv0_Allowances___init__ : Addr
  D_Allowances___init__ : L2.FunD K "__init__" "Allowances.__init__" (defArgs s_Allowances___init__) (defBody s_Allowances___init__) (defScope s_Allowances___init__) [.ref dv0_Allowances___init__] [("through", .bl false)] f_Allowances___init__ fd_Allowances___init__
  f_text_of : Addr
  fd_text_of : FuncData
  F_text_of : Fun K "text_of" "text_of" s_text_of f_text_of fd_text_of
  g_text_of : mg "text_of" = some (.ref f_text_of)
  b_text_of : Binds K fd_text_of ["row"] []
  nd : PySem.W.nsIn K PySem.cStatics "sys.int_max_str_digits" = some none
  k_MOST_ALLOWANCES : ∃ t, mg "MOST_ALLOWANCES" = some (.int 12 t)
  c_TooMany : Addr
  n_TooMany : ClsN K "TooMany" c_TooMany
  m_TooMany : mg "TooMany" = some (.ref c_TooMany)
  x_TooMany : ExcK P K c_TooMany "limit" "limit" "OverflowError" "OverflowError.__init__" "OverflowError.__new__" [.type "OverflowError", .type "ArithmeticError", .type "Exception", .type "BaseException", .type "object"]
  xk_TooMany : PySem.W.keepIn K (.ref c_TooMany) = true
  xb_TooMany : PySem.W.subIn K (.ref c_TooMany) (.type "BaseException") = some true
  xt_TooMany : PySem.W.typeIn K (.ref c_TooMany) = some (.type "type")
  z_enumerate : mg "enumerate" = none
  f_is_allowance : Addr
  fd_is_allowance : FuncData
  F_is_allowance : Fun K "is_allowance" "is_allowance" s_is_allowance f_is_allowance fd_is_allowance
  g_is_allowance : mg "is_allowance" = some (.ref f_is_allowance)
  b_is_allowance : Binds K fd_is_allowance ["value"] []
  f_is_word : Addr
  fd_is_word : FuncData
  F_is_word : Fun K "is_word" "is_word" s_is_word f_is_word fd_is_word
  g_is_word : mg "is_word" = some (.ref f_is_word)
  b_is_word : Binds K fd_is_word ["value"] []
  z_all : mg "all" = none
  k_LETTERS : ∃ t, mg "LETTERS" = some (.str "abcdefghijklmnopqrstuvwxyz" t)
  k_MOST_LETTERS : ∃ t, mg "MOST_LETTERS" = some (.int 8 t)
  c_BadAllowance : Addr
  n_BadAllowance : ClsN K "BadAllowance" c_BadAllowance
  m_BadAllowance : mg "BadAllowance" = some (.ref c_BadAllowance)
  x_BadAllowance : ExcK P K c_BadAllowance "index" "index" "ValueError" "ValueError.__init__" "ValueError.__new__" [.type "ValueError", .type "Exception", .type "BaseException", .type "object"]
  xk_BadAllowance : PySem.W.keepIn K (.ref c_BadAllowance) = true
  xb_BadAllowance : PySem.W.subIn K (.ref c_BadAllowance) (.type "BaseException") = some true
  xt_BadAllowance : PySem.W.typeIn K (.ref c_BadAllowance) = some (.type "type")
  z_list : mg "list" = none
  mk_Allowances : Made K mg "Allowances" c_Allowances f_Allowances___init__
  kb_Allowances___init___2_through : ∃ its mv : List Value, KBn K fd_Allowances___init__ ["self", "rows", "through"] 2 ["through"] (fun us ws => gApp us its mv ws) (inG fun a b => a ++ b)
  f__law_book : Addr
  fd__law_book : FuncData
  F__law_book : Fun K "_law_book" "_law_book" s__law_book f__law_book fd__law_book
  g__law_book : mg "_law_book" = some (.ref f__law_book)
  b__law_book : Binds K fd__law_book ["_law_pool_here", "_law_parts_here", "_law_many"] []
  f__law_pick : Addr
  fd__law_pick : FuncData
  F__law_pick : Fun K "_law_pick" "_law_pick" s__law_pick f__law_pick fd__law_pick
  g__law_pick : mg "_law_pick" = some (.ref f__law_pick)
  b__law_pick : Binds K fd__law_pick ["_law_pool_here", "_law_row"] []
  f__law_draw : Addr
  fd__law_draw : FuncData
  F__law_draw : Fun K "_law_draw" "_law_draw" s__law_draw f__law_draw fd__law_draw
  g__law_draw : mg "_law_draw" = some (.ref f__law_draw)
  b__law_draw : Binds K fd__law_draw ["_law_pool_here", "_law_many"] []
  f__law_parts : Addr
  fd__law_parts : FuncData
  F__law_parts : Fun K "_law_parts" "_law_parts" s__law_parts f__law_parts fd__law_parts
  g__law_parts : mg "_law_parts" = some (.ref f__law_parts)
  b__law_parts : Binds K fd__law_parts ["_law_pool_here", "_law_many"] []
  f__law_pool : Addr
  fd__law_pool : FuncData
  F__law_pool : Fun K "_law_pool" "_law_pool" s__law_pool f__law_pool fd__law_pool
  g__law_pool : mg "_law_pool" = some (.ref f__law_pool)
  b__law_pool : Binds K fd__law_pool ["_law_script", "_law_k"] []
  z_abs : mg "abs" = none
  z_sum : mg "sum" = none
section
variable {P : Program} {w : World} {K : PySem.W.Frag} {mg : Str → Option Value} {base : Heap}
theorem ok_ascending (T : Tx P K mg) : FnOk P w K mg base (L2.CX P w) 1 T.f_ascending T.fd_ascending ["words"] (spM K 1 m_ascending) := by
  have Sc := sc_ascending
  refine okM (j := 0) T.F_ascending Sc rfl rfl fun cdv A outer s H E hR tk => ?_
  exact (db_one (ds_ret (df_srtSt T.z_sorted (own := [("word", 1)]) rfl Sc.nd (di_val4 (de_frz 0)) (blkOk_by (by show blkC n_ascending (defScope s_ascending) _ _ = true; decide +kernel)) (fun _ _ _ _ _ => (dgv_name 1 Sc.nd)) (fun _ _ _ _ _ => dts_nil) (fun _ _ _ _ _ => (de_str1 T.z_str (da_cons (dv_of (de_frz 1)) da_nil))))))
theorem ok_is_open (T : Tx P K mg) : FnOk P w K mg base (L2.CX P w) 1 T.f_is_open T.fd_is_open ["row", "date"] (spM K 2 m_is_open) := by
  have Sc := sc_is_open
  refine okM (j := 0) T.F_is_open Sc rfl rfl fun cdv A outer s H E hR tk => ?_
  exact (db_one (ds_ret (df_of (de_and (e_cmp c_le (dv_of (de_ix4 hR.low (dv_of (de_frz 0)) (dv_of de_int))) (dv_of (de_frz 1))) (de_one (de_or (e_cmp c_is (dv_of (de_ix4 hR.low (dv_of (de_frz 0)) (dv_of de_int))) (dv_of de_non)) (de_one (e_cmp c_le (dv_of (de_frz 1)) (dv_of (de_ix4 hR.low (dv_of (de_frz 0)) (dv_of de_int)))))))))))
theorem ok_Allowances_steps (T : Tx P K mg) : FnOk P w K mg base (L2.CX P w) 2 T.f_Allowances_steps T.fd_Allowances_steps ["self", "plain", "date"] (spM K 3 m_Allowances_steps) := by
  have Sc := sc_Allowances_steps
  refine okM (j := 1) T.F_Allowances_steps Sc rfl rfl fun cdv A outer s H E hR tk => ?_
  exact (db_one (ds_ret (df_call (tkc tk) (ok_ascending T) T.g_ascending T.F_ascending.kp T.b_ascending hR (by decide) (da_cons (dv_of (de_fz (df_lc (own := [("row", 3)]) rfl Sc.nd (di_val4 (de_fld (dv_of (de_frz 0)) T.p_Allowances T.na_Allowances_own_rows)) (blkOk_by (by show blkC n_Allowances_steps (defScope s_Allowances_steps) _ _ = true; decide +kernel)) (fun _ _ _ _ _ => (dgv_name 3 Sc.nd)) (fun _ _ _ _ _ => (dts_one (dt_w (dw_and (t_cmp (c_eq hR.low) (dv_of (de_ix4 hR.low (dv_of (de_frz 3)) (dv_of de_int))) (dv_of (de_frz 1))) (dw_and1 (dt_val (de_fz (df_call (tkc tk0) (ok_is_open T) T.g_is_open T.F_is_open.kp T.b_is_open hR (by decide) (da_cons (dv_of (de_frz 3)) (da_cons (dv_of (de_frz 2)) da_nil)) (Len.cons (Len.cons Len.nil)))))))))) (fun _ _ _ _ _ => (de_ix4 hR.low (dv_of (de_frz 3)) (dv_of de_int)))))) da_nil) (Len.cons Len.nil))))
theorem ok_is_integer (T : Tx P K mg) : FnOk P w K mg base (L2.CX P w) 1 T.f_is_integer T.fd_is_integer ["value", "lowest", "highest"] (spM K 3 m_is_integer) := by
  have Sc := sc_is_integer
  refine okM (j := 0) T.F_is_integer Sc rfl rfl fun cdv A outer s H E hR tk => ?_
  exact (db_one (ds_ret (df_of (de_and (de_isi T.z_isinstance (da_cons (dv_of (de_frz 0)) (da_cons (dv_of (de_ty T.z_int rfl)) da_nil))) (de_and (de_not (de_isi T.z_isinstance (da_cons (dv_of (de_frz 0)) (da_cons (dv_of (de_ty T.z_bool rfl)) da_nil)))) (de_one (e_chain c_le c_le (dv_of (de_frz 1)) (dv_of (de_frz 0)) (dv_of (de_frz 2)))))))))
theorem ok_is_date (T : Tx P K mg) : FnOk P w K mg base (L2.CX P w) 2 T.f_is_date T.fd_is_date ["value"] (spM K 1 m_is_date) := by
  have Sc := sc_is_date
  refine okM (j := 1) T.F_is_date Sc rfl rfl fun cdv A outer s H E hR tk => ?_
  exact (db_one (ds_ret (df_call (tkc tk) (ok_is_integer T) T.g_is_integer T.F_is_integer.kp T.b_is_integer hR (by decide) (da_cons (dv_of (de_frz 0)) (da_cons (dv_of de_int) (da_cons (dv_of (de_gint T.k_LAST_DATE)) da_nil))) (Len.cons (Len.cons (Len.cons Len.nil))))))
theorem ok_check_date (T : Tx P K mg) : FnOk P w K mg base (L2.CX P w) 3 T.f_check_date T.fd_check_date ["value"] (spM K 1 m_check_date) := by
  have Sc := sc_check_date
  refine okM (j := 2) T.F_check_date Sc rfl rfl fun cdv A outer s H E hR tk => ?_
  exact (db_one (ds_if (dt_not (dt_val (de_fz (df_call (tkc tk) (ok_is_date T) T.g_is_date T.F_is_date.kp T.b_is_date hR (by decide) (da_cons (dv_of (de_frz 0)) da_nil) (Len.cons Len.nil))))) (db_one (ds_raise rfl tk b_value T.x_BadDate ⟨T.m_BadDate, T.n_BadDate, T.xk_BadDate, T.xb_BadDate, T.xt_BadDate⟩ hR T.z_super (de_frz 0))) db_nil))
theorem ok_Allowances___call__ (T : Tx P K mg) : FnOk P w K mg base (L2.CX P w) 4 T.f_Allowances___call__ T.fd_Allowances___call__ ["self", "plain", "date"] (spM K 3 m_Allowances___call__) := by
  have Sc := sc_Allowances___call__
  refine okM (j := 3) T.F_Allowances___call__ Sc rfl rfl fun cdv A outer s H E hR tk => ?_
  exact (db_cons (ds_do (de_fz (df_call (tkc tk) (ok_check_date T) T.g_check_date T.F_check_date.kp T.b_check_date hR (by decide) (da_cons (dv_of (de_frz 2)) da_nil) (Len.cons Len.nil))))
  (db_cons (ds_setF 3 Sc.nd (df_meth [] (tkc tk) (dv_of (de_frz 0)) T.p_Allowances T.me_Allowances_steps (ok_Allowances_steps T) T.b_Allowances_steps .nil (fun _ => rfl) hR (by decide) (da_cons (dv_of (de_frz 1)) (da_cons (dv_of (de_frz 2)) da_nil)) (fun _ _ _ h => by rw [(Len.cons (Len.cons Len.nil)) _ _ _ h]; rfl)))
  (db_cons (ds_set 4 Sc.nd de_int)
  (db_cons (ds_whileF 64 (passes_of rfl) (dt_w (dw_and (dt_val (de_fld (dv_of (de_frz 0)) T.p_Allowances T.na_Allowances_own_through)) (dw_and1 (t_cmp c_lt (dv_of (de_frz 4)) (dv_of (de_len T.z_len (da_cons (dv_name 3) da_nil))))))) (db_cons (ds_do (de_extend 3 (da_cons (dv_of (de_fz (df_lc (own := [("part", 5)]) rfl Sc.nd (di_val4 (de_fz (df_meth [] (tkc tk) (dv_of (de_frz 0)) T.p_Allowances T.me_Allowances_steps (ok_Allowances_steps T) T.b_Allowances_steps .nil (fun _ => rfl) hR (by decide) (da_cons (dv_of (de_ix4 hR.low (dv_name 3) (dv_of (de_frz 4)))) (da_cons (dv_of (de_frz 2)) da_nil)) (fun _ _ _ h => by rw [(Len.cons (Len.cons Len.nil)) _ _ _ h]; rfl)))) (blkOk_by (by show blkC n_Allowances___call__ (defScope s_Allowances___call__) _ _ = true; decide +kernel)) (fun _ _ _ _ _ => (dgv_name 5 Sc.nd)) (fun _ _ _ _ _ => (dts_one (t_cmp (c_notin4 hR.low) (dv_of (de_frz 5)) (dv_name 3)))) (fun _ _ _ _ _ => (de_frz 5))))) da_nil)))
  (db_one (ds_augAdd 4 Sc.nd de_int))))
  (db_one (ds_ret (df_of (de_tup (da_cons (dv_of (de_frz 1)) (da_star (dv_of (de_fz (df_call (tkc tk) (ok_ascending T) T.g_ascending T.F_ascending.kp T.b_ascending hR (by decide) (da_cons (dv_of (de_fz (df_lc (own := [("part", 5)]) rfl Sc.nd (di_val4 (de_frz 3)) (blkOk_by (by show blkC n_Allowances___call__ (defScope s_Allowances___call__) _ _ = true; decide +kernel)) (fun _ _ _ _ _ => (dgv_name 5 Sc.nd)) (fun _ _ _ _ _ => (dts_one (t_cmp (c_ne hR.low) (dv_of (de_frz 5)) (dv_of (de_frz 1))))) (fun _ _ _ _ _ => (de_frz 5))))) da_nil) (Len.cons Len.nil)))) da_nil))))))))))
theorem ok__law_fits (T : Tx P K mg) : FnOk P w K mg base (L2.CX P w) 1 T.f__law_fits T.fd__law_fits ["_law_book_here", "_law_chain", "_law_plain", "_law_date"] (spM K 4 m__law_fits) := by
  have Sc := sc__law_fits
  refine okM (j := 0) T.F__law_fits Sc rfl rfl fun cdv A outer s H E hR tk => ?_
  exact (db_cons (ds_par2 4 5 rfl Sc.nd (df_lst (da_cons (dv_of (de_frz 2)) da_nil)) (df_of de_int))
  (db_cons (ds_whileF 64 (passes_of rfl) (t_cmp c_lt (dv_of (de_frz 5)) (dv_of (de_len T.z_len (da_cons (dv_name 4) da_nil)))) (db_cons (ds_for (passes_of rfl) rfl (di_val4 (de_frz 0)) (dg_tup rfl (dgs_cons (dg_name 6 Sc.nd) (dgs_cons (dg_name 7 Sc.nd) (dgs_cons (dg_name 8 Sc.nd) (dgs_cons (dg_name 9 Sc.nd) dgs_nil))))) (db_one (ds_if (dt_w (dw_and (t_cmp (c_eq hR.low) (dv_of (de_frz 7)) (dv_of (de_ix4 hR.low (dv_name 4) (dv_of (de_frz 5))))) (dw_and (t_cmp (c_notin4 hR.low) (dv_of (de_frz 6)) (dv_name 4)) (dw_and (t_cmp c_le (dv_of (de_frz 8)) (dv_of (de_frz 3))) (dw_and1 (dt_w (dw_or (t_cmp c_is (dv_of (de_frz 9)) (dv_of de_non)) (dw_or1 (t_cmp c_le (dv_of (de_frz 3)) (dv_of (de_frz 9))))))))))) (db_one (ds_do (de_append 4 (da_cons (dv_of (de_frz 6)) da_nil)))) db_nil)))
  (db_one (ds_set 5 Sc.nd (de_if (dt_val (de_frz 1)) (b_add (dv_of (de_frz 5)) (dv_of de_int)) (de_len T.z_len (da_cons (dv_name 4) da_nil)))))))
  (db_one (ds_ret (df_of (b_add (dv_of (de_fz (df_lst (da_cons (dv_of (de_frz 2)) da_nil)))) (dv_of (de_srt4 T.z_sorted (da_cons (dv_of (de_fz (df_hide 6 (df_lc (own := [("_law_part", 6)]) rfl Sc.nd (di_val4 (de_sl (dv_name 4) (dp_some de_int) dp_none)) (blkOk_by (by show blkC n__law_fits (defScope s__law_fits) _ _ = true; decide +kernel)) (fun _ _ _ _ _ => (dgv_name 6 Sc.nd)) (fun _ _ _ _ _ => dts_nil) (fun _ _ _ _ _ => (de_str1 T.z_str (da_cons (dv_of (de_frz 6)) da_nil))))))) da_nil)))))))))
theorem ok_Allowances_dates (T : Tx P K mg) : FnOk P w K mg base (L2.CX P w) 1 T.f_Allowances_dates T.fd_Allowances_dates ["self"] (spM K 1 m_Allowances_dates) := by
  have Sc := sc_Allowances_dates
  refine okM (j := 0) T.F_Allowances_dates Sc rfl rfl fun cdv A outer s H E hR tk => ?_
  exact (db_cons (ds_setF 1 Sc.nd (df_disp (dpp_cons de_int de_bl dpp_nil)))
  (db_cons (ds_for (passes_of rfl) rfl (di_val4 (de_fld (dv_of (de_frz 0)) T.p_Allowances T.na_Allowances_own_rows)) (dg_name 2 Sc.nd) (db_cons (ds_putA 1 hR.low de_bl (de_ix4 hR.low (dv_of (de_frz 2)) (dv_of de_int)))
  (db_one (ds_if (dt_w (dw_and (t_cmp c_isnot (dv_of (de_ix4 hR.low (dv_of (de_frz 2)) (dv_of de_int))) (dv_of de_non)) (dw_and1 (t_cmp c_lt (dv_of (de_ix4 hR.low (dv_of (de_frz 2)) (dv_of de_int))) (dv_of (de_gint T.k_LAST_DATE)))))) (db_one (ds_putA 1 hR.low de_bl (b_add (dv_of (de_ix4 hR.low (dv_of (de_frz 2)) (dv_of de_int))) (dv_of de_int)))) db_nil))))
  (db_one (ds_ret (df_of (de_srt4 T.z_sorted (da_cons (dv_of (de_fz (df_lc (own := [("date", 3)]) rfl Sc.nd (di_val4 (de_frz 1)) (blkOk_by (by show blkC n_Allowances_dates (defScope s_Allowances_dates) _ _ = true; decide +kernel)) (fun _ _ _ _ _ => (dgv_name 3 Sc.nd)) (fun _ _ _ _ _ => dts_nil) (fun _ _ _ _ _ => (de_int1 T.z_int (da_cons (dv_of (de_frz 3)) da_nil)))))) da_nil)))))))
theorem ok_text_of (T : Tx P K mg) : FnOk P w K mg base (L2.CX P w) 1 T.f_text_of T.fd_text_of ["row"] (spM K 1 m_text_of) := by
  have Sc := sc_text_of
  refine okM (j := 0) T.F_text_of Sc rfl rfl fun cdv A outer s H E hR tk => ?_
  exact (db_cons (ds_set 1 Sc.nd (de_if (t_cmp c_is (dv_of (de_ix4 hR.low (dv_of (de_frz 0)) (dv_of de_int))) (dv_of de_non)) de_str (de_joined1 (dj_fmtI ⟨T.nd⟩ (de_ix4 hR.low (dv_of (de_frz 0)) (dv_of de_int))))))
  (db_one (ds_ret (df_of (de_joined (.cons (dj_fmt (de_ix4 hR.low (dv_of (de_frz 0)) (dv_of de_int))) (.cons dj_txt (.cons (dj_fmt (de_ix4 hR.low (dv_of (de_frz 0)) (dv_of de_int))) (.cons dj_txt (.cons (dj_fmtI ⟨T.nd⟩ (de_ix4 hR.low (dv_of (de_frz 0)) (dv_of de_int))) (.cons dj_txt (.cons (dj_fmt (de_frz 1)) DJs.nil))))))))))))
theorem ok_is_word (T : Tx P K mg) : FnOk P w K mg base (L2.CX P w) 1 T.f_is_word T.fd_is_word ["value"] (spM K 1 m_is_word) := by
  have Sc := sc_is_word
  refine okM (j := 0) T.F_is_word Sc rfl rfl fun cdv A outer s H E hR tk => ?_
  exact (db_cons (ds_if (dt_w (dw_or (dt_not (dt_val (de_isi T.z_isinstance (da_cons (dv_of (de_frz 0)) (da_cons (dv_of (de_ty T.z_str rfl)) da_nil))))) (dw_or1 (dt_not (t_chain c_le c_le (dv_of de_int) (dv_of (de_len T.z_len (da_cons (dv_of (de_frz 0)) da_nil))) (dv_of (de_gint T.k_MOST_LETTERS))))))) (db_one (ds_ret (df_of de_bl))) db_nil)
  (db_one (ds_ret (df_of (de_all rfl T.z_all (da_cons (dv_of (de_fz (df_lc (own := [("sign", 1)]) rfl Sc.nd (di_val4 (de_frz 0)) (blkOk_by (by show blkC n_is_word (defScope s_is_word) _ _ = true; decide +kernel)) (fun _ _ _ _ _ => (dgv_name 1 Sc.nd)) (fun _ _ _ _ _ => dts_nil) (fun _ _ _ _ _ => (e_cmp (c_in4 hR.low) (dv_of (de_frz 1)) (dv_of (de_gstr T.k_LETTERS))))))) da_nil))))))
theorem ok_is_allowance (T : Tx P K mg) : FnOk P w K mg base (L2.CX P w) 3 T.f_is_allowance T.fd_is_allowance ["value"] (spM K 1 m_is_allowance) := by
  have Sc := sc_is_allowance
  refine okM (j := 2) T.F_is_allowance Sc rfl rfl fun cdv A outer s H E hR tk => ?_
  exact (db_cons (ds_if (dt_w (dw_or (dt_not (dt_val (de_isi T.z_isinstance (da_cons (dv_of (de_frz 0)) (da_cons (dv_of (de_ty T.z_tuple rfl)) da_nil))))) (dw_or (t_cmp (c_ne hR.low) (dv_of (de_len T.z_len (da_cons (dv_of (de_frz 0)) da_nil))) (dv_of de_int)) (dw_or (dt_not (dt_val (de_fz (df_call (tkc tk) (ok_is_word T) T.g_is_word T.F_is_word.kp T.b_is_word hR (by decide) (da_cons (dv_of (de_ix4 hR.low (dv_of (de_frz 0)) (dv_of de_int))) da_nil) (Len.cons Len.nil))))) (dw_or1 (dt_not (dt_val (de_fz (df_call (tkc tk) (ok_is_word T) T.g_is_word T.F_is_word.kp T.b_is_word hR (by decide) (da_cons (dv_of (de_ix4 hR.low (dv_of (de_frz 0)) (dv_of de_int))) da_nil) (Len.cons Len.nil)))))))))) (db_one (ds_ret (df_of de_bl))) db_nil)
  (db_cons (ds_if (dt_w (dw_or (t_cmp (c_eq hR.low) (dv_of (de_ix4 hR.low (dv_of (de_frz 0)) (dv_of de_int))) (dv_of (de_ix4 hR.low (dv_of (de_frz 0)) (dv_of de_int)))) (dw_or1 (dt_not (dt_val (de_fz (df_call (tkc tk) (ok_is_date T) T.g_is_date T.F_is_date.kp T.b_is_date hR (by decide) (da_cons (dv_of (de_ix4 hR.low (dv_of (de_frz 0)) (dv_of de_int))) da_nil) (Len.cons Len.nil)))))))) (db_one (ds_ret (df_of de_bl))) db_nil)
  (db_one (ds_ret (df_of (de_or (e_cmp c_is (dv_of (de_ix4 hR.low (dv_of (de_frz 0)) (dv_of de_int))) (dv_of de_non)) (de_one (de_and (de_fz (df_call (tkc tk) (ok_is_date T) T.g_is_date T.F_is_date.kp T.b_is_date hR (by decide) (da_cons (dv_of (de_ix4 hR.low (dv_of (de_frz 0)) (dv_of de_int))) da_nil) (Len.cons Len.nil))) (de_one (e_cmp c_ge (dv_of (de_ix4 hR.low (dv_of (de_frz 0)) (dv_of de_int))) (dv_of (de_ix4 hR.low (dv_of (de_frz 0)) (dv_of de_int)))))))))))))
theorem ok_Allowances___init__ (T : Tx P K mg) : FnOk P w K mg base (L2.CX P w) 4 T.f_Allowances___init__ T.fd_Allowances___init__ ["self", "rows", "through"] (spM K 3 m_Allowances___init__) := by
  have Sc := sc_Allowances___init__
  refine okM (j := 3) T.F_Allowances___init__ Sc rfl rfl fun cdv A outer s H E hR tk => ?_
  exact (db_cons (ds_if (dt_not (dt_val (de_isi T.z_isinstance (da_cons (dv_of (de_frz 1)) (da_cons (dv_of (de_tup (da_cons (dv_of (de_ty T.z_list rfl)) (da_cons (dv_of (de_ty T.z_tuple rfl)) da_nil)))) da_nil))))) (db_one (ds_raise rfl tk b_value T.x_BadAllowance ⟨T.m_BadAllowance, T.n_BadAllowance, T.xk_BadAllowance, T.xb_BadAllowance, T.xt_BadAllowance⟩ hR T.z_super de_non)) db_nil)
  (db_cons (ds_for (passes_of rfl) rfl (di_enum4 T.z_enumerate (da_cons (dv_of (de_frz 1)) da_nil)) (dg_tup rfl (dgs_cons (dg_name 3 Sc.nd) (dgs_cons (dg_name 4 Sc.nd) dgs_nil))) (db_one (ds_if (dt_w (dw_or (dt_not (dt_val (de_fz (df_call (tkc tk) (ok_is_allowance T) T.g_is_allowance T.F_is_allowance.kp T.b_is_allowance hR (by decide) (da_cons (dv_of (de_frz 4)) da_nil) (Len.cons Len.nil))))) (dw_or1 (t_cmp (c_in4 hR.low) (dv_of (de_frz 4)) (dv_of (de_sl (dv_of (de_frz 1)) dp_none (dp_some (de_frz 3)))))))) (db_one (ds_raise rfl tk b_value T.x_BadAllowance ⟨T.m_BadAllowance, T.n_BadAllowance, T.xk_BadAllowance, T.xb_BadAllowance, T.xt_BadAllowance⟩ hR T.z_super (de_frz 3))) db_nil)))
  (db_cons (ds_if (t_cmp c_gt (dv_of (de_len T.z_len (da_cons (dv_of (de_frz 1)) da_nil))) (dv_of (de_gint T.k_MOST_ALLOWANCES))) (db_one (ds_raise rfl tk b_overflow T.x_TooMany ⟨T.m_TooMany, T.n_TooMany, T.xk_TooMany, T.xb_TooMany, T.xt_TooMany⟩ hR T.z_super (de_gint T.k_MOST_ALLOWANCES))) db_nil)
  (db_cons (ds_setF 5 Sc.nd (df_hide 4 (df_dc (own := [("row", 4)]) rfl Sc.nd (di_val4 (de_frz 1)) (blkOk_by (by show blkC n_Allowances___init__ (defScope s_Allowances___init__) _ _ = true; decide +kernel)) (fun _ _ _ _ _ => (dgv_name 4 Sc.nd)) (fun _ _ _ _ _ => dts_nil) (fun _ _ _ _ _ => (de_fz (df_call (tkc tk0) (ok_text_of T) T.g_text_of T.F_text_of.kp T.b_text_of hR (by decide) (da_cons (dv_of (de_frz 4)) da_nil) (Len.cons Len.nil)))) (fun _ _ _ _ _ => (de_frz 4)))))
  (db_cons (ds_putF 0 (de_fz (df_lc (own := [("text", 6)]) rfl Sc.nd (di_val4 (de_srt4 T.z_sorted (da_cons (dv_of (de_fz (df_lc (own := [("text", 6)]) rfl Sc.nd (di_val4 (de_frz 5)) (blkOk_by (by show blkC n_Allowances___init__ (defScope s_Allowances___init__) _ _ = true; decide +kernel)) (fun _ _ _ _ _ => (dgv_name 6 Sc.nd)) (fun _ _ _ _ _ => dts_nil) (fun _ _ _ _ _ => (de_str1 T.z_str (da_cons (dv_of (de_frz 6)) da_nil)))))) da_nil))) (blkOk_by (by show blkC n_Allowances___init__ (defScope s_Allowances___init__) _ _ = true; decide +kernel)) (fun _ _ _ _ _ => (dgv_name 6 Sc.nd)) (fun _ _ _ _ _ => dts_nil) (fun _ _ _ _ _ => (de_ix4 hR.low (dv_of (de_frz 5)) (dv_of (de_frz 6)))))) T.p_Allowances T.na_Allowances_own_rows)
  (db_one (ds_putF 0 (de_bool1 T.z_bool (da_cons (dv_of (de_frz 2)) da_nil)) T.p_Allowances T.na_Allowances_own_through)))))))
theorem ok__law_draw (T : Tx P K mg) : FnOk P w K mg base (L2.CX P w) 1 T.f__law_draw T.fd__law_draw ["_law_pool_here", "_law_many"] (spM K 2 m__law_draw) := by
  have Sc := sc__law_draw
  refine okM (j := 0) T.F__law_draw Sc rfl rfl fun cdv A outer s H E hR tk => ?_
  exact (db_cons (ds_if (t_cmp c_gt (dv_of (de_ix4 hR.low (dv_name 0) (dv_of de_int))) (dv_of de_int)) (db_cons (ds_set 2 Sc.nd (b_mod (dv_of (de_int1 T.z_int (da_cons (dv_of (de_ix4 hR.low (dv_name 0) (dv_of de_int))) da_nil))) (dv_of (de_frz 1))))
  (db_cons (ds_putA 0 hR.low (b_fdiv (dv_of (de_ix4 hR.low (dv_name 0) (dv_of de_int))) (dv_of (de_frz 1))) de_int)
  (db_one (ds_ret (df_out 2))))) db_nil)
  (db_cons (ds_putA 0 hR.low (b_mod (dv_of (de_int1 T.z_int (da_cons (dv_of (b_add (dv_of (b_mul (dv_of (de_ix4 hR.low (dv_name 0) (dv_of de_int))) (dv_of de_int))) (dv_of de_int))) da_nil))) (dv_of de_int)) de_int)
  (db_one (ds_ret (df_of (b_mod (dv_of (de_int1 T.z_int (da_cons (dv_of (b_fdiv (dv_of (b_mod (dv_of (de_int1 T.z_int (da_cons (dv_of (b_mul (dv_of (de_ix4 hR.low (dv_name 0) (dv_of de_int))) (dv_of (de_ix4 hR.low (dv_name 0) (dv_of de_int))))) da_nil))) (dv_of de_int))) (dv_of de_int))) da_nil))) (dv_of (de_frz 1))))))))
theorem ok__law_pick (T : Tx P K mg) : FnOk P w K mg base (L2.CX P w) 2 T.f__law_pick T.fd__law_pick ["_law_pool_here", "_law_row"] (spM K 2 m__law_pick) := by
  have Sc := sc__law_pick
  refine okM (j := 1) T.F__law_pick Sc rfl rfl fun cdv A outer s H E hR tk => ?_
  exact (db_one (ds_ret (df_of (de_ix4 hR.low (dv_of (de_frz 1)) (dv_of (de_fz (df_call (tkc tk) (ok__law_draw T) T.g__law_draw T.F__law_draw.kp T.b__law_draw hR (by decide) (da_cons (dv_name 0) (da_cons (dv_of (de_len T.z_len (da_cons (dv_of (de_frz 1)) da_nil))) da_nil)) (Len.cons (Len.cons Len.nil)))))))))
theorem ok__law_book (T : Tx P K mg) : FnOk P w K mg base (L2.CX P w) 3 T.f__law_book T.fd__law_book ["_law_pool_here", "_law_parts_here", "_law_many"] (spM K 3 m__law_book) := by
  have Sc := sc__law_book
  refine okM (j := 2) T.F__law_book Sc rfl rfl fun cdv A outer s H E hR tk => ?_
  exact (db_cons (ds_setF 3 Sc.nd (df_lst da_nil))
  (db_cons (ds_for (passes_of rfl) rfl (di_range1 T.z_range (da_cons (dv_of (de_frz 2)) da_nil)) (dg_name 4 Sc.nd) (db_cons (ds_par3 5 6 7 rfl Sc.nd (de_fz (df_call (tkc tk) (ok__law_pick T) T.g__law_pick T.F__law_pick.kp T.b__law_pick hR (by decide) (da_cons (dv_name 0) (da_cons (dv_of (de_frz 1)) da_nil)) (Len.cons (Len.cons Len.nil)))) (de_fz (df_call (tkc tk) (ok__law_pick T) T.g__law_pick T.F__law_pick.kp T.b__law_pick hR (by decide) (da_cons (dv_name 0) (da_cons (dv_of (de_frz 1)) da_nil)) (Len.cons (Len.cons Len.nil)))) (de_fz (df_call (tkc tk) (ok__law_draw T) T.g__law_draw T.F__law_draw.kp T.b__law_draw hR (by decide) (da_cons (dv_name 0) (da_cons (dv_of de_int) da_nil)) (Len.cons (Len.cons Len.nil)))))
  (db_cons (ds_set 8 Sc.nd (de_tup (da_cons (dv_of (de_frz 5)) (da_cons (dv_of (de_frz 6)) (da_cons (dv_of (de_frz 7)) (da_cons (dv_of (de_fz (df_call (tkc tk) (ok__law_pick T) T.g__law_pick T.F__law_pick.kp T.b__law_pick hR (by decide) (da_cons (dv_name 0) (da_cons (dv_of (de_fz (df_lst (da_cons (dv_of de_non) (da_cons (dv_of de_non) (da_cons (dv_of (de_frz 7)) (da_cons (dv_of (b_add (dv_of (de_frz 7)) (dv_of de_int))) (da_cons (dv_of de_int) da_nil)))))))) da_nil)) (Len.cons (Len.cons Len.nil))))) da_nil))))))
  (db_one (ds_if (dt_w (dw_and (t_cmp (c_ne hR.low) (dv_of (de_frz 5)) (dv_of (de_frz 6))) (dw_and1 (t_cmp (c_notin4 hR.low) (dv_of (de_frz 8)) (dv_name 3))))) (db_one (ds_do (de_append 3 (da_cons (dv_of (de_frz 8)) da_nil)))) db_nil)))))
  (db_one (ds_ret (df_out 3)))))
theorem ok__law_parts (T : Tx P K mg) : FnOk P w K mg base (L2.CX P w) 3 T.f__law_parts T.fd__law_parts ["_law_pool_here", "_law_many"] (spM K 2 m__law_parts) := by
  have Sc := sc__law_parts
  refine okM (j := 2) T.F__law_parts Sc rfl rfl fun cdv A outer s H E hR tk => ?_
  exact (db_cons (ds_set 2 Sc.nd de_str)
  (db_cons (ds_to (de_tup (da_cons (dv_of (de_fz (df_call (tkc tk) (ok__law_draw T) T.g__law_draw T.F__law_draw.kp T.b__law_draw hR (by decide) (da_cons (dv_name 0) (da_cons (dv_of de_int) da_nil)) (Len.cons (Len.cons Len.nil))))) (da_cons (dv_of (b_add (dv_of de_int) (dv_of (b_mul (dv_of de_int) (dv_of (de_fz (df_call (tkc tk) (ok__law_draw T) T.g__law_draw T.F__law_draw.kp T.b__law_draw hR (by decide) (da_cons (dv_name 0) (da_cons (dv_of de_int) da_nil)) (Len.cons (Len.cons Len.nil))))))))) (da_cons (dv_of (de_fz (df_call (tkc tk) (ok__law_pick T) T.g__law_pick T.F__law_pick.kp T.b__law_pick hR (by decide) (da_cons (dv_name 0) (da_cons (dv_of (de_fz (df_lst (da_cons (dv_of de_str) (da_cons (dv_of de_str) (da_cons (dv_of de_str) (da_cons (dv_of de_str) da_nil))))))) da_nil)) (Len.cons (Len.cons Len.nil))))) da_nil)))) (dg_tup rfl (dgs_cons (dg_name 3 Sc.nd) (dgs_cons (dg_name 4 Sc.nd) (dgs_cons (dg_name 5 Sc.nd) dgs_nil)))))
  (db_one (ds_ret (df_lc (own := [("_law_k", 6)]) rfl Sc.nd (di_range1 T.z_range (da_cons (dv_of (de_frz 1)) da_nil)) (blkOk_by (by show blkC n__law_parts (defScope s__law_parts) _ _ = true; decide +kernel)) (fun _ _ _ _ _ => (dgv_name 6 Sc.nd)) (fun _ _ _ _ _ => dts_nil) (fun _ _ _ _ _ => (b_add (dv_of (de_ix4 hR.low (dv_of (de_frz 2)) (dv_of (b_mod (dv_of (de_int1 T.z_int (da_cons (dv_of (b_add (dv_of (de_frz 3)) (dv_of (b_mul (dv_of (de_frz 4)) (dv_of (de_frz 6)))))) da_nil))) (dv_of de_int))))) (dv_of (de_frz 5)))))))))
theorem ok__law_pool (T : Tx P K mg) : FnOk P w K mg base (L2.CX P w) 1 T.f__law_pool T.fd__law_pool ["_law_script", "_law_k"] (spM K 2 m__law_pool) := by
  have Sc := sc__law_pool
  refine okM (j := 0) T.F__law_pool Sc rfl rfl fun cdv A outer s H E hR tk => ?_
  exact (db_cons (ds_set 2 Sc.nd (de_if (t_cmp c_lt (dv_of (de_frz 1)) (dv_of (de_len T.z_len (da_cons (dv_of (de_frz 0)) da_nil)))) (de_ix4 hR.low (dv_of (de_frz 0)) (dv_of (de_frz 1))) (b_add (dv_of (b_mul (dv_of de_int) (dv_of (de_sum rfl T.z_sum (da_cons (dv_of (de_sl (dv_of (de_frz 0)) dp_none (dp_some de_int))) da_nil))))) (dv_of (de_frz 1)))))
  (db_cons (ds_set 3 Sc.nd (de_abs T.z_abs (da_cons (dv_of (de_frz 2)) da_nil)))
  (db_cons (ds_set 4 Sc.nd (b_add (dv_of (b_add (dv_of (b_add (dv_of (b_mod (dv_of (de_int1 T.z_int (da_cons (dv_of (de_frz 3)) da_nil))) (dv_of de_int))) (dv_of (b_mul (dv_of (b_mul (dv_of de_int) (dv_of (de_frz 1)))) (dv_of (de_frz 1)))))) (dv_of (b_mul (dv_of de_int) (dv_of (de_frz 1)))))) (dv_of de_int)))
  (db_cons (ds_set 4 Sc.nd (b_mod (dv_of (de_int1 T.z_int (da_cons (dv_of (b_mul (dv_of (de_frz 4)) (dv_of de_int))) da_nil))) (dv_of de_int)))
  (db_one (ds_ret (df_lst (da_cons (dv_of (b_mul (dv_of (de_frz 3)) (dv_of (de_int1 T.z_int (da_cons (dv_of (e_cmp c_ge (dv_of (de_frz 3)) (dv_of (b_pow (dv_of de_int) (dv_of de_int))))) da_nil))))) (da_cons (dv_of (b_mod (dv_of (de_int1 T.z_int (da_cons (dv_of (b_mul (dv_of (de_frz 4)) (dv_of (de_frz 4)))) da_nil))) (dv_of de_int))) da_nil)))))))))
theorem ok_law (T : Tx P K mg) : FnOk P w K mg base (L2.CX P w) 6 T.f_law T.fd_law ["_law_script"] (spM K 1 m_law) := by
  have Sc := sc_law
  refine okM (j := 5) T.F_law Sc rfl rfl fun cdv A outer s H E hR tk => ?_
  exact (db_cons (ds_for (passes_of rfl) rfl (di_range1 T.z_range (da_cons (dv_of (de_max2 rfl T.z_max (da_cons (dv_of de_int) (da_cons (dv_of (de_min2 rfl T.z_min (da_cons (dv_of (de_len T.z_len (da_cons (dv_of (de_frz 0)) da_nil))) (da_cons (dv_of de_int) da_nil)))) da_nil)))) da_nil)) (dg_name 1 Sc.nd) (db_cons (ds_setF 2 Sc.nd (df_call (tkc tk) (ok__law_pool T) T.g__law_pool T.F__law_pool.kp T.b__law_pool hR (by decide) (da_cons (dv_of (de_frz 0)) (da_cons (dv_of (de_frz 1)) da_nil)) (Len.cons (Len.cons Len.nil))))
  (db_cons (ds_setF 3 Sc.nd (df_call (tkc tk) (ok__law_parts T) T.g__law_parts T.F__law_parts.kp T.b__law_parts hR (by decide) (da_cons (dv_name 2) (da_cons (dv_of de_int) da_nil)) (Len.cons (Len.cons Len.nil))))
  (db_cons (ds_setF 4 Sc.nd (df_call (tkc tk) (ok__law_book T) T.g__law_book T.F__law_book.kp T.b__law_book hR (by decide) (da_cons (dv_name 2) (da_cons (dv_of (de_frz 3)) (da_cons (dv_of (de_fz (df_call (tkc tk) (ok__law_draw T) T.g__law_draw T.F__law_draw.kp T.b__law_draw hR (by decide) (da_cons (dv_name 2) (da_cons (dv_of de_int) da_nil)) (Len.cons (Len.cons Len.nil))))) da_nil))) (Len.cons (Len.cons (Len.cons Len.nil)))))
  (db_one (ds_for (passes_of rfl) rfl (di_val4 (de_fz (df_lst (da_cons (dv_of de_bl) (da_cons (dv_of de_bl) da_nil))))) (dg_name 5 Sc.nd) (db_cons (ds_setF 6 Sc.nd (df_makeK (ks := ["through"]) (gV := fun vs ws => vs ++ ws) (tkc tk) T.mk_Allowances (ok_Allowances___init__ T) T.kb_Allowances___init___2_through.choose_spec.choose_spec gok_app hR (by decide) (da_cons (dv_of (de_frz 4)) da_nil) (dk_cons (dv_of (de_frz 5)) dk_nil) (fun as zs h1 h2 => by show (as ++ zs).length + 1 = 3; rw [List.length_append, h1, h2]; rfl)))
  (db_cons (ds_setF 7 Sc.nd (df_meth0 [] (tkc tk) (dv_of (de_frz 6)) T.p_Allowances T.me_Allowances_dates (ok_Allowances_dates T) T.b_Allowances_dates .nil (fun _ => rfl) hR (by decide) rfl))
  (db_cons (ds_for (passes_of rfl) rfl (di_val4 (de_fz (df_lst (da_cons (dv_of de_int) (da_cons (dv_of de_int) (da_cons (dv_of de_int) (da_cons (dv_of de_int) (da_cons (dv_of de_int) (da_cons (dv_of de_int) (da_cons (dv_of de_int) (da_cons (dv_of de_int) (da_cons (dv_of de_int) (da_cons (dv_of de_int) da_nil))))))))))))) (dg_name 8 Sc.nd) (db_cons (ds_set 9 Sc.nd (de_ix4 hR.low (dv_of (de_fz (df_lc (own := [("_law_one", 12)]) rfl Sc.nd (di_val4 (de_frz 7)) (blkOk_by (by show blkC n_law (defScope s_law) _ _ = true; decide +kernel)) (fun _ _ _ _ _ => (dgv_name 12 Sc.nd)) (fun _ _ _ _ _ => (dts_one (t_cmp c_le (dv_of (de_frz 12)) (dv_of (de_frz 8))))) (fun _ _ _ _ _ => (de_frz 12))))) (dv_of (de_neg de_int))))
  (db_one (ds_for (passes_of rfl) rfl (di_val4 (b_add (dv_of (de_frz 3)) (dv_of (de_fz (df_lst (da_cons (dv_of de_str) da_nil)))))) (dg_name 10 Sc.nd) (db_cons (ds_set 11 Sc.nd (de_tupleOf T.z_tuple (da_cons (dv_of (de_fz (df_call (tkc tk) (ok__law_fits T) T.g__law_fits T.F__law_fits.kp T.b__law_fits hR (by decide) (da_cons (dv_of (de_frz 4)) (da_cons (dv_of (de_frz 5)) (da_cons (dv_of (de_frz 10)) (da_cons (dv_of (de_frz 8)) da_nil)))) (Len.cons (Len.cons (Len.cons (Len.cons Len.nil))))))) da_nil)))
  (db_one (ds_if (dt_w (dw_or (t_cmp (c_ne hR.low) (dv_of (de_fz (df_callI (tkc tk) T.n_Allowances T.ci_Allowances (ok_Allowances___call__ T) T.b_Allowances___call__ hR (by decide) (dv_of (de_frz 6)) (da_cons (dv_of (de_frz 10)) (da_cons (dv_of (de_frz 8)) da_nil))))) (dv_of (de_frz 11))) (dw_or1 (t_cmp (c_ne hR.low) (dv_of (de_fz (df_callI (tkc tk) T.n_Allowances T.ci_Allowances (ok_Allowances___call__ T) T.b_Allowances___call__ hR (by decide) (dv_of (de_frz 6)) (da_cons (dv_of (de_frz 10)) (da_cons (dv_of (de_frz 9)) da_nil))))) (dv_of (de_frz 11)))))) (db_one (ds_ret (df_of de_bl))) db_nil)))))))
  (db_cons (ds_set 11 Sc.nd (b_add (dv_of (b_add (dv_of (de_fz (df_lst (da_cons (dv_of de_int) da_nil)))) (dv_of (de_fz (df_lc (own := [("_law_row", 13)]) rfl Sc.nd (di_val4 (de_frz 4)) (blkOk_by (by show blkC n_law (defScope s_law) _ _ = true; decide +kernel)) (fun _ _ _ _ _ => (dgv_name 13 Sc.nd)) (fun _ _ _ _ _ => dts_nil) (fun _ _ _ _ _ => (de_ix4 hR.low (dv_of (de_frz 13)) (dv_of de_int)))))))) (dv_of (de_fz (df_lc (own := [("_law_row", 13)]) rfl Sc.nd (di_val4 (de_frz 4)) (blkOk_by (by show blkC n_law (defScope s_law) _ _ = true; decide +kernel)) (fun _ _ _ _ _ => (dgv_name 13 Sc.nd)) (fun _ _ _ _ _ => (dts_one (t_cmp c_isnot (dv_of (de_ix4 hR.low (dv_of (de_frz 13)) (dv_of de_int))) (dv_of de_non)))) (fun _ _ _ _ _ => (b_add (dv_of (de_ix4 hR.low (dv_of (de_frz 13)) (dv_of de_int))) (dv_of de_int))))))))
  (db_cons (ds_setF 11 Sc.nd (df_dictOf rfl T.z_dict (da_cons (dv_of (de_fz (df_hide 8 (df_lc (own := [("_law_date", 8)]) rfl Sc.nd (di_val4 (de_frz 11)) (blkOk_by (by show blkC n_law (defScope s_law) _ _ = true; decide +kernel)) (fun _ _ _ _ _ => (dgv_name 8 Sc.nd)) (fun _ _ _ _ _ => (dts_one (t_cmp c_lt (dv_of (de_frz 8)) (dv_of de_int)))) (fun _ _ _ _ _ => (de_tup (da_cons (dv_of (de_frz 8)) (da_cons (dv_of de_int) da_nil)))))))) da_nil)))
  (db_one (ds_if (t_cmp (c_ne hR.low) (dv_of (de_frz 7)) (dv_of (de_srt4 T.z_sorted (da_cons (dv_of (de_fz (df_hide 8 (df_lc (own := [("_law_date", 8)]) rfl Sc.nd (di_val4 (de_frz 11)) (blkOk_by (by show blkC n_law (defScope s_law) _ _ = true; decide +kernel)) (fun _ _ _ _ _ => (dgv_name 8 Sc.nd)) (fun _ _ _ _ _ => dts_nil) (fun _ _ _ _ _ => (de_int1 T.z_int (da_cons (dv_of (de_frz 8)) da_nil))))))) da_nil)))) (db_one (ds_ret (df_of de_bl))) db_nil)))))))))))))
  (db_one (ds_ret (df_of de_bl))))
end
theorem all_mk {l : PySem.W.OpenLaw} {w : World} {P : Program} {K : PySem.W.Frag} {h : Heap} {mg : Str → Option Value} {FA_ : Addr} (hP : l.prog = P) (X : K.In h) (G : h.Ns mainGlobals mg) (hfa : mg "law" = some (.ref FA_))
    {f1 : Addr}
    (h2 : PySem.W.nsIn K mainGlobals "law" = some (some (.ref f1)))
    {oc3 : Value} {od4 : Option Addr} {an5 : Option Addr} {sl6 : Array (Option Value)} {dc7 : Value} {pm8 : Value} {cd9 : Value} {ct10 : Value} {kV11 : Value}
    (h12 : K.lookup f1 = some ⟨oc3, od4, .func (PySem.W.fnOf "law" "law" (defArgs s_law) (defBody s_law) (defScope s_law) .none kV11 dc7 pm8 an5 cd9 ct10), sl6⟩)
    (h13 : PySem.W.codeIn K cd9 "law" = true)
    (h14 : PySem.W.keepIn K (.ref f1) = true)
    (h15 : PySem.W.nsIn K mainGlobals "max" = some none)
    (h16 : PySem.W.nsIn K mainGlobals "min" = some none)
    (h17 : PySem.W.nsIn K mainGlobals "len" = some none)
    (h18 : PySem.W.nsIn K mainGlobals "range" = some none)
    (h19 : PySem.W.nsIn K mainGlobals "sorted" = some none)
    (h20 : PySem.W.nsIn K mainGlobals "int" = some none)
    (h21 : PySem.W.nsIn K mainGlobals "dict" = some none)
    {a22 : Addr}
    (h23 : PySem.W.nsIn K mainGlobals "Allowances" = some (some (.ref a22)))
    {f24 : Addr}
    (h25 : PySem.W.findIn K (.ref a22) "__call__" = some (some (.ref f24)))
    {oc26 : Value} {od27 : Option Addr} {an28 : Option Addr} {sl29 : Array (Option Value)} {dc30 : Value} {pm31 : Value} {cd32 : Value} {ct33 : Value} {kV34 : Value}
    (h35 : K.lookup f24 = some ⟨oc26, od27, .func (PySem.W.fnOf "__call__" "Allowances.__call__" (defArgs s_Allowances___call__) (defBody s_Allowances___call__) (defScope s_Allowances___call__) .none kV34 dc30 pm31 an28 cd32 ct33), sl29⟩)
    (h36 : PySem.W.codeIn K cd32 "Allowances.__call__" = true)
    (h37 : PySem.W.keepIn K (.ref f24) = true)
    (h38 : PySem.W.isFn K (.ref f24) = true)
    {f39 : Addr}
    (h40 : PySem.W.nsIn K mainGlobals "ascending" = some (some (.ref f39)))
    {oc41 : Value} {od42 : Option Addr} {an43 : Option Addr} {sl44 : Array (Option Value)} {dc45 : Value} {pm46 : Value} {cd47 : Value} {ct48 : Value} {kV49 : Value}
    (h50 : K.lookup f39 = some ⟨oc41, od42, .func (PySem.W.fnOf "ascending" "ascending" (defArgs s_ascending) (defBody s_ascending) (defScope s_ascending) .none kV49 dc45 pm46 an43 cd47 ct48), sl44⟩)
    (h51 : PySem.W.codeIn K cd47 "ascending" = true)
    (h52 : PySem.W.keepIn K (.ref f39) = true)
    (h53 : PySem.W.nsIn K mainGlobals "str" = some none)
    (h54 : PySem.W.plainGet K a22 Str.empty = true)
    (h55 : PySem.W.hasDictIn K a22 = true)
    (h56 : PySem.W.plainOver K a22 = true)
    (h57 : PySem.W.findIn K (.ref a22) "__setattr__" = some (some (.builtin "object.__setattr__")))
    (h58 : PySem.W.findIn K (.ref a22) "own_through" = some none)
    {f59 : Addr}
    (h60 : PySem.W.findIn K (.ref a22) "steps" = some (some (.ref f59)))
    {oc61 : Value} {od62 : Option Addr} {an63 : Option Addr} {sl64 : Array (Option Value)} {dc65 : Value} {pm66 : Value} {cd67 : Value} {ct68 : Value} {kV69 : Value}
    (h70 : K.lookup f59 = some ⟨oc61, od62, .func (PySem.W.fnOf "steps" "Allowances.steps" (defArgs s_Allowances_steps) (defBody s_Allowances_steps) (defScope s_Allowances_steps) .none kV69 dc65 pm66 an63 cd67 ct68), sl64⟩)
    (h71 : PySem.W.codeIn K cd67 "Allowances.steps" = true)
    (h72 : PySem.W.keepIn K (.ref f59) = true)
    (h73 : PySem.W.isFn K (.ref f59) = true)
    (h74 : PySem.W.findIn K (.ref a22) "own_rows" = some none)
    {f75 : Addr}
    (h76 : PySem.W.nsIn K mainGlobals "is_open" = some (some (.ref f75)))
    {oc77 : Value} {od78 : Option Addr} {an79 : Option Addr} {sl80 : Array (Option Value)} {dc81 : Value} {pm82 : Value} {cd83 : Value} {ct84 : Value} {kV85 : Value}
    (h86 : K.lookup f75 = some ⟨oc77, od78, .func (PySem.W.fnOf "is_open" "is_open" (defArgs s_is_open) (defBody s_is_open) (defScope s_is_open) .none kV85 dc81 pm82 an79 cd83 ct84), sl80⟩)
    (h87 : PySem.W.codeIn K cd83 "is_open" = true)
    (h88 : PySem.W.keepIn K (.ref f75) = true)
    {f89 : Addr}
    (h90 : PySem.W.nsIn K mainGlobals "check_date" = some (some (.ref f89)))
    {oc91 : Value} {od92 : Option Addr} {an93 : Option Addr} {sl94 : Array (Option Value)} {dc95 : Value} {pm96 : Value} {cd97 : Value} {ct98 : Value} {kV99 : Value}
    (h100 : K.lookup f89 = some ⟨oc91, od92, .func (PySem.W.fnOf "check_date" "check_date" (defArgs s_check_date) (defBody s_check_date) (defScope s_check_date) .none kV99 dc95 pm96 an93 cd97 ct98), sl94⟩)
    (h101 : PySem.W.codeIn K cd97 "check_date" = true)
    (h102 : PySem.W.keepIn K (.ref f89) = true)
    {f103 : Addr}
    (h104 : PySem.W.nsIn K mainGlobals "is_date" = some (some (.ref f103)))
    {oc105 : Value} {od106 : Option Addr} {an107 : Option Addr} {sl108 : Array (Option Value)} {dc109 : Value} {pm110 : Value} {cd111 : Value} {ct112 : Value} {kV113 : Value}
    (h114 : K.lookup f103 = some ⟨oc105, od106, .func (PySem.W.fnOf "is_date" "is_date" (defArgs s_is_date) (defBody s_is_date) (defScope s_is_date) .none kV113 dc109 pm110 an107 cd111 ct112), sl108⟩)
    (h115 : PySem.W.codeIn K cd111 "is_date" = true)
    (h116 : PySem.W.keepIn K (.ref f103) = true)
    {f117 : Addr}
    (h118 : PySem.W.nsIn K mainGlobals "is_integer" = some (some (.ref f117)))
    {oc119 : Value} {od120 : Option Addr} {an121 : Option Addr} {sl122 : Array (Option Value)} {dc123 : Value} {pm124 : Value} {cd125 : Value} {ct126 : Value} {kV127 : Value}
    (h128 : K.lookup f117 = some ⟨oc119, od120, .func (PySem.W.fnOf "is_integer" "is_integer" (defArgs s_is_integer) (defBody s_is_integer) (defScope s_is_integer) .none kV127 dc123 pm124 an121 cd125 ct126), sl122⟩)
    (h129 : PySem.W.codeIn K cd125 "is_integer" = true)
    (h130 : PySem.W.keepIn K (.ref f117) = true)
    (h131 : PySem.W.nsIn K mainGlobals "isinstance" = some none)
    (h132 : PySem.W.nsIn K mainGlobals "bool" = some none)
    {t133 : Tok}
    (h134 : PySem.W.nsIn K mainGlobals "LAST_DATE" = some (some (.int 9999 t133)))
    {a135 : Addr}
    (h136 : PySem.W.nsIn K mainGlobals "BadDate" = some (some (.ref a135)))
    (h137 : PySem.W.nsIn K mainGlobals "super" = some none)
    {fI138 : Addr} {oc139 : Value} {od140 : Option Addr} {osl141 : Array (Option Value)} {kV142 : Value} {dc143 : Value} {pm144 : Value} {an145 : Option Addr} {ct146 : Value} {cda147 : Addr} {cc148 : Addr} {ccl149 : Value} {cdd150 : Option Addr} {vs151 : Array Value} {ccs152 : Array (Option Value)} {file153 : Str} {tf154 : Tok} {cl155 : Value} {cld156 : Option Addr} {csl157 : Array (Option Value)} {cd158 : ClassData}
    (h159 : PySem.W.findIn K (.ref a135) "__init__" = some (some (.ref fI138)))
    (h160 : K.lookup fI138 = some ⟨oc139, od140, .func (PySem.W.ksFn "__init__" "BadDate.__init__" (defArgs sx_BadDate) (defBody sx_BadDate) (defScope sx_BadDate) .none kV142 dc143 pm144 an145 (.ref cda147) ct146 cc148), osl141⟩)
    (h161 : K.lookup cda147 = some ⟨ccl149, cdd150, .fields vs151, ccs152⟩)
    (h162 : PySem.W.codeIn K (.ref cda147) "BadDate.__init__" = true)
    (h163 : vs151[2]? = some (.str file153 tf154))
    (h164 : ((P.main.file : Str) == file153) = true)
    (h165 : K.lookup cc148 = some ⟨cl155, cld156, .cell (some (.ref a135)), csl157⟩)
    (h166 : (P.main.scope.names.lookup ("super" : Str)).isSome = false)
    (h167 : PySem.W.clsIn K a135 = some cd158)
    (h168 : PySem.W.mroIn K a135 (.ref a135) = some true)
    (h169 : PySem.W.nsIn K PySem.cStatics "thirdparty.any" = some none)
    (h170 : PySem.W.ks_superIn K a135 a135 "__init__" = some (some (.builtin "ValueError.__init__")))
    (h171 : PySem.W.subIn K (.ref a135) (.type "ValueError") = some true)
    (h172 : PySem.W.isFn K (.ref fI138) = true)
    (h173 : PySem.W.excInitIn K a135 [.type "ValueError", .type "Exception", .type "BaseException", .type "object"] "ValueError.__new__" = true)
    (h174 : PySem.W.findIn K (.ref a135) "__setattr__" = some (some (.builtin "object.__setattr__")))
    (h175 : PySem.W.excOver K a135 [.type "ValueError", .type "Exception", .type "BaseException", .type "object"] = true)
    (h176 : PySem.W.takerIn K a135 "date" = some none)
    (h177 : PySem.W.hasDictIn K a135 = true)
    (h178 : PySem.W.keepIn K (.ref a135) = true)
    (h179 : PySem.W.subIn K (.ref a135) (.type "BaseException") = some true)
    (h180 : PySem.W.typeIn K (.ref a135) = some (.type "type"))
    (h181 : PySem.W.fnIn K f24 = true)
    (h182 : PySem.W.nsIn K mainGlobals "tuple" = some none)
    {f183 : Addr}
    (h184 : PySem.W.nsIn K mainGlobals "_law_fits" = some (some (.ref f183)))
    {oc185 : Value} {od186 : Option Addr} {an187 : Option Addr} {sl188 : Array (Option Value)} {dc189 : Value} {pm190 : Value} {cd191 : Value} {ct192 : Value} {kV193 : Value}
    (h194 : K.lookup f183 = some ⟨oc185, od186, .func (PySem.W.fnOf "_law_fits" "_law_fits" (defArgs s__law_fits) (defBody s__law_fits) (defScope s__law_fits) .none kV193 dc189 pm190 an187 cd191 ct192), sl188⟩)
    (h195 : PySem.W.codeIn K cd191 "_law_fits" = true)
    (h196 : PySem.W.keepIn K (.ref f183) = true)
    {f197 : Addr}
    (h198 : PySem.W.findIn K (.ref a22) "dates" = some (some (.ref f197)))
    {oc199 : Value} {od200 : Option Addr} {an201 : Option Addr} {sl202 : Array (Option Value)} {dc203 : Value} {pm204 : Value} {cd205 : Value} {ct206 : Value} {kV207 : Value}
    (h208 : K.lookup f197 = some ⟨oc199, od200, .func (PySem.W.fnOf "dates" "Allowances.dates" (defArgs s_Allowances_dates) (defBody s_Allowances_dates) (defScope s_Allowances_dates) .none kV207 dc203 pm204 an201 cd205 ct206), sl202⟩)
    (h209 : PySem.W.codeIn K cd205 "Allowances.dates" = true)
    (h210 : PySem.W.keepIn K (.ref f197) = true)
    (h211 : PySem.W.isFn K (.ref f197) = true)
    {f212 : Addr}
    (h213 : PySem.W.findIn K (.ref a22) "__init__" = some (some (.ref f212)))
    {oc214 : Value} {od215 : Option Addr} {an216 : Option Addr} {sl217 : Array (Option Value)} {dc218 : Value} {pm219 : Value} {cd220 : Value} {ct221 : Value} {dT222 : Addr} {dK223 : Addr}
    (h224 : K.lookup f212 = some ⟨oc214, od215, .func (PySem.W.fnOf "__init__" "Allowances.__init__" (defArgs s_Allowances___init__) (defBody s_Allowances___init__) (defScope s_Allowances___init__) (.ref dT222) (.ref dK223) dc218 pm219 an216 cd220 ct221), sl217⟩)
    (h225 : PySem.W.codeIn K cd220 "Allowances.__init__" = true)
    (h226 : PySem.W.keepIn K (.ref f212) = true)
    (h227 : PySem.W.isFn K (.ref f212) = true)
    {e228 : Addr} {oc229 : Value} {od230 : Option Addr} {n231 : Nat} {sl232 : Array (Option Value)}
    (h233 : K.lookup dT222 = some ⟨oc229, od230, .seq #[.ref e228] n231, sl232⟩)
    (h234 : PySem.W.nsIn K dK223 "through" = some (some (.bool false)))
    {f235 : Addr}
    (h236 : PySem.W.nsIn K mainGlobals "text_of" = some (some (.ref f235)))
    {oc237 : Value} {od238 : Option Addr} {an239 : Option Addr} {sl240 : Array (Option Value)} {dc241 : Value} {pm242 : Value} {cd243 : Value} {ct244 : Value} {kV245 : Value}
    (h246 : K.lookup f235 = some ⟨oc237, od238, .func (PySem.W.fnOf "text_of" "text_of" (defArgs s_text_of) (defBody s_text_of) (defScope s_text_of) .none kV245 dc241 pm242 an239 cd243 ct244), sl240⟩)
    (h247 : PySem.W.codeIn K cd243 "text_of" = true)
    (h248 : PySem.W.keepIn K (.ref f235) = true)
    (h249 : PySem.W.nsIn K PySem.cStatics "sys.int_max_str_digits" = some none)
    {t250 : Tok}
    (h251 : PySem.W.nsIn K mainGlobals "MOST_ALLOWANCES" = some (some (.int 12 t250)))
    {a252 : Addr}
    (h253 : PySem.W.nsIn K mainGlobals "TooMany" = some (some (.ref a252)))
    {fI254 : Addr} {oc255 : Value} {od256 : Option Addr} {osl257 : Array (Option Value)} {kV258 : Value} {dc259 : Value} {pm260 : Value} {an261 : Option Addr} {ct262 : Value} {cda263 : Addr} {cc264 : Addr} {ccl265 : Value} {cdd266 : Option Addr} {vs267 : Array Value} {ccs268 : Array (Option Value)} {file269 : Str} {tf270 : Tok} {cl271 : Value} {cld272 : Option Addr} {csl273 : Array (Option Value)} {cd274 : ClassData}
    (h275 : PySem.W.findIn K (.ref a252) "__init__" = some (some (.ref fI254)))
    (h276 : K.lookup fI254 = some ⟨oc255, od256, .func (PySem.W.ksFn "__init__" "TooMany.__init__" (defArgs sx_TooMany) (defBody sx_TooMany) (defScope sx_TooMany) .none kV258 dc259 pm260 an261 (.ref cda263) ct262 cc264), osl257⟩)
    (h277 : K.lookup cda263 = some ⟨ccl265, cdd266, .fields vs267, ccs268⟩)
    (h278 : PySem.W.codeIn K (.ref cda263) "TooMany.__init__" = true)
    (h279 : vs267[2]? = some (.str file269 tf270))
    (h280 : ((P.main.file : Str) == file269) = true)
    (h281 : K.lookup cc264 = some ⟨cl271, cld272, .cell (some (.ref a252)), csl273⟩)
    (h282 : (P.main.scope.names.lookup ("super" : Str)).isSome = false)
    (h283 : PySem.W.clsIn K a252 = some cd274)
    (h284 : PySem.W.mroIn K a252 (.ref a252) = some true)
    (h285 : PySem.W.nsIn K PySem.cStatics "thirdparty.any" = some none)
    (h286 : PySem.W.ks_superIn K a252 a252 "__init__" = some (some (.builtin "OverflowError.__init__")))
    (h287 : PySem.W.subIn K (.ref a252) (.type "OverflowError") = some true)
    (h288 : PySem.W.isFn K (.ref fI254) = true)
    (h289 : PySem.W.excInitIn K a252 [.type "OverflowError", .type "ArithmeticError", .type "Exception", .type "BaseException", .type "object"] "OverflowError.__new__" = true)
    (h290 : PySem.W.findIn K (.ref a252) "__setattr__" = some (some (.builtin "object.__setattr__")))
    (h291 : PySem.W.excOver K a252 [.type "OverflowError", .type "ArithmeticError", .type "Exception", .type "BaseException", .type "object"] = true)
    (h292 : PySem.W.takerIn K a252 "limit" = some none)
    (h293 : PySem.W.hasDictIn K a252 = true)
    (h294 : PySem.W.keepIn K (.ref a252) = true)
    (h295 : PySem.W.subIn K (.ref a252) (.type "BaseException") = some true)
    (h296 : PySem.W.typeIn K (.ref a252) = some (.type "type"))
    (h297 : PySem.W.nsIn K mainGlobals "enumerate" = some none)
    {f298 : Addr}
    (h299 : PySem.W.nsIn K mainGlobals "is_allowance" = some (some (.ref f298)))
    {oc300 : Value} {od301 : Option Addr} {an302 : Option Addr} {sl303 : Array (Option Value)} {dc304 : Value} {pm305 : Value} {cd306 : Value} {ct307 : Value} {kV308 : Value}
    (h309 : K.lookup f298 = some ⟨oc300, od301, .func (PySem.W.fnOf "is_allowance" "is_allowance" (defArgs s_is_allowance) (defBody s_is_allowance) (defScope s_is_allowance) .none kV308 dc304 pm305 an302 cd306 ct307), sl303⟩)
    (h310 : PySem.W.codeIn K cd306 "is_allowance" = true)
    (h311 : PySem.W.keepIn K (.ref f298) = true)
    {f312 : Addr}
    (h313 : PySem.W.nsIn K mainGlobals "is_word" = some (some (.ref f312)))
    {oc314 : Value} {od315 : Option Addr} {an316 : Option Addr} {sl317 : Array (Option Value)} {dc318 : Value} {pm319 : Value} {cd320 : Value} {ct321 : Value} {kV322 : Value}
    (h323 : K.lookup f312 = some ⟨oc314, od315, .func (PySem.W.fnOf "is_word" "is_word" (defArgs s_is_word) (defBody s_is_word) (defScope s_is_word) .none kV322 dc318 pm319 an316 cd320 ct321), sl317⟩)
    (h324 : PySem.W.codeIn K cd320 "is_word" = true)
    (h325 : PySem.W.keepIn K (.ref f312) = true)
    (h326 : PySem.W.nsIn K mainGlobals "all" = some none)
    {t327 : Tok}
    (h328 : PySem.W.nsIn K mainGlobals "LETTERS" = some (some (.str "abcdefghijklmnopqrstuvwxyz" t327)))
    {t329 : Tok}
    (h330 : PySem.W.nsIn K mainGlobals "MOST_LETTERS" = some (some (.int 8 t329)))
    {a331 : Addr}
    (h332 : PySem.W.nsIn K mainGlobals "BadAllowance" = some (some (.ref a331)))
    {fI333 : Addr} {oc334 : Value} {od335 : Option Addr} {osl336 : Array (Option Value)} {kV337 : Value} {dc338 : Value} {pm339 : Value} {an340 : Option Addr} {ct341 : Value} {cda342 : Addr} {cc343 : Addr} {ccl344 : Value} {cdd345 : Option Addr} {vs346 : Array Value} {ccs347 : Array (Option Value)} {file348 : Str} {tf349 : Tok} {cl350 : Value} {cld351 : Option Addr} {csl352 : Array (Option Value)} {cd353 : ClassData}
    (h354 : PySem.W.findIn K (.ref a331) "__init__" = some (some (.ref fI333)))
    (h355 : K.lookup fI333 = some ⟨oc334, od335, .func (PySem.W.ksFn "__init__" "BadAllowance.__init__" (defArgs sx_BadAllowance) (defBody sx_BadAllowance) (defScope sx_BadAllowance) .none kV337 dc338 pm339 an340 (.ref cda342) ct341 cc343), osl336⟩)
    (h356 : K.lookup cda342 = some ⟨ccl344, cdd345, .fields vs346, ccs347⟩)
    (h357 : PySem.W.codeIn K (.ref cda342) "BadAllowance.__init__" = true)
    (h358 : vs346[2]? = some (.str file348 tf349))
    (h359 : ((P.main.file : Str) == file348) = true)
    (h360 : K.lookup cc343 = some ⟨cl350, cld351, .cell (some (.ref a331)), csl352⟩)
    (h361 : (P.main.scope.names.lookup ("super" : Str)).isSome = false)
    (h362 : PySem.W.clsIn K a331 = some cd353)
    (h363 : PySem.W.mroIn K a331 (.ref a331) = some true)
    (h364 : PySem.W.nsIn K PySem.cStatics "thirdparty.any" = some none)
    (h365 : PySem.W.ks_superIn K a331 a331 "__init__" = some (some (.builtin "ValueError.__init__")))
    (h366 : PySem.W.subIn K (.ref a331) (.type "ValueError") = some true)
    (h367 : PySem.W.isFn K (.ref fI333) = true)
    (h368 : PySem.W.excInitIn K a331 [.type "ValueError", .type "Exception", .type "BaseException", .type "object"] "ValueError.__new__" = true)
    (h369 : PySem.W.findIn K (.ref a331) "__setattr__" = some (some (.builtin "object.__setattr__")))
    (h370 : PySem.W.excOver K a331 [.type "ValueError", .type "Exception", .type "BaseException", .type "object"] = true)
    (h371 : PySem.W.takerIn K a331 "index" = some none)
    (h372 : PySem.W.hasDictIn K a331 = true)
    (h373 : PySem.W.keepIn K (.ref a331) = true)
    (h374 : PySem.W.subIn K (.ref a331) (.type "BaseException") = some true)
    (h375 : PySem.W.typeIn K (.ref a331) = some (.type "type"))
    (h376 : PySem.W.nsIn K mainGlobals "list" = some none)
    (h377 : PySem.W.makesIn K a22 = true)
    (h378 : PySem.W.keepIn K (.ref a22) = true)
    {f379 : Addr}
    (h380 : PySem.W.nsIn K mainGlobals "_law_book" = some (some (.ref f379)))
    {oc381 : Value} {od382 : Option Addr} {an383 : Option Addr} {sl384 : Array (Option Value)} {dc385 : Value} {pm386 : Value} {cd387 : Value} {ct388 : Value} {kV389 : Value}
    (h390 : K.lookup f379 = some ⟨oc381, od382, .func (PySem.W.fnOf "_law_book" "_law_book" (defArgs s__law_book) (defBody s__law_book) (defScope s__law_book) .none kV389 dc385 pm386 an383 cd387 ct388), sl384⟩)
    (h391 : PySem.W.codeIn K cd387 "_law_book" = true)
    (h392 : PySem.W.keepIn K (.ref f379) = true)
    {f393 : Addr}
    (h394 : PySem.W.nsIn K mainGlobals "_law_pick" = some (some (.ref f393)))
    {oc395 : Value} {od396 : Option Addr} {an397 : Option Addr} {sl398 : Array (Option Value)} {dc399 : Value} {pm400 : Value} {cd401 : Value} {ct402 : Value} {kV403 : Value}
    (h404 : K.lookup f393 = some ⟨oc395, od396, .func (PySem.W.fnOf "_law_pick" "_law_pick" (defArgs s__law_pick) (defBody s__law_pick) (defScope s__law_pick) .none kV403 dc399 pm400 an397 cd401 ct402), sl398⟩)
    (h405 : PySem.W.codeIn K cd401 "_law_pick" = true)
    (h406 : PySem.W.keepIn K (.ref f393) = true)
    {f407 : Addr}
    (h408 : PySem.W.nsIn K mainGlobals "_law_draw" = some (some (.ref f407)))
    {oc409 : Value} {od410 : Option Addr} {an411 : Option Addr} {sl412 : Array (Option Value)} {dc413 : Value} {pm414 : Value} {cd415 : Value} {ct416 : Value} {kV417 : Value}
    (h418 : K.lookup f407 = some ⟨oc409, od410, .func (PySem.W.fnOf "_law_draw" "_law_draw" (defArgs s__law_draw) (defBody s__law_draw) (defScope s__law_draw) .none kV417 dc413 pm414 an411 cd415 ct416), sl412⟩)
    (h419 : PySem.W.codeIn K cd415 "_law_draw" = true)
    (h420 : PySem.W.keepIn K (.ref f407) = true)
    {f421 : Addr}
    (h422 : PySem.W.nsIn K mainGlobals "_law_parts" = some (some (.ref f421)))
    {oc423 : Value} {od424 : Option Addr} {an425 : Option Addr} {sl426 : Array (Option Value)} {dc427 : Value} {pm428 : Value} {cd429 : Value} {ct430 : Value} {kV431 : Value}
    (h432 : K.lookup f421 = some ⟨oc423, od424, .func (PySem.W.fnOf "_law_parts" "_law_parts" (defArgs s__law_parts) (defBody s__law_parts) (defScope s__law_parts) .none kV431 dc427 pm428 an425 cd429 ct430), sl426⟩)
    (h433 : PySem.W.codeIn K cd429 "_law_parts" = true)
    (h434 : PySem.W.keepIn K (.ref f421) = true)
    {f435 : Addr}
    (h436 : PySem.W.nsIn K mainGlobals "_law_pool" = some (some (.ref f435)))
    {oc437 : Value} {od438 : Option Addr} {an439 : Option Addr} {sl440 : Array (Option Value)} {dc441 : Value} {pm442 : Value} {cd443 : Value} {ct444 : Value} {kV445 : Value}
    (h446 : K.lookup f435 = some ⟨oc437, od438, .func (PySem.W.fnOf "_law_pool" "_law_pool" (defArgs s__law_pool) (defBody s__law_pool) (defScope s__law_pool) .none kV445 dc441 pm442 an439 cd443 ct444), sl440⟩)
    (h447 : PySem.W.codeIn K cd443 "_law_pool" = true)
    (h448 : PySem.W.keepIn K (.ref f435) = true)
    (h449 : PySem.W.nsIn K mainGlobals "abs" = some none)
    (h450 : PySem.W.nsIn K mainGlobals "sum" = some none)
    : ∃ fd : FuncData, (∀ (s : Shared) (v : Value), BindsTo s fd ⟨[v], []⟩ [("_law_script", v)]) ∧ ∀ base : Heap, K.In base → base.Ns mainGlobals mg → FnOk l.prog w K mg base (L2.CX l.prog w) 6 FA_ fd ["_law_script"] (spM K 1 m_law) := by
  subst hP
  have e := hfa.symm.trans (PySem.W.mg_of X G h2)
  cases e
  let f_law : Addr := FA_
  let fd_law : FuncData := PySem.W.fnOf "law" "law" (defArgs s_law) (defBody s_law) (defScope s_law) .none kV11 dc7 pm8 an5 cd9 ct10
  have F_law : Fun K "law" "law" s_law f_law fd_law := fun_mk (st := s_law) h12 h13 h14
  have g_law : mg "law" = some (.ref f_law) := PySem.W.mg_of X G h2
  have b_law : Binds K fd_law ["_law_script"] [] := L2.Binds.all (ps := ["_law_script"]) (fun us hl => match us, hl with | [_], _ => rfl)
  have z_max : mg "max" = none := PySem.W.mg_none_of X G h15
  have z_min : mg "min" = none := PySem.W.mg_none_of X G h16
  have z_len : mg "len" = none := PySem.W.mg_none_of X G h17
  have z_range : mg "range" = none := PySem.W.mg_none_of X G h18
  have z_sorted : mg "sorted" = none := PySem.W.mg_none_of X G h19
  have z_int : mg "int" = none := PySem.W.mg_none_of X G h20
  have z_dict : mg "dict" = none := PySem.W.mg_none_of X G h21
  let c_Allowances : Addr := a22
  have n_Allowances : ClsN K "Allowances" c_Allowances := h23
  have m_Allowances : mg "Allowances" = some (.ref c_Allowances) := PySem.W.mg_of X G h23
  let f_Allowances___call__ : Addr := f24
  let fd_Allowances___call__ : FuncData := PySem.W.fnOf "__call__" "Allowances.__call__" (defArgs s_Allowances___call__) (defBody s_Allowances___call__) (defScope s_Allowances___call__) .none kV34 dc30 pm31 an28 cd32 ct33
  have F_Allowances___call__ : Fun K "__call__" "Allowances.__call__" s_Allowances___call__ f_Allowances___call__ fd_Allowances___call__ := fun_mk (st := s_Allowances___call__) h35 h36 h37
  have me_Allowances___call__ : Meth K c_Allowances "__call__" f_Allowances___call__ := ⟨h25, h38, h37⟩
  have b_Allowances___call__ : Binds K fd_Allowances___call__ ["self", "plain", "date"] [] := L2.Binds.all (ps := ["self", "plain", "date"]) (fun us hl => match us, hl with | [_, _, _], _ => rfl)
  let f_ascending : Addr := f39
  let fd_ascending : FuncData := PySem.W.fnOf "ascending" "ascending" (defArgs s_ascending) (defBody s_ascending) (defScope s_ascending) .none kV49 dc45 pm46 an43 cd47 ct48
  have F_ascending : Fun K "ascending" "ascending" s_ascending f_ascending fd_ascending := fun_mk (st := s_ascending) h50 h51 h52
  have g_ascending : mg "ascending" = some (.ref f_ascending) := PySem.W.mg_of X G h40
  have b_ascending : Binds K fd_ascending ["words"] [] := L2.Binds.all (ps := ["words"]) (fun us hl => match us, hl with | [_], _ => rfl)
  have z_str : mg "str" = none := PySem.W.mg_none_of X G h53
  have p_Allowances : Plain K "Allowances" c_Allowances := ⟨⟨h54, h55, h56, h57⟩, n_Allowances⟩
  have na_Allowances_own_through : NoAttr K c_Allowances "own_through" := h58
  let f_Allowances_steps : Addr := f59
  let fd_Allowances_steps : FuncData := PySem.W.fnOf "steps" "Allowances.steps" (defArgs s_Allowances_steps) (defBody s_Allowances_steps) (defScope s_Allowances_steps) .none kV69 dc65 pm66 an63 cd67 ct68
  have F_Allowances_steps : Fun K "steps" "Allowances.steps" s_Allowances_steps f_Allowances_steps fd_Allowances_steps := fun_mk (st := s_Allowances_steps) h70 h71 h72
  have me_Allowances_steps : Meth K c_Allowances "steps" f_Allowances_steps := ⟨h60, h73, h72⟩
  have b_Allowances_steps : Binds K fd_Allowances_steps ["self", "plain", "date"] [] := L2.Binds.all (ps := ["self", "plain", "date"]) (fun us hl => match us, hl with | [_, _, _], _ => rfl)
  have na_Allowances_own_rows : NoAttr K c_Allowances "own_rows" := h74
  let f_is_open : Addr := f75
  let fd_is_open : FuncData := PySem.W.fnOf "is_open" "is_open" (defArgs s_is_open) (defBody s_is_open) (defScope s_is_open) .none kV85 dc81 pm82 an79 cd83 ct84
  have F_is_open : Fun K "is_open" "is_open" s_is_open f_is_open fd_is_open := fun_mk (st := s_is_open) h86 h87 h88
  have g_is_open : mg "is_open" = some (.ref f_is_open) := PySem.W.mg_of X G h76
  have b_is_open : Binds K fd_is_open ["row", "date"] [] := L2.Binds.all (ps := ["row", "date"]) (fun us hl => match us, hl with | [_, _], _ => rfl)
  let f_check_date : Addr := f89
  let fd_check_date : FuncData := PySem.W.fnOf "check_date" "check_date" (defArgs s_check_date) (defBody s_check_date) (defScope s_check_date) .none kV99 dc95 pm96 an93 cd97 ct98
  have F_check_date : Fun K "check_date" "check_date" s_check_date f_check_date fd_check_date := fun_mk (st := s_check_date) h100 h101 h102
  have g_check_date : mg "check_date" = some (.ref f_check_date) := PySem.W.mg_of X G h90
  have b_check_date : Binds K fd_check_date ["value"] [] := L2.Binds.all (ps := ["value"]) (fun us hl => match us, hl with | [_], _ => rfl)
  let f_is_date : Addr := f103
  let fd_is_date : FuncData := PySem.W.fnOf "is_date" "is_date" (defArgs s_is_date) (defBody s_is_date) (defScope s_is_date) .none kV113 dc109 pm110 an107 cd111 ct112
  have F_is_date : Fun K "is_date" "is_date" s_is_date f_is_date fd_is_date := fun_mk (st := s_is_date) h114 h115 h116
  have g_is_date : mg "is_date" = some (.ref f_is_date) := PySem.W.mg_of X G h104
  have b_is_date : Binds K fd_is_date ["value"] [] := L2.Binds.all (ps := ["value"]) (fun us hl => match us, hl with | [_], _ => rfl)
  let f_is_integer : Addr := f117
  let fd_is_integer : FuncData := PySem.W.fnOf "is_integer" "is_integer" (defArgs s_is_integer) (defBody s_is_integer) (defScope s_is_integer) .none kV127 dc123 pm124 an121 cd125 ct126
  have F_is_integer : Fun K "is_integer" "is_integer" s_is_integer f_is_integer fd_is_integer := fun_mk (st := s_is_integer) h128 h129 h130
  have g_is_integer : mg "is_integer" = some (.ref f_is_integer) := PySem.W.mg_of X G h118
  have b_is_integer : Binds K fd_is_integer ["value", "lowest", "highest"] [] := L2.Binds.all (ps := ["value", "lowest", "highest"]) (fun us hl => match us, hl with | [_, _, _], _ => rfl)
  have z_isinstance : mg "isinstance" = none := PySem.W.mg_none_of X G h131
  have z_bool : mg "bool" = none := PySem.W.mg_none_of X G h132
  have k_LAST_DATE : ∃ t, mg "LAST_DATE" = some (.int 9999 t) := ⟨_, PySem.W.mg_of X G h134⟩
  let c_BadDate : Addr := a135
  have n_BadDate : ClsN K "BadDate" c_BadDate := h136
  have m_BadDate : mg "BadDate" = some (.ref c_BadDate) := PySem.W.mg_of X G h136
  have z_super : mg "super" = none := PySem.W.mg_none_of X G h137
  let x_BadDate : ExcK l.prog K c_BadDate "date" "date" "ValueError" "ValueError.__init__" "ValueError.__new__" [.type "ValueError", .type "Exception", .type "BaseException", .type "object"] := { fI := fI138, oc := _, od := _, osl := _, name := "__init__", qual := "BadDate.__init__", params := defArgs sx_BadDate, body := defBody sx_BadDate, scope := defScope sx_BadDate, dV := _, kV := _, dc := _, pm := _, an := _, ct := _, cda := _, cc := _, ccl := _, cdd := _, vs := _, ccs := _, file := _, tf := _, cl := _, cld := _, csl := _, txt := _, j := _, ps := ps_BadDate, hbody := rfl, hshape := ⟨_, fun env => rfl⟩, hf := h160, hcode := h161, hrec := h162, hvs := h163, hfile := h164, hcell := h165, par1 := ⟨_, rfl, rfl⟩, kSuper := rfl, kClass := rfl, kSelf := rfl, kPar := rfl, kCell := by decide, kCo := rfl, kGen := rfl, kFn := rfl, neP := by decide, neD := by decide, top := h166, bind := fun us v => rfl, bindK := fun us v => rfl, cls := ⟨_, h167⟩, sub := h168, any := h169, sup := h170, subB := h171, init := h159, isF := h172, xi := h173, sa := h174, ov := h175, tk := h176, hd := h177 }
  have xk_BadDate : PySem.W.keepIn K (.ref c_BadDate) = true := h178
  have xb_BadDate : PySem.W.subIn K (.ref c_BadDate) (.type "BaseException") = some true := h179
  have xt_BadDate : PySem.W.typeIn K (.ref c_BadDate) = some (.type "type") := h180
  have ci_Allowances : CallI K c_Allowances f_Allowances___call__ := ⟨me_Allowances___call__.at_, me_Allowances___call__.fn, h181⟩
  have z_tuple : mg "tuple" = none := PySem.W.mg_none_of X G h182
  let f__law_fits : Addr := f183
  let fd__law_fits : FuncData := PySem.W.fnOf "_law_fits" "_law_fits" (defArgs s__law_fits) (defBody s__law_fits) (defScope s__law_fits) .none kV193 dc189 pm190 an187 cd191 ct192
  have F__law_fits : Fun K "_law_fits" "_law_fits" s__law_fits f__law_fits fd__law_fits := fun_mk (st := s__law_fits) h194 h195 h196
  have g__law_fits : mg "_law_fits" = some (.ref f__law_fits) := PySem.W.mg_of X G h184
  have b__law_fits : Binds K fd__law_fits ["_law_book_here", "_law_chain", "_law_plain", "_law_date"] [] := L2.Binds.all (ps := ["_law_book_here", "_law_chain", "_law_plain", "_law_date"]) (fun us hl => match us, hl with | [_, _, _, _], _ => rfl)
  let f_Allowances_dates : Addr := f197
  let fd_Allowances_dates : FuncData := PySem.W.fnOf "dates" "Allowances.dates" (defArgs s_Allowances_dates) (defBody s_Allowances_dates) (defScope s_Allowances_dates) .none kV207 dc203 pm204 an201 cd205 ct206
  have F_Allowances_dates : Fun K "dates" "Allowances.dates" s_Allowances_dates f_Allowances_dates fd_Allowances_dates := fun_mk (st := s_Allowances_dates) h208 h209 h210
  have me_Allowances_dates : Meth K c_Allowances "dates" f_Allowances_dates := ⟨h198, h211, h210⟩
  have b_Allowances_dates : Binds K fd_Allowances_dates ["self"] [] := L2.Binds.all (ps := ["self"]) (fun us hl => match us, hl with | [_], _ => rfl)
  let f_Allowances___init__ : Addr := f212
  let fd_Allowances___init__ : FuncData := PySem.W.fnOf "__init__" "Allowances.__init__" (defArgs s_Allowances___init__) (defBody s_Allowances___init__) (defScope s_Allowances___init__) (.ref dT222) (.ref dK223) dc218 pm219 an216 cd220 ct221
  have F_Allowances___init__ : Fun K "__init__" "Allowances.__init__" s_Allowances___init__ f_Allowances___init__ fd_Allowances___init__ := fun_mk (st := s_Allowances___init__) h224 h225 h226
  have me_Allowances___init__ : Meth K c_Allowances "__init__" f_Allowances___init__ := ⟨h213, h227, h226⟩
  let dv0_Allowances___init__ : Addr := e228
  have D_Allowances___init__ : L2.FunD K "__init__" "Allowances.__init__" (defArgs s_Allowances___init__) (defBody s_Allowances___init__) (defScope s_Allowances___init__) [.ref dv0_Allowances___init__] [("through", .bl false)] f_Allowances___init__ fd_Allowances___init__ := ⟨⟨_, _, _, _, _, _, _, _, _, _, rfl, h224, h225, .inr ⟨by simp, _, _, _, _, rfl, h233, rfl, (.cons rfl .nil)⟩, .inr ⟨_, rfl, by
      intro q hq
      simp only [List.mem_cons, List.not_mem_nil, or_false] at hq
      rcases hq with rfl
      · exact ⟨_, h234, rfl⟩⟩⟩, h226⟩
  let f_text_of : Addr := f235
  let fd_text_of : FuncData := PySem.W.fnOf "text_of" "text_of" (defArgs s_text_of) (defBody s_text_of) (defScope s_text_of) .none kV245 dc241 pm242 an239 cd243 ct244
  have F_text_of : Fun K "text_of" "text_of" s_text_of f_text_of fd_text_of := fun_mk (st := s_text_of) h246 h247 h248
  have g_text_of : mg "text_of" = some (.ref f_text_of) := PySem.W.mg_of X G h236
  have b_text_of : Binds K fd_text_of ["row"] [] := L2.Binds.all (ps := ["row"]) (fun us hl => match us, hl with | [_], _ => rfl)
  have nd : PySem.W.nsIn K PySem.cStatics "sys.int_max_str_digits" = some none := h249
  have k_MOST_ALLOWANCES : ∃ t, mg "MOST_ALLOWANCES" = some (.int 12 t) := ⟨_, PySem.W.mg_of X G h251⟩
  let c_TooMany : Addr := a252
  have n_TooMany : ClsN K "TooMany" c_TooMany := h253
  have m_TooMany : mg "TooMany" = some (.ref c_TooMany) := PySem.W.mg_of X G h253
  let x_TooMany : ExcK l.prog K c_TooMany "limit" "limit" "OverflowError" "OverflowError.__init__" "OverflowError.__new__" [.type "OverflowError", .type "ArithmeticError", .type "Exception", .type "BaseException", .type "object"] := { fI := fI254, oc := _, od := _, osl := _, name := "__init__", qual := "TooMany.__init__", params := defArgs sx_TooMany, body := defBody sx_TooMany, scope := defScope sx_TooMany, dV := _, kV := _, dc := _, pm := _, an := _, ct := _, cda := _, cc := _, ccl := _, cdd := _, vs := _, ccs := _, file := _, tf := _, cl := _, cld := _, csl := _, txt := _, j := _, ps := ps_TooMany, hbody := rfl, hshape := ⟨_, fun env => rfl⟩, hf := h276, hcode := h277, hrec := h278, hvs := h279, hfile := h280, hcell := h281, par1 := ⟨_, rfl, rfl⟩, kSuper := rfl, kClass := rfl, kSelf := rfl, kPar := rfl, kCell := by decide, kCo := rfl, kGen := rfl, kFn := rfl, neP := by decide, neD := by decide, top := h282, bind := fun us v => rfl, bindK := fun us v => rfl, cls := ⟨_, h283⟩, sub := h284, any := h285, sup := h286, subB := h287, init := h275, isF := h288, xi := h289, sa := h290, ov := h291, tk := h292, hd := h293 }
  have xk_TooMany : PySem.W.keepIn K (.ref c_TooMany) = true := h294
  have xb_TooMany : PySem.W.subIn K (.ref c_TooMany) (.type "BaseException") = some true := h295
  have xt_TooMany : PySem.W.typeIn K (.ref c_TooMany) = some (.type "type") := h296
  have z_enumerate : mg "enumerate" = none := PySem.W.mg_none_of X G h297
  let f_is_allowance : Addr := f298
  let fd_is_allowance : FuncData := PySem.W.fnOf "is_allowance" "is_allowance" (defArgs s_is_allowance) (defBody s_is_allowance) (defScope s_is_allowance) .none kV308 dc304 pm305 an302 cd306 ct307
  have F_is_allowance : Fun K "is_allowance" "is_allowance" s_is_allowance f_is_allowance fd_is_allowance := fun_mk (st := s_is_allowance) h309 h310 h311
  have g_is_allowance : mg "is_allowance" = some (.ref f_is_allowance) := PySem.W.mg_of X G h299
  have b_is_allowance : Binds K fd_is_allowance ["value"] [] := L2.Binds.all (ps := ["value"]) (fun us hl => match us, hl with | [_], _ => rfl)
  let f_is_word : Addr := f312
  let fd_is_word : FuncData := PySem.W.fnOf "is_word" "is_word" (defArgs s_is_word) (defBody s_is_word) (defScope s_is_word) .none kV322 dc318 pm319 an316 cd320 ct321
  have F_is_word : Fun K "is_word" "is_word" s_is_word f_is_word fd_is_word := fun_mk (st := s_is_word) h323 h324 h325
  have g_is_word : mg "is_word" = some (.ref f_is_word) := PySem.W.mg_of X G h313
  have b_is_word : Binds K fd_is_word ["value"] [] := L2.Binds.all (ps := ["value"]) (fun us hl => match us, hl with | [_], _ => rfl)
  have z_all : mg "all" = none := PySem.W.mg_none_of X G h326
  have k_LETTERS : ∃ t, mg "LETTERS" = some (.str "abcdefghijklmnopqrstuvwxyz" t) := ⟨_, PySem.W.mg_of X G h328⟩
  have k_MOST_LETTERS : ∃ t, mg "MOST_LETTERS" = some (.int 8 t) := ⟨_, PySem.W.mg_of X G h330⟩
  let c_BadAllowance : Addr := a331
  have n_BadAllowance : ClsN K "BadAllowance" c_BadAllowance := h332
  have m_BadAllowance : mg "BadAllowance" = some (.ref c_BadAllowance) := PySem.W.mg_of X G h332
  let x_BadAllowance : ExcK l.prog K c_BadAllowance "index" "index" "ValueError" "ValueError.__init__" "ValueError.__new__" [.type "ValueError", .type "Exception", .type "BaseException", .type "object"] := { fI := fI333, oc := _, od := _, osl := _, name := "__init__", qual := "BadAllowance.__init__", params := defArgs sx_BadAllowance, body := defBody sx_BadAllowance, scope := defScope sx_BadAllowance, dV := _, kV := _, dc := _, pm := _, an := _, ct := _, cda := _, cc := _, ccl := _, cdd := _, vs := _, ccs := _, file := _, tf := _, cl := _, cld := _, csl := _, txt := _, j := _, ps := ps_BadAllowance, hbody := rfl, hshape := ⟨_, fun env => rfl⟩, hf := h355, hcode := h356, hrec := h357, hvs := h358, hfile := h359, hcell := h360, par1 := ⟨_, rfl, rfl⟩, kSuper := rfl, kClass := rfl, kSelf := rfl, kPar := rfl, kCell := by decide, kCo := rfl, kGen := rfl, kFn := rfl, neP := by decide, neD := by decide, top := h361, bind := fun us v => rfl, bindK := fun us v => rfl, cls := ⟨_, h362⟩, sub := h363, any := h364, sup := h365, subB := h366, init := h354, isF := h367, xi := h368, sa := h369, ov := h370, tk := h371, hd := h372 }
  have xk_BadAllowance : PySem.W.keepIn K (.ref c_BadAllowance) = true := h373
  have xb_BadAllowance : PySem.W.subIn K (.ref c_BadAllowance) (.type "BaseException") = some true := h374
  have xt_BadAllowance : PySem.W.typeIn K (.ref c_BadAllowance) = some (.type "type") := h375
  have z_list : mg "list" = none := PySem.W.mg_none_of X G h376
  have mk_Allowances : Made K mg "Allowances" c_Allowances f_Allowances___init__ := ⟨⟨h377, me_Allowances___init__.at_, me_Allowances___init__.fn, h378⟩, n_Allowances, m_Allowances⟩
  have kb_Allowances___init___2_through : ∃ its mv : List Value, KBn K fd_Allowances___init__ ["self", "rows", "through"] 2 ["through"] (fun us ws => gApp us its mv ws) (inG fun a b => a ++ b) := D_Allowances___init__.kbinds (ps := ["self", "rows", "through"]) 2 ["through"] [] gApp (by simp) (by simp) (by simp) gApp_rel (fun _ _ _ _ _ _ _ us its mv ws h1 h2 h3 h4 => match us, its, mv, ws, h1, h2, h3, h4 with | [_, _], [_], [], [_], _, _, _, _ => ⟨_, rfl, rfl⟩)
  let f__law_book : Addr := f379
  let fd__law_book : FuncData := PySem.W.fnOf "_law_book" "_law_book" (defArgs s__law_book) (defBody s__law_book) (defScope s__law_book) .none kV389 dc385 pm386 an383 cd387 ct388
  have F__law_book : Fun K "_law_book" "_law_book" s__law_book f__law_book fd__law_book := fun_mk (st := s__law_book) h390 h391 h392
  have g__law_book : mg "_law_book" = some (.ref f__law_book) := PySem.W.mg_of X G h380
  have b__law_book : Binds K fd__law_book ["_law_pool_here", "_law_parts_here", "_law_many"] [] := L2.Binds.all (ps := ["_law_pool_here", "_law_parts_here", "_law_many"]) (fun us hl => match us, hl with | [_, _, _], _ => rfl)
  let f__law_pick : Addr := f393
  let fd__law_pick : FuncData := PySem.W.fnOf "_law_pick" "_law_pick" (defArgs s__law_pick) (defBody s__law_pick) (defScope s__law_pick) .none kV403 dc399 pm400 an397 cd401 ct402
  have F__law_pick : Fun K "_law_pick" "_law_pick" s__law_pick f__law_pick fd__law_pick := fun_mk (st := s__law_pick) h404 h405 h406
  have g__law_pick : mg "_law_pick" = some (.ref f__law_pick) := PySem.W.mg_of X G h394
  have b__law_pick : Binds K fd__law_pick ["_law_pool_here", "_law_row"] [] := L2.Binds.all (ps := ["_law_pool_here", "_law_row"]) (fun us hl => match us, hl with | [_, _], _ => rfl)
  let f__law_draw : Addr := f407
  let fd__law_draw : FuncData := PySem.W.fnOf "_law_draw" "_law_draw" (defArgs s__law_draw) (defBody s__law_draw) (defScope s__law_draw) .none kV417 dc413 pm414 an411 cd415 ct416
  have F__law_draw : Fun K "_law_draw" "_law_draw" s__law_draw f__law_draw fd__law_draw := fun_mk (st := s__law_draw) h418 h419 h420
  have g__law_draw : mg "_law_draw" = some (.ref f__law_draw) := PySem.W.mg_of X G h408
  have b__law_draw : Binds K fd__law_draw ["_law_pool_here", "_law_many"] [] := L2.Binds.all (ps := ["_law_pool_here", "_law_many"]) (fun us hl => match us, hl with | [_, _], _ => rfl)
  let f__law_parts : Addr := f421
  let fd__law_parts : FuncData := PySem.W.fnOf "_law_parts" "_law_parts" (defArgs s__law_parts) (defBody s__law_parts) (defScope s__law_parts) .none kV431 dc427 pm428 an425 cd429 ct430
  have F__law_parts : Fun K "_law_parts" "_law_parts" s__law_parts f__law_parts fd__law_parts := fun_mk (st := s__law_parts) h432 h433 h434
  have g__law_parts : mg "_law_parts" = some (.ref f__law_parts) := PySem.W.mg_of X G h422
  have b__law_parts : Binds K fd__law_parts ["_law_pool_here", "_law_many"] [] := L2.Binds.all (ps := ["_law_pool_here", "_law_many"]) (fun us hl => match us, hl with | [_, _], _ => rfl)
  let f__law_pool : Addr := f435
  let fd__law_pool : FuncData := PySem.W.fnOf "_law_pool" "_law_pool" (defArgs s__law_pool) (defBody s__law_pool) (defScope s__law_pool) .none kV445 dc441 pm442 an439 cd443 ct444
  have F__law_pool : Fun K "_law_pool" "_law_pool" s__law_pool f__law_pool fd__law_pool := fun_mk (st := s__law_pool) h446 h447 h448
  have g__law_pool : mg "_law_pool" = some (.ref f__law_pool) := PySem.W.mg_of X G h436
  have b__law_pool : Binds K fd__law_pool ["_law_script", "_law_k"] [] := L2.Binds.all (ps := ["_law_script", "_law_k"]) (fun us hl => match us, hl with | [_, _], _ => rfl)
  have z_abs : mg "abs" = none := PySem.W.mg_none_of X G h449
  have z_sum : mg "sum" = none := PySem.W.mg_none_of X G h450
  let T : Tx l.prog K mg := { f_law := f_law, fd_law := fd_law, F_law := F_law, g_law := g_law, b_law := b_law, z_max := z_max, z_min := z_min, z_len := z_len, z_range := z_range, z_sorted := z_sorted, z_int := z_int, z_dict := z_dict, c_Allowances := c_Allowances, n_Allowances := n_Allowances, m_Allowances := m_Allowances, f_Allowances___call__ := f_Allowances___call__, fd_Allowances___call__ := fd_Allowances___call__, F_Allowances___call__ := F_Allowances___call__, me_Allowances___call__ := me_Allowances___call__, b_Allowances___call__ := b_Allowances___call__, f_ascending := f_ascending, fd_ascending := fd_ascending, F_ascending := F_ascending, g_ascending := g_ascending, b_ascending := b_ascending, z_str := z_str, p_Allowances := p_Allowances, na_Allowances_own_through := na_Allowances_own_through, f_Allowances_steps := f_Allowances_steps, fd_Allowances_steps := fd_Allowances_steps, F_Allowances_steps := F_Allowances_steps, me_Allowances_steps := me_Allowances_steps, b_Allowances_steps := b_Allowances_steps, na_Allowances_own_rows := na_Allowances_own_rows, f_is_open := f_is_open, fd_is_open := fd_is_open, F_is_open := F_is_open, g_is_open := g_is_open, b_is_open := b_is_open, f_check_date := f_check_date, fd_check_date := fd_check_date, F_check_date := F_check_date, g_check_date := g_check_date, b_check_date := b_check_date, f_is_date := f_is_date, fd_is_date := fd_is_date, F_is_date := F_is_date, g_is_date := g_is_date, b_is_date := b_is_date, f_is_integer := f_is_integer, fd_is_integer := fd_is_integer, F_is_integer := F_is_integer, g_is_integer := g_is_integer, b_is_integer := b_is_integer, z_isinstance := z_isinstance, z_bool := z_bool, k_LAST_DATE := k_LAST_DATE, c_BadDate := c_BadDate, n_BadDate := n_BadDate, m_BadDate := m_BadDate, z_super := z_super, x_BadDate := x_BadDate, xk_BadDate := xk_BadDate, xb_BadDate := xb_BadDate, xt_BadDate := xt_BadDate, ci_Allowances := ci_Allowances, z_tuple := z_tuple, f__law_fits := f__law_fits, fd__law_fits := fd__law_fits, F__law_fits := F__law_fits, g__law_fits := g__law_fits, b__law_fits := b__law_fits, f_Allowances_dates := f_Allowances_dates, fd_Allowances_dates := fd_Allowances_dates, F_Allowances_dates := F_Allowances_dates, me_Allowances_dates := me_Allowances_dates, b_Allowances_dates := b_Allowances_dates, f_Allowances___init__ := f_Allowances___init__, fd_Allowances___init__ := fd_Allowances___init__, F_Allowances___init__ := F_Allowances___init__, me_Allowances___init__ := me_Allowances___init__, dv0_Allowances___init__ := dv0_Allowances___init__, D_Allowances___init__ := D_Allowances___init__, f_text_of := f_text_of, fd_text_of := fd_text_of, F_text_of := F_text_of, g_text_of := g_text_of, b_text_of := b_text_of, nd := nd, k_MOST_ALLOWANCES := k_MOST_ALLOWANCES, c_TooMany := c_TooMany, n_TooMany := n_TooMany, m_TooMany := m_TooMany, x_TooMany := x_TooMany, xk_TooMany := xk_TooMany, xb_TooMany := xb_TooMany, xt_TooMany := xt_TooMany, z_enumerate := z_enumerate, f_is_allowance := f_is_allowance, fd_is_allowance := fd_is_allowance, F_is_allowance := F_is_allowance, g_is_allowance := g_is_allowance, b_is_allowance := b_is_allowance, f_is_word := f_is_word, fd_is_word := fd_is_word, F_is_word := F_is_word, g_is_word := g_is_word, b_is_word := b_is_word, z_all := z_all, k_LETTERS := k_LETTERS, k_MOST_LETTERS := k_MOST_LETTERS, c_BadAllowance := c_BadAllowance, n_BadAllowance := n_BadAllowance, m_BadAllowance := m_BadAllowance, x_BadAllowance := x_BadAllowance, xk_BadAllowance := xk_BadAllowance, xb_BadAllowance := xb_BadAllowance, xt_BadAllowance := xt_BadAllowance, z_list := z_list, mk_Allowances := mk_Allowances, kb_Allowances___init___2_through := kb_Allowances___init___2_through, f__law_book := f__law_book, fd__law_book := fd__law_book, F__law_book := F__law_book, g__law_book := g__law_book, b__law_book := b__law_book, f__law_pick := f__law_pick, fd__law_pick := fd__law_pick, F__law_pick := F__law_pick, g__law_pick := g__law_pick, b__law_pick := b__law_pick, f__law_draw := f__law_draw, fd__law_draw := fd__law_draw, F__law_draw := F__law_draw, g__law_draw := g__law_draw, b__law_draw := b__law_draw, f__law_parts := f__law_parts, fd__law_parts := fd__law_parts, F__law_parts := F__law_parts, g__law_parts := g__law_parts, b__law_parts := b__law_parts, f__law_pool := f__law_pool, fd__law_pool := fd__law_pool, F__law_pool := F__law_pool, g__law_pool := g__law_pool, b__law_pool := b__law_pool, z_abs := z_abs, z_sum := z_sum }
  exact ⟨T.fd_law, fun s v => .of_eq rfl, fun base _ _ => ok_law T⟩
end Mir.Lk02

namespace Mir.Lk02
open PySem PySem.Spec PyProof.Rows L2 Mir
def PoolOk (a b : Int) : Prop := 0 ≤ a ∧ 0 ≤ b ∧ b < 2147483647
theorem at20 (x y : D) : atI [x, y] 0 = some x := rfl
theorem at21 (x y : D) : atI [x, y] 1 = some y := rfl
theorem draw_spec (a b many : Int) (h : PoolOk a b) (hm : 0 < many) (hz : many.natAbs.log2 < 9000) : ∃ r a' b', m__law_draw [.b (.lst [.int a, .int b]), .v (.int many)] [] = some (.ok (.d (.int r)), [.b (.lst [.int a', .int b']), .v (.int many)], []) ∧ PoolOk a' b' ∧ 0 ≤ r ∧ r < many := by
  unfold m__law_draw g__law_draw
  obtain ⟨h1, h2, h3⟩ := h
  by_cases ha : 0 < a
  · refine ⟨a % many, a / many, b, ?_, ⟨Int.ediv_nonneg h1 (Int.le_of_lt hm), h2, h3⟩, Int.emod_nonneg _ (by omega), Int.emod_lt_of_pos _ hm⟩
    simp [oIx4, sPutA, putAt, isObj, Sl.mo, Sl.put, at20, at21, ha, oMod_i, oFdiv_i, hm, hz, kPI, kPI2, ixN, backs]
  · refine ⟨((b * 48271 + 11) % 2147483647 * ((b * 48271 + 11) % 2147483647)) % 2147483629 / 16 % many, a, (b * 48271 + 11) % 2147483647, ?_, ⟨h1, Int.emod_nonneg _ (by omega), Int.emod_lt_of_pos _ (by omega)⟩, Int.emod_nonneg _ (by omega), Int.emod_lt_of_pos _ hm⟩
    have q1 : -(2 ^ 64) < (b * 48271 + 11) % 2147483647 := by omega
    have q2 : (b * 48271 + 11) % 2147483647 < 2 ^ 64 := by omega
    have q3 : (16 : Nat).log2 < 9000 := by decide
    simp [oIx4, sPutA, putAt, isObj, Sl.mo, Sl.put, at20, at21, ha, oMod_i, oFdiv_i, hm, hz, kPI, kPI2, ixN, backs, oMul_r, oMul_r _ _ q1 q2, q3]
theorem cut63 (ns : List Int) (h : ns.length ≤ 63) : cutD (ns.map D.int) none (some 63) = ns.map D.int := by
  unfold cutD
  rw [HT.sIx_none, show HT.sIx (ns.map D.int).length (ns.map D.int).length (some 63) = min 63 (ns.map D.int).length from HT.sIx_nat _ _ 63]
  simp
  have : min 63 ns.length = ns.length := by omega
  rw [this, ← List.map_take, List.take_length]
theorem pool_spec (ns : List Int) (k : Nat) (hl : ns.length ≤ 63) (hk : k ≤ 4) : ∃ a b, m__law_pool [.v (.frl (ns.map .int)), .v (.int k)] [] = some (.ok (.o (.lst [.int a, .int b])), [.v (.frl (ns.map .int)), .v (.int k)], []) ∧ PoolOk a b := by
  unfold m__law_pool g__law_pool
  have q0 : -(2 ^ 64) < (k : Int) := by omega
  have q1 : (k : Int) < 2 ^ 64 := by omega
  have k0 := oMul_r (7919 * k) k q0 q1
  have p18 : oPow (.int 10) (.int 18) = some (.int (10 ^ 18)) := by rfl
  have one : ∀ s : Int, oMul (.int s) (.int 1) = some (.int s) := fun s => by rw [oMul_r _ _ (by omega) (by omega)]; simp
  have zero : ∀ s : Int, oMul (.int s) (.int 0) = some (.int 0) := fun s => by rw [oMul_r _ _ (by omega) (by omega)]; simp
  have nn : ∀ c : Int, 0 ≤ (if c < 0 then -c else c) := fun c => by split <;> omega
  have mm : ∀ x : Int, oMul (.int (x % 2147483647)) (.int (x % 2147483647)) = some (.int (x % 2147483647 * (x % 2147483647))) := fun x => oMul_r _ _ (by omega) (by omega)
  have pk : ∀ a x : Int, 0 ≤ a → PoolOk a (x % 2147483629) := fun a x h => ⟨h, Int.emod_nonneg _ (by omega), by have := Int.emod_lt_of_pos x (show (0 : Int) < 2147483629 by omega); omega⟩
  by_cases hc : (k : Int) < ns.length
  · have hk2 : k < ns.length := by omega
    have at1 : atI (ns.map D.int) (k : Int) = some (.int ns[k]) := by
      unfold atI ixN
      simp [hk2]
    simp [oIx4, hc, at1, oMul_l, oMul_r, q0, q1, oMod_i]
    generalize hs : (if ns[k] < 0 then -ns[k] else ns[k]) = s
    have hs0 : 0 ≤ s := hs ▸ nn ns[k]
    by_cases h18 : (10 ^ 18 : Int) ≤ s
    · have h18' : (1000000000000000000 : Int) ≤ s := h18
      simp [oIx4, k0, oMul_l, oMul_r, p18, h18', one, zero, mm, oMod_i, kL_some, backs]
      exact ⟨_, _, ⟨rfl, rfl⟩, pk _ _ hs0⟩
    · have h18' : ¬ (1000000000000000000 : Int) ≤ s := h18
      simp [oIx4, k0, oMul_l, oMul_r, p18, h18', one, zero, mm, oMod_i, kL_some, backs]
      exact ⟨_, _, ⟨rfl, rfl⟩, pk _ _ (Int.le_refl 0)⟩
  · simp [oIx4, hc, cut63 ns hl, oMul_l, oMul_r, q0, q1, oMod_i]
    generalize hs : (if 7 * ns.sum + (k : Int) < 0 then -(7 * ns.sum + (k : Int)) else 7 * ns.sum + (k : Int)) = s
    have hs0 : 0 ≤ s := hs ▸ nn _
    by_cases h18 : (10 ^ 18 : Int) ≤ s
    · have h18' : (1000000000000000000 : Int) ≤ s := h18
      simp [oIx4, k0, oMul_l, oMul_r, p18, h18', one, zero, mm, oMod_i, kL_some, backs]
      exact ⟨_, _, ⟨rfl, rfl⟩, pk _ _ hs0⟩
    · have h18' : ¬ (1000000000000000000 : Int) ≤ s := h18
      simp [oIx4, k0, oMul_l, oMul_r, p18, h18', one, zero, mm, oMod_i, kL_some, backs]
      exact ⟨_, _, ⟨rfl, rfl⟩, pk _ _ (Int.le_refl 0)⟩
end Mir.Lk02

namespace Mir.Lk02
open PySem PySem.Spec PyProof.Rows L2 Mir
/-! ## words, dates -/
def letters : Str := "abcdefghijklmnopqrstuvwxyz"
def isL (c : Nat) : Bool := decide (c ∈ letters.cps.toList)
def wordB (x : Str) : Bool := decide (1 ≤ x.length ∧ x.length ≤ 8) && x.cps.toList.all isL
theorem dBls_map {α : Type} (f : α → Bool) : ∀ l : List α, dBls (l.map fun a => D.bl (f a)) = some (l.map f)
  | [] => rfl
  | a :: l => by simp [dBls, dBls_map f l]
theorem oAll_map {α : Type} (f : α → Bool) (l : List α) : oAll (.lst (l.map fun a => D.bl (f a))) = some (.bl (l.all f)) := by
  show (match dBls (l.map fun a => D.bl (f a)) with | some bs => some (D.bl (bs.all id)) | none => none) = _
  rw [dBls_map]
  simp [List.all_map]
theorem dStrs_map {α : Type} (f : α → Str) : ∀ l : List α, dStrs (l.map fun a => D.str (f a)) = some (l.map f)
  | [] => rfl
  | a :: l => by simp [dStrs, dStrs_map f l]
theorem dStrs_str (l : List Str) : dStrs (l.map D.str) = some l := by
  have := dStrs_map id l
  simpa using this
theorem isw_spec (x : Str) : m_is_word [.v (.str x)] [] = some (.ok (.d (.bl (wordB x))), [.v (.str x)], []) := by
  unfold m_is_word g_is_word
  have i1 : oIsi (.str x) (.ty "str") = some (.bl true) := rfl
  by_cases h1 : (1 : Int) ≤ x.length
  · by_cases h2 : (x.length : Int) ≤ 8
    · have h1' : 1 ≤ x.length := by omega
      have h2' : x.length ≤ 8 := by omega
      have hs : (signs x).length ≤ sizeLine := by
        unfold signs
        simp
        exact small_le (by show x.length ≤ _; omega)
      have key := eLc_map (v := 1) (fi := eOf4 (eFrz 0)) (el := e2 (eD (eFrz 1)) (eD (eRet (.str "abcdefghijklmnopqrstuvwxyz"))) fun x y => eOn2 x y oIn4) (e0 := ⟨[some (.v (.str x)), none], []⟩) (e := ⟨[some (.v (.str x)), none], []⟩) (ds := signs x) (fun d => match d with
        | .str z => match z.cps.toList with
          | [k] => .bl (isL k)
          | _ => .non
        | _ => .non) (by simp [eOf4, oIter4]) rfl hs (fun d hd => by
          obtain ⟨c, hc, rfl⟩ := List.mem_map.mp hd
          simp [oIn4, oIn, oInS, isL, letters])
      have hb : (signs x).map (fun d => match d with
        | .str z => match z.cps.toList with
          | [k] => .bl (isL k)
          | _ => .non
        | _ => .non) = x.cps.toList.map fun c => D.bl (isL c) := by
        unfold signs
        rw [List.map_map]
        rfl
      rw [hb] at key
      simp [-eLc_k, i1, h1, h2, key, backs, oAll_map, wordB, h1', h2']
    · have h2' : ¬ x.length ≤ 8 := by omega
      simp [i1, h1, h2, backs, wordB, h2']
  · have h1' : ¬ 1 ≤ x.length := by omega
    simp [i1, h1, backs, wordB, h1']
theorem isInt_spec (i lo hi : Int) : m_is_integer [.v (.int i), .v (.int lo), .v (.int hi)] [] = some (.ok (.d (.bl (decide (lo ≤ i) && decide (i ≤ hi)))), [.v (.int i), .v (.int lo), .v (.int hi)], []) := by
  unfold m_is_integer g_is_integer
  have i1 : oIsi (.int i) (.ty "int") = some (.bl true) := rfl
  have i2 : oIsi (.int i) (.ty "bool") = some (.bl false) := rfl
  by_cases h : lo ≤ i <;> simp [i1, i2, h, backs]
theorem isDate_spec (i : Int) : m_is_date [.v (.int i)] [] = some (.ok (.d (.bl (decide (0 ≤ i) && decide (i ≤ 9999)))), [.v (.int i)], []) := by
  unfold m_is_date g_is_date
  simp [isInt_spec, backs]
theorem checkDate_ok (i : Int) (h : 0 ≤ i) (h' : i ≤ 9999) : m_check_date [.v (.int i)] [] = some (.ok (.d .non), [.v (.int i)], []) := by
  unfold m_check_date g_check_date
  simp [isDate_spec, h, h', backs]
theorem asc_spec (xs : List Str) (h : xs.length ≤ 1000) : m_ascending [.v (.lst (xs.map .str))] [] = some (.ok (.o (.lst ((srt (insAll xs [])).map .str))), [.v (.lst (xs.map .str))], []) := by
  unfold m_ascending g_ascending
  have key := eSrtSt_map (v := 1) (fi := eOf4 (eFrz 0)) (el := eBind (eCons (eD (eFrz 1)) (eRet [])) (g1 fun a => eOn a oStr)) (e0 := ⟨[some (.v (.lst (xs.map .str))), none], []⟩) (e := ⟨[some (.v (.lst (xs.map .str))), none], []⟩) (ds := xs.map .str) (fun d => match d with
    | .str z => z
    | _ => Str.empty) (by simp [eOf4, oIter4]) rfl (by simpa using h) (fun d hd => by
      obtain ⟨c, hc, rfl⟩ := List.mem_map.mp hd
      simp [oStr])
  rw [show (xs.map D.str).map (fun d => match d with
    | .str z => z
    | _ => Str.empty) = xs from by rw [List.map_map]; exact List.map_id _] at key
  simp [key, backs]
end Mir.Lk02

namespace Mir.Lk02
open PySem PySem.Spec PyProof.Rows L2 Mir
/-! ## Allowances -/
theorem isOpen_spec (r : Row) (date : Int) : m_is_open [.v r.d, .v (.int date)] [] = some (.ok (.d (.bl (r.opn date))), [.v r.d, .v (.int date)], []) := by
  cases r with
  | mk a b s t =>
    unfold m_is_open g_is_open
    by_cases h : s ≤ date
    · cases t with
      | none => simp [Row.d, oD, h, backs, Row.opn, tillOk, isNone]
      | some t => simp [Row.d, oD, h, backs, Row.opn, tillOk, isNone]
    · cases t with
      | none => simp [Row.d, oD, h, backs, Row.opn, tillOk]
      | some t => simp [Row.d, oD, h, backs, Row.opn, tillOk]
theorem oFld_rows (rows : List Row) (thr : Bool) : oFld "Allowances" "own_rows" (bookD rows thr) = some (.lst (rows.map Row.d)) := by
  unfold bookD oFld
  simp
theorem oFld_thr (rows : List Row) (thr : Bool) : oFld "Allowances" "own_through" (bookD rows thr) = some (.bl thr) := by
  rfl
theorem insV_steps (rows : List Row) (thr : Bool) (e : ME) : insV "steps" (.d (bookD rows thr)) e = some (("Allowances" : Str), false) := rfl
def RowsOk (rows : List Row) : Prop := (∀ r ∈ rows, r.ok = true) ∧ rows.length ≤ 60
theorem RowsOk.b {rows : List Row} (h : RowsOk rows) {r : Row} (hr : r ∈ rows) : PyData.strOk r.a = true ∧ PyData.strOk r.b = true := by
  have := h.1 r hr
  unfold Row.ok at this
  simpa using this
theorem small1 {n : Nat} (h : n ≤ 1000) : n ≤ sizeLine := Nat.le_trans h (by decide)
theorem steps_spec (rows : List Row) (thr : Bool) (x : Str) (date : Int) (h : RowsOk rows) (hx : PyData.strOk x = true) :
    m_Allowances_steps [.v (bookD rows thr), .v (.str x), .v (.int date)] [] = some (.ok (.o (.lst ((stp rows date x).map .str))), [.v (bookD rows thr), .v (.str x), .v (.int date)], []) := by
  unfold m_Allowances_steps g_Allowances_steps
  have key := eLc_fm (v := 3) (fi := eOf4 (eBind (eD (eFrz 0)) fun a => eOn a (oFld "Allowances" "own_rows"))) (t := eAnd (eT (e2 (eD (e2 (eD (eFrz 3)) (eD (eRet (.int 1))) fun x y => eOn2 x y oIx4)) (eD (eFrz 1)) fun x y => eOn2 x y oEq)) (eT (eFz (eCall m_is_open (eCons (eD (eFrz 3)) (eCons (eD (eFrz 2)) (eRet [])))))))
    (el := e2 (eD (eFrz 3)) (eD (eRet (.int 0))) fun x y => eOn2 x y oIx4) (e0 := ⟨[some (.v (bookD rows thr)), some (.v (.str x)), some (.v (.int date)), none], []⟩) (e := ⟨[some (.v (bookD rows thr)), some (.v (.str x)), some (.v (.int date)), none], []⟩) (ds := rows.map Row.d)
    (fun d => decide ((rowOf d).b = x) && (rowOf d).opn date) (fun d => .str (rowOf d).a) (by simp [eOf4, oIter4, oFld_rows]) rfl (by rw [List.length_map]; exact small1 (by have := h.2; omega)) (fun d hd => by
      obtain ⟨r, hr, rfl⟩ := List.mem_map.mp hd
      obtain ⟨h1, h2⟩ := h.b hr
      have e1 : oIx4 r.d (.int 1) = some (.str r.b) := rfl
      have e2 : (r.b == x) = decide (r.b = x) := by rw [Bool.eq_iff_iff]; simp
      by_cases hb : r.b = x
      · have e3 : oEq (.str r.b) (.str x) = some (.bl true) := by rw [oEq_s _ _ h2 hx, e2, decide_eq_true hb]
        simp [e1, e3, isOpen_spec, decide_eq_true hb]
      · have e3 : oEq (.str r.b) (.str x) = some (.bl false) := by rw [oEq_s _ _ h2 hx, e2, decide_eq_false hb]
        simp [e1, e3, decide_eq_false hb]) (fun d hd _ => by
      obtain ⟨r, hr, rfl⟩ := List.mem_map.mp hd
      have e1 : oIx4 r.d (.int 0) = some (.str r.a) := rfl
      simp [e1])
  have e3 : ((rows.map Row.d).filter fun d => decide ((rowOf d).b = x) && (rowOf d).opn date).map (fun d => D.str (rowOf d).a) = (nxt rows date x).map .str := by
    unfold nxt
    rw [List.filter_map, List.map_map, List.map_map]
    have : ((fun d => decide ((rowOf d).b = x) && (rowOf d).opn date) ∘ Row.d) = fun r => decide (r.b = x) && r.opn date := by
      funext r
      simp
    rw [this]
    apply List.map_congr_left
    intro r _
    simp
  rw [e3] at key
  have hn : (nxt rows date x).length ≤ 1000 := by
    unfold nxt
    rw [List.length_map]
    have := List.length_filter_le (fun r => decide (r.b = x) && r.opn date) rows
    have := h.2
    omega
  simp [-eLc_k, key, asc_spec _ hn, backs]
  rfl
theorem all_ok {xs : List Str} (h : ∀ y ∈ xs, PyData.strOk y = true) : xs.all PyData.strOk = true := List.all_eq_true.mpr h
/-- the loop's state -/
abbrev EC (B : D) (x : Str) (date : Int) (f : List Str) (a : Nat) : ME := ⟨[some (.v B), some (.v (.str x)), some (.v (.int date)), some (.o (.lst (f.map .str))), some (.v (.int a)), none], []⟩
theorem univ_str {rows : List Row} {x : Str} (h : RowsOk rows) (hx : PyData.strOk x = true) : ∀ y ∈ univ rows x, PyData.strOk y = true := fun y hy => by
  rcases List.mem_cons.mp hy with rfl | hy
  · exact hx
  · obtain ⟨r, hr, rfl⟩ := List.mem_map.mp hy
    exact (h.b hr).1
theorem call_body (rows : List Row) (thr : Bool) (x : Str) (date : Int) (h : RowsOk rows) (hx : PyData.strOk x = true) (f : List Str) (a : Nat) (y : Str) (hf : ∀ z ∈ f, z ∈ univ rows x) (hn : f.Nodup) (hy : f[a]? = some y) :
    l_Allowances___call___0 (EC (bookD rows thr) x date f a) = some (.nx, EC (bookD rows thr) x date (stepP rows date f y) (a + 1)) := by
  unfold l_Allowances___call___0
  have hU := univ_str h hx
  have hyo : PyData.strOk y = true := hU y (hf y (List.mem_of_getElem? hy))
  have hfo : f.all PyData.strOk = true := all_ok fun z hz => hU z (hf z hz)
  have ixo : oIx4 (.lst (f.map .str)) (.int a) = some (.str y) := oIx4_l (by rw [List.getElem?_map, hy]; rfl)
  have hso : ∀ z ∈ stp rows date y, PyData.strOk z = true := fun z hz => hU z (univ_clo rows date x y (hf y (List.mem_of_getElem? hy)) z (mem_asc.mp hz))
  have hsl : (stp rows date y).length ≤ 61 := by
    have := nd_le (asc_nd (nxt rows date y)) (U := univ rows x) fun z hz => univ_clo rows date x y (hf y (List.mem_of_getElem? hy)) z (mem_asc.mp hz)
    have h2 : (univ rows x).length ≤ 61 := by simp [univ]; exact h.2
    exact Nat.le_trans this h2
  have hfl : f.length ≤ 61 := by
    have := nd_le hn hf
    have h2 : (univ rows x).length ≤ 61 := by simp [univ]; exact h.2
    exact Nat.le_trans this h2
  have key := eLc_fm (v := 5) (fi := eOf4 (eFz (eMeth "Allowances" "steps" m_Allowances_steps [] (eD (eFrz 0)) (eCons (eD (e2 (eName 3) (eD (eFrz 4)) fun x y => eOn2 x y oIx4)) (eCons (eD (eFrz 2)) (eRet []))))))
    (t := eT (e2 (eD (eFrz 5)) (eName 3) fun x y => eOn2 x y oNotIn4)) (el := eFrz 5) (e0 := EC (bookD rows thr) x date f a) (e := EC (bookD rows thr) x date f a) (ds := (stp rows date y).map .str) (fun d => !decide (strOf d ∈ f)) (fun d => d) (by
      simp [eOf4, oIter4, eMethG, kMeth, insV_steps, ixo, steps_spec rows thr y date h hyo]) rfl (by rw [List.length_map]; exact small1 (by omega)) (fun d hd => by
      obtain ⟨z, hz, rfl⟩ := List.mem_map.mp hd
      simp [oNotIn4_strs f z hfo (hso z hz)]
      try exact decide_eq_decide.mpr Iff.rfl) (fun d hd _ => by
      obtain ⟨z, hz, rfl⟩ := List.mem_map.mp hd
      simp)
  have e3 : (((stp rows date y).map D.str).filter fun d => !decide (strOf d ∈ f)).map (fun d => d) = ((stp rows date y).filter fun z => decide (z ∉ f)).map .str := by
    rw [List.map_id'', List.filter_map]
    · congr 1
      apply List.filter_congr
      intro z _
      simp
      try exact decide_eq_decide.mpr Iff.rfl
    · intro z
      rfl
  rw [e3] at key
  have hlt : f.length + ((stp rows date y).filter fun z => decide (z ∉ f)).length ≤ sizeLine := by
    have := List.length_filter_le (fun z => decide (z ∉ f)) (stp rows date y)
    exact small1 (by omega)
  have hs : stepP rows date f y = f ++ (stp rows date y).filter fun z => decide (z ∉ f) := rfl
  rw [hs]
  generalize (stp rows date y).filter (fun z => decide (z ∉ f)) = new at key hlt
  simp [-eLc_k, key, kM2, oExtend, hlt, gAddI, sAug]
theorem call_while (rows : List Row) (x : Str) (date : Int) (h : RowsOk rows) (hx : PyData.strOk x = true) : ∀ (k : Nat) (f : List Str) (a : Nat), f.Nodup → (∀ y ∈ f, y ∈ univ rows x) → (univ rows x).length ≤ a + k →
    ∃ a', sWhile (eAnd (eT (eBind (eD (eFrz 0)) fun a => eOn a (oFld "Allowances" "own_through"))) (eT (e2 (eD (eFrz 4)) (eD (eBind (eCons (eName 3) (eRet [])) (g1 fun a => eOn a oLen))) fun x y => eOn2 x y oLt))) l_Allowances___call___0 (k + 1) (EC (bookD rows true) x date f a) = some (.nx, EC (bookD rows true) x date (bfs (stepP rows date) k f a) a') := by
  have cond : ∀ (f : List Str) (a : Nat), eAnd (eT (eBind (eD (eFrz 0)) fun a => eOn a (oFld "Allowances" "own_through"))) (eT (e2 (eD (eFrz 4)) (eD (eBind (eCons (eName 3) (eRet [])) (g1 fun a => eOn a oLen))) fun x y => eOn2 x y oLt)) (EC (bookD rows true) x date f a) = some (.ok (decide (a < f.length)), EC (bookD rows true) x date f a) := fun f a => by
    simp [oFld_thr]
  intro k
  induction k with
  | zero =>
    intro f a hn hs hk
    have h1 := nd_le hn hs
    refine ⟨a, ?_⟩
    rw [sWhile_off (by rw [cond, decide_eq_false (by omega)])]
    rfl
  | succ k ih =>
    intro f a hn hs hk
    unfold bfs
    cases hy : f[a]? with
    | none =>
      have ha : f.length ≤ a := List.getElem?_eq_none_iff.mp hy
      refine ⟨a, ?_⟩
      rw [sWhile_off (by rw [cond, decide_eq_false (by omega)])]
    | some y =>
      have ha : a < f.length := (List.getElem?_eq_some_iff.mp hy).1
      have S := stepP_ok rows date
      obtain ⟨a', q⟩ := ih (stepP rows date f y) (a + 1) (S.nd f y hn) (fun z hz => by
        rcases (S.mem f y z).mp hz with w | w
        · exact hs z w
        · exact univ_clo rows date x y (hs y (List.mem_of_getElem? hy)) z w) (by omega)
      refine ⟨a', ?_⟩
      rw [sWhile_on (by rw [cond, decide_eq_true ha]) (call_body rows true x date h hx f a y hs hn hy)]
      exact q
theorem call_spec (rows : List Row) (thr : Bool) (x : Str) (date : Int) (h : RowsOk rows) (hx : PyData.strOk x = true) (h0 : 0 ≤ date) (h1 : date ≤ 9999) :
    m_Allowances___call__ [.v (bookD rows thr), .v (.str x), .v (.int date)] [] = some (.ok (.d (.tup ((x :: candO rows thr x date).map .str))), [.v (bookD rows thr), .v (.str x), .v (.int date)], []) := by
  unfold m_Allowances___call__ g_Allowances___call__
  have hU := univ_str h hx
  have hst : ∀ y ∈ stp rows date x, y ∈ univ rows x := fun y hy => univ_clo rows date x x (by simp [univ]) y (mem_asc.mp hy)
  have loop : ∃ a', sWhile (eAnd (eT (eBind (eD (eFrz 0)) fun a => eOn a (oFld "Allowances" "own_through"))) (eT (e2 (eD (eFrz 4)) (eD (eBind (eCons (eName 3) (eRet [])) (g1 fun a => eOn a oLen))) fun x y => eOn2 x y oLt))) l_Allowances___call___0 64 (EC (bookD rows thr) x date (stp rows date x) 0) = some (.nx, EC (bookD rows thr) x date (foundP rows thr x date) a') := by
    cases thr with
    | false =>
      refine ⟨0, ?_⟩
      rw [sWhile_off (e1 := EC (bookD rows false) x date (stp rows date x) 0) (by simp [oFld_thr])]
      rfl
    | true =>
      obtain ⟨a', q⟩ := call_while rows x date h hx 62 (stp rows date x) 0 (asc_nd _) hst (by simp [univ]; have := h.2; omega)
      exact ⟨a', sWhile_mono q (by omega)⟩
  obtain ⟨a', loop⟩ := loop
  replace loop : sWhile _ _ 64 (⟨[some (.v (bookD rows thr)), some (.v (.str x)), some (.v (.int date)), some (.o (.lst ((stp rows date x).map .str))), some (.v (.int 0)), none], []⟩ : ME) = some (.nx, EC (bookD rows thr) x date (foundP rows thr x date) a') := loop
  have hfU : ∀ y ∈ foundP rows thr x date, y ∈ univ rows x := by
    cases thr with
    | false => exact hst
    | true => exact (foundP_ok h.2 x date).2.2
  have hfn : (foundP rows thr x date).Nodup := by
    cases thr with
    | false => exact asc_nd _
    | true => exact (foundP_ok h.2 x date).2.1
  have hfl : (foundP rows thr x date).length ≤ 61 := by
    have := nd_le hfn hfU
    have h2 : (univ rows x).length ≤ 61 := by simp [univ]; exact h.2
    exact Nat.le_trans this h2
  have key := eLc_fm (v := 5) (fi := eOf4 (eFrz 3)) (t := eT (e2 (eD (eFrz 5)) (eD (eFrz 1)) fun x y => eOn2 x y oNe)) (el := eFrz 5) (e0 := EC (bookD rows thr) x date (foundP rows thr x date) a')
    (e := (EC (bookD rows thr) x date (foundP rows thr x date) a').set 3 (some (.v (.lst ((foundP rows thr x date).map .str))))) (ds := (foundP rows thr x date).map .str) (fun d => !decide (strOf d = x)) (fun d => d) (by
      simp [eOf4, oIter4]) rfl (by rw [List.length_map]; exact small1 (by omega)) (fun d hd => by
      obtain ⟨z, hz, rfl⟩ := List.mem_map.mp hd
      have e2 : (z == x) = decide (z = x) := by rw [Bool.eq_iff_iff]; simp
      simp [oNe_s _ _ (hU z (hfU z hz)) hx, e2]
      try exact decide_eq_decide.mpr Iff.rfl) (fun d hd _ => by
      obtain ⟨z, hz, rfl⟩ := List.mem_map.mp hd
      simp)
  have e3 : (((foundP rows thr x date).map D.str).filter fun d => !decide (strOf d = x)).map (fun d => d) = ((foundP rows thr x date).filter fun z => decide (z ≠ x)).map .str := by
    rw [List.map_id'', List.filter_map]
    · congr 1
      apply List.filter_congr
      intro z _
      simp
      try exact decide_eq_decide.mpr Iff.rfl
    · intro z
      rfl
  rw [e3] at key
  have hl2 : ((foundP rows thr x date).filter fun z => decide (z ≠ x)).length ≤ 61 := Nat.le_trans (List.length_filter_le _ _) hfl
  have hl3 : (candO rows thr x date).length ≤ 61 := by
    have := nd_le (asc_nd ((foundP rows thr x date).filter fun z => decide (z ≠ x))) (U := (foundP rows thr x date).filter fun z => decide (z ≠ x)) fun z hz => mem_asc.mp hz
    exact Nat.le_trans this hl2
  have ms := steps_spec rows thr x date h hx
  have hc : candO rows thr x date = srt (insAll ((foundP rows thr x date).filter fun z => decide (z ≠ x)) []) := rfl
  rw [hc] at hl3 ⊢
  generalize (foundP rows thr x date).filter (fun z => decide (z ≠ x)) = oth at key hl2 hl3
  have as := asc_spec oth (by omega)
  have hl4 : (srt (insAll oth [])).length + 1 ≤ 100000 := by omega
  have dsm : ∀ l : List Str, Mir.ds (l.map fun x => AV.d (D.str x)) = some (l.map .str) := fun l => by
    induction l with
    | nil => rfl
    | cons a l ih => simp [ih]
  simp [-eLc_k, eMethG, kMeth, insV_steps, checkDate_ok date h0 h1, ms, loop, key, as, backs, eStar, kStar, itemsOf, Function.comp_def, dsm]
  have hl5 : (srt (insAll oth [])).length + 1 ≤ sizeLine := by
    have := hl4
    exact small1 (by omega)
  simp [kT, hl5, backs]
end Mir.Lk02

namespace Mir.Lk02
open PySem PySem.Spec PyProof.Rows L2 Mir
/-! ## the law's own candidates -/
abbrev B4 := Option D × Option D × Option D × Option D
def ov : Option D → Option Sl
  | none => none
  | some d => some (.v d)
@[simp] theorem ov_n : ov none = none := rfl
@[simp] theorem ov_s (d : D) : ov (some d) = some (.v d) := rfl
abbrev FE (rows : List Row) (chain : Bool) (x : Str) (date : Int) (a : Nat) (b : B4) (f : List Str) : ME := ⟨[some (.v (.lst (rows.map Row.d))), some (.v (.bl chain)), some (.v (.str x)), some (.v (.int date)), some (.o (.lst (f.map .str))), some (.v (.int a)), ov b.1, ov b.2.1, ov b.2.2.1, ov b.2.2.2], []⟩
def bnd4 (d : D) : B4 := (some (.str (rowOf d).a), some (.str (rowOf d).b), some (.int (rowOf d).s), some (oD (rowOf d).t))
def rowStep (y : Str) (date : Int) (f : List Str) (r : Row) : List Str := if r.b = y ∧ r.a ∉ f ∧ r.opn date = true then f ++ [r.a] else f
theorem tup4_bind (rows : List Row) (chain : Bool) (x : Str) (date : Int) (a : Nat) (b : B4) (f : List Str) (r : Row) : gTupM [gSl 6, gSl 7, gSl 8, gSl 9] r.d (FE rows chain x date a b f) = some (FE rows chain x date a (bnd4 r.d) f) := by
  obtain ⟨b1, b2, b3, b4⟩ := b
  have e : bnd4 r.d = (some (.str r.a), some (.str r.b), some (.int r.s), some (oD r.t)) := by
    unfold bnd4
    rw [rowOf_d]
  rw [e]
  cases r with
  | mk ra rb rs rt =>
    cases b1 <;> cases b2 <;> cases b3 <;> cases b4 <;> rfl
theorem fits_row (rows : List Row) (chain : Bool) (x : Str) (date : Int) (a : Nat) (f : List Str) (r : Row) (y : Str) (hr : r.ok = true) (hf : f.all PyData.strOk = true) (hy : f[a]? = some y) (hl : f.length ≤ 61) :
    l__law_fits_0 (FE rows chain x date a (bnd4 r.d) f) = some (.nx, FE rows chain x date a (bnd4 r.d) (rowStep y date f r)) := by
  unfold l__law_fits_0
  have ixo : oIx4 (.lst (f.map .str)) (.int a) = some (.str y) := oIx4_l (by rw [List.getElem?_map, hy]; rfl)
  have hyo : PyData.strOk y = true := List.all_eq_true.mp hf y (List.mem_of_getElem? hy)
  have hr2 : PyData.strOk r.a = true ∧ PyData.strOk r.b = true := by
    unfold Row.ok at hr
    simpa using hr
  obtain ⟨h1, h2⟩ := hr2
  have e2 : (r.b == y) = decide (r.b = y) := by rw [Bool.eq_iff_iff]; simp
  have hsz : f.length < sizeLine := Nat.lt_of_le_of_lt hl (by decide)
  have e4 : oNotIn4 (.str r.a) (.lst (f.map .str)) = some (.bl (!decide (r.a ∈ f))) := oNotIn4_strs f r.a hf h1
  by_cases hb : r.b = y
  · have e3 : oEq (.str r.b) (.str y) = some (.bl true) := by rw [oEq_s _ _ h2 hyo, e2, decide_eq_true hb]
    by_cases hm : r.a ∈ f
    · have hst : rowStep y date f r = f := by
        unfold rowStep
        simp [hm]
      rw [hst]
      rw [decide_eq_true hm] at e4
      simp [bnd4, ixo, e3, e4]
    · rw [decide_eq_false hm] at e4
      by_cases hs : r.s ≤ date
      · cases ht : r.t with
        | none =>
          have hst : rowStep y date f r = f ++ [r.a] := by
            unfold rowStep
            simp [hm, hb, Row.opn, hs, ht, tillOk]
          rw [hst]
          simp [bnd4, ixo, e3, e4, hs, ht, oD, kM2, oAppend, hsz, isNone]
        | some t =>
          by_cases h3 : date ≤ t
          · have hst : rowStep y date f r = f ++ [r.a] := by
              unfold rowStep
              simp [hm, hb, Row.opn, hs, ht, tillOk, h3]
            rw [hst]
            simp [bnd4, ixo, e3, e4, hs, ht, oD, kM2, oAppend, hsz, h3, isNone]
          · have hst : rowStep y date f r = f := by
              unfold rowStep
              simp [Row.opn, ht, tillOk, h3]
            rw [hst]
            simp [bnd4, ixo, e3, e4, hs, ht, oD, h3, isNone]
      · have hst : rowStep y date f r = f := by
          unfold rowStep
          simp [Row.opn, hs]
        rw [hst]
        simp [bnd4, ixo, e3, e4, hs]
  · have e3 : oEq (.str r.b) (.str y) = some (.bl false) := by rw [oEq_s _ _ h2 hyo, e2, decide_eq_false hb]
    have hst : rowStep y date f r = f := by
      unfold rowStep
      simp [hb]
    rw [hst]
    simp [bnd4, ixo, e3]
theorem univ_len (rows : List Row) (x : Str) (h : rows.length ≤ 60) : (univ rows x).length ≤ 61 := by
  simp [univ]
  exact h
theorem fits_turn (rows : List Row) (chain : Bool) (x : Str) (date : Int) (h : RowsOk rows) (hx : PyData.strOk x = true) (f : List Str) (a : Nat) (y : Str) (b : B4) (hf : ∀ z ∈ f, z ∈ univ rows x) (hn : f.Nodup) (hy : f[a]? = some y) :
    ∃ b', l__law_fits_1 (FE rows chain x date a b f) = some (.nx, FE rows chain x date (if chain = true then a + 1 else (stepL rows date f y).length) b' (stepL rows date f y)) := by
  have hU := univ_str h hx
  obtain ⟨b', q, _⟩ := sLoop_foldT (tgt := gTupM [gSl 6, gSl 7, gSl 8, gSl 9]) (body := l__law_fits_0) (FE rows chain x date a) bnd4 (fun f d => rowStep y date f (rowOf d)) (fun s => s.Nodup ∧ (∀ z ∈ s, z ∈ univ rows x) ∧ s[a]? = some y) (rows.map Row.d) (fun d hd b s hs => by
    obtain ⟨r, hr, rfl⟩ := List.mem_map.mp hd
    obtain ⟨s1, s2, s3⟩ := hs
    rw [rowOf_d]
    refine ⟨tup4_bind rows chain x date a b s r, .inl (fits_row rows chain x date a s r y (h.1 r hr) (all_ok fun z hz => hU z (s2 z hz)) s3 (Nat.le_trans (nd_le s1 s2) (univ_len rows x h.2))), ?_⟩
    unfold rowStep
    split
    · rename_i c
      refine ⟨?_, ?_, ?_⟩
      · rw [List.nodup_append]
        exact ⟨s1, by simp, fun u hu v hv e => by simp at hv; subst hv; exact c.2.1 (e ▸ hu)⟩
      · intro z hz
        rcases List.mem_append.mp hz with hz | hz
        · exact s2 z hz
        · simp at hz
          subst hz
          exact List.mem_cons_of_mem _ (List.mem_map.mpr ⟨r, hr, rfl⟩)
      · rw [List.getElem?_append_left (List.getElem?_eq_some_iff.mp s3).1]
        exact s3
    · exact ⟨s1, s2, s3⟩) b f ⟨hn, hf, hy⟩
  rw [foldl_rows (rowStep y date)] at q
  rw [show rows.foldl (rowStep y date) f = stepL rows date f y from rfl] at q
  refine ⟨b', ?_⟩
  unfold l__law_fits_1
  have q2 : sFor (eOf4 (eFrz 0)) (gTupM [gSl 6, gSl 7, gSl 8, gSl 9]) l__law_fits_0 (FE rows chain x date a b f) = some (.nx, FE rows chain x date a b' (stepL rows date f y)) := by
    rw [sFor_on (e1 := FE rows chain x date a b f) (ds := rows.map Row.d) (by simp [eOf4, oIter4])]
    exact q
  generalize stepL rows date f y = g at q2
  rw [sSeq_k, q2]
  cases chain <;> simp
theorem fits_while (rows : List Row) (x : Str) (date : Int) (h : RowsOk rows) (hx : PyData.strOk x = true) : ∀ (k : Nat) (f : List Str) (a : Nat) (b : B4), f.Nodup → (∀ y ∈ f, y ∈ univ rows x) → (univ rows x).length ≤ a + k →
    ∃ a' b', sWhile (eT (e2 (eD (eFrz 5)) (eD (eBind (eCons (eName 4) (eRet [])) (g1 fun a => eOn a oLen))) fun x y => eOn2 x y oLt)) l__law_fits_1 (k + 1) (FE rows true x date a b f) = some (.nx, FE rows true x date a' b' (bfs (stepL rows date) k f a)) := by
  have cond : ∀ (f : List Str) (a : Nat) (b : B4) (c : Bool), eT (e2 (eD (eFrz 5)) (eD (eBind (eCons (eName 4) (eRet [])) (g1 fun a => eOn a oLen))) fun x y => eOn2 x y oLt) (FE rows c x date a b f) = some (.ok (decide (a < f.length)), FE rows c x date a b f) := fun f a b c => by
    simp
  intro k
  induction k with
  | zero =>
    intro f a b hn hs hk
    have h1 := nd_le hn hs
    refine ⟨a, b, ?_⟩
    rw [sWhile_off (by rw [cond, decide_eq_false (by omega)])]
    rfl
  | succ k ih =>
    intro f a b hn hs hk
    unfold bfs
    cases hy : f[a]? with
    | none =>
      have ha : f.length ≤ a := List.getElem?_eq_none_iff.mp hy
      refine ⟨a, b, ?_⟩
      rw [sWhile_off (by rw [cond, decide_eq_false (by omega)])]
    | some y =>
      have ha : a < f.length := (List.getElem?_eq_some_iff.mp hy).1
      have S := stepL_ok rows date
      obtain ⟨b1, t⟩ := fits_turn rows true x date h hx f a y b hs hn hy
      obtain ⟨a', b', q⟩ := ih (stepL rows date f y) (a + 1) b1 (S.nd f y hn) (fun z hz => by
        rcases (S.mem f y z).mp hz with w | w
        · exact hs z w
        · exact univ_clo rows date x y (hs y (List.mem_of_getElem? hy)) z w) (by omega)
      refine ⟨a', b', ?_⟩
      rw [sWhile_on (by rw [cond, decide_eq_true ha]) t]
      exact q
theorem foundL_all (rows : List Row) (chain : Bool) (x : Str) (date : Int) (h : rows.length ≤ 60) : (∃ more, foundL rows chain x date = x :: more) ∧ (foundL rows chain x date).length ≤ 61 ∧ ∀ z ∈ foundL rows chain x date, z ∈ univ rows x := by
  cases chain with
  | true =>
    have r := bfs_ok (stepL_ok rows date) (univ rows x) [x] (univ_clo rows date x) 62 [x] 0 (by simp) (fun y hy => by simp at hy; subst hy; simp [univ]) (by have := univ_len rows x h; omega) (fun y hy => hy) (fun C c1 c2 y hy => c1 y hy) (fun i z hi => by omega)
    exact ⟨r.2.2.1, Nat.le_trans (nd_le r.2.1 r.2.2.2) (univ_len rows x h), r.2.2.2⟩
  | false =>
    have S := stepL_ok rows date
    have hm : ∀ z ∈ stepL rows date [x] x, z ∈ univ rows x := fun z hz => by
      rcases (S.mem [x] x z).mp hz with w | w
      · simp at w; subst w; simp [univ]
      · exact univ_clo rows date x x (by simp [univ]) z w
    exact ⟨S.ext _ _, Nat.le_trans (nd_le (S.nd [x] x (by simp)) hm) (univ_len rows x h), hm⟩
theorem fits_spec (rows : List Row) (chain : Bool) (x : Str) (date : Int) (h : RowsOk rows) (hx : PyData.strOk x = true) :
    m__law_fits [.v (.lst (rows.map Row.d)), .v (.bl chain), .v (.str x), .v (.int date)] [] = some (.ok (.d (.lst ((x :: srt ((foundL rows chain x date).drop 1)).map .str))), [.v (.lst (rows.map Row.d)), .v (.bl chain), .v (.str x), .v (.int date)], []) := by
  unfold m__law_fits g__law_fits
  have loop : ∃ a' b', sWhile (eT (e2 (eD (eFrz 5)) (eD (eBind (eCons (eName 4) (eRet [])) (g1 fun a => eOn a oLen))) fun x y => eOn2 x y oLt)) l__law_fits_1 64 (FE rows chain x date 0 (none, none, none, none) [x]) = some (.nx, FE rows chain x date a' b' (foundL rows chain x date)) := by
    cases chain with
    | true =>
      obtain ⟨a', b', q⟩ := fits_while rows x date h hx 62 [x] 0 (none, none, none, none) (by simp) (fun y hy => by simp at hy; subst hy; simp [univ]) (by have := univ_len rows x h.2; omega)
      exact ⟨a', b', sWhile_mono q (by omega)⟩
    | false =>
      obtain ⟨b', t⟩ := fits_turn rows false x date h hx [x] 0 x (none, none, none, none) (fun y hy => by simp at hy; subst hy; simp [univ]) (by simp) rfl
      refine ⟨(stepL rows date [x] x).length, b', ?_⟩
      rw [sWhile_on (e1 := FE rows false x date 0 (none, none, none, none) [x]) (by simp) t]
      rw [sWhile_off (e1 := FE rows false x date (stepL rows date [x] x).length b' (stepL rows date [x] x)) (by simp)]
      rfl
  obtain ⟨a', b', loop⟩ := loop
  replace loop : sWhile _ _ 64 (⟨[some (.v (.lst (rows.map Row.d))), some (.v (.bl chain)), some (.v (.str x)), some (.v (.int date)), some (.o (.lst [.str x])), some (.v (.int 0)), none, none, none, none], []⟩ : ME) = some (.nx, FE rows chain x date a' b' (foundL rows chain x date)) := loop
  obtain ⟨⟨more, hm⟩, hlen, hU⟩ := foundL_all rows chain x date h.2
  rw [hm] at loop hlen ⊢
  have hl2 : more.length ≤ 60 := by simpa using hlen
  have key := eLc_map (v := 6) (fi := eOf4 (eSl (eName 4) (ePart (some (eRet (.int 1)))) (ePart none))) (el := eBind (eCons (eD (eFrz 6)) (eRet [])) (g1 fun a => eOn a oStr)) (e0 := ⟨[some (.v (.lst (rows.map Row.d))), some (.v (.bl chain)), some (.v (.str x)), some (.v (.int date)), some (.o (.lst ((x :: more).map .str))), some (.v (.int a')), none, ov b'.2.1, ov b'.2.2.1, ov b'.2.2.2], []⟩)
    (e := ⟨[some (.v (.lst (rows.map Row.d))), some (.v (.bl chain)), some (.v (.str x)), some (.v (.int date)), some (.o (.lst ((x :: more).map .str))), some (.v (.int a')), none, ov b'.2.1, ov b'.2.2.1, ov b'.2.2.2], []⟩) (ds := more.map .str) (fun d => d) (by
      simp [eOf4, oIter4]
      exact cutD_tail _ _)  rfl (by rw [List.length_map]; exact small1 (by omega)) (fun d hd => by
      obtain ⟨z, hz, rfl⟩ := List.mem_map.mp hd
      simp [oStr])
  have ho := oSrt4_strs more (by omega)
  rw [List.map_id''] at key
  · have hh := eHide_on (v := 6) (e := FE rows chain x date a' b' (x :: more)) (o := b'.1) (by obtain ⟨b1, b2⟩ := b'; cases b1 <;> rfl) key
    have hz : 1 + (srt more).length ≤ sizeLine := by
      rw [(srt_perm more).length_eq]
      exact small1 (by omega)
    have ha : oAdd (.lst [.str x]) (.lst ((srt more).map .str)) = some (.lst (.str x :: (srt more).map .str)) := by
      simp [oAdd]
      omega
    simp [-eLc_k, loop, hh, ho, sPar2, kL_some, backs, ha]
  · exact fun _ => rfl
end Mir.Lk02

namespace Mir.Lk02
open PySem PySem.Spec PyProof.Rows L2 Mir
/-! ## dates() -/
def dateStep (l : List Int) (r : Row) : List Int := match r.t with
  | none => addK l r.s
  | some t => if t < 9999 then addK (addK l r.s) (t + 1) else addK l r.s
theorem dateStep_len (l : List Int) (r : Row) : (dateStep l r).length ≤ l.length + 2 := by
  unfold dateStep
  have h1 := addK_len l r.s
  split
  · omega
  · rename_i t _
    have h2 := addK_len (addK l r.s) (t + 1)
    split <;> omega
abbrev GE (rows : List Row) (thr : Bool) (b : Option D) (l : List Int) : ME := ⟨[some (.v (bookD rows thr)), some (.o (.dK (iK (.bl true) l))), ov b, none], []⟩
theorem dates_row (rows : List Row) (thr : Bool) (r : Row) (l : List Int) (h : l.length + 2 ≤ 1000) : l_Allowances_dates_0 (GE rows thr (some r.d) l) = some (.nx, GE rows thr (some r.d) (dateStep l r)) := by
  unfold l_Allowances_dates_0
  have z1 : l.length < sizeLine := Nat.lt_of_le_of_lt (show l.length ≤ 1000 by omega) (by decide)
  have z2 : (addK l r.s).length < sizeLine := Nat.lt_of_le_of_lt (show (addK l r.s).length ≤ 1000 by have := addK_len l r.s; omega) (by decide)
  have e0 : oIx4 r.d (.int 2) = some (.int r.s) := rfl
  have e1 : oIx4 r.d (.int 3) = some (oD r.t) := rfl
  unfold dateStep
  cases ht : r.t with
  | none =>
    rw [ht] at e1
    simp [e0, e1, oD, sPutA, putAt, isObj, Sl.mo, Sl.put, keyD, z1, putM_iK, oIsNot, isNone]
  | some t =>
    rw [ht] at e1
    by_cases h9 : t < 9999
    · simp [e0, e1, oD, sPutA, putAt, isObj, Sl.mo, Sl.put, keyD, z1, z2, putM_iK, oIsNot, isNone, h9]
    · simp [e0, e1, oD, sPutA, putAt, isObj, Sl.mo, Sl.put, keyD, z1, z2, putM_iK, oIsNot, isNone, h9]
theorem foldDates_len : ∀ (rs : List Row) (l : List Int), (rs.foldl dateStep l).length ≤ l.length + 2 * rs.length
  | [], l => by simp
  | r :: rs, l => by
    have := foldDates_len rs (dateStep l r)
    have := dateStep_len l r
    simp
    omega
theorem dates_spec (rows : List Row) (thr : Bool) (h : rows.length ≤ 20) : m_Allowances_dates [.v (bookD rows thr)] [] = some (.ok (.d (.lst ((srtI (rows.foldl dateStep [0])).map .int))), [.v (bookD rows thr)], []) := by
  unfold m_Allowances_dates g_Allowances_dates
  have loop : ∀ (rs : List Row) (b : Option D) (l : List Int), l.length + 2 * rs.length ≤ 900 → ∃ b', sLoop (gSl 2) l_Allowances_dates_0 (rs.map Row.d) (GE rows thr b l) = some (.nx, GE rows thr b' (rs.foldl dateStep l)) := by
    intro rs
    induction rs with
    | nil => exact fun b l _ => ⟨b, rfl⟩
    | cons r rs ih =>
      intro b l hl
      simp only [List.length_cons] at hl
      have hs := dateStep_len l r
      obtain ⟨b', q⟩ := ih (some r.d) (dateStep l r) (by omega)
      refine ⟨b', ?_⟩
      rw [List.map_cons, List.foldl_cons, ← q]
      have g : gSl 2 r.d (GE rows thr b l) = some (GE rows thr (some r.d) l) := by cases b <;> rfl
      conv => lhs; unfold sLoop
      rw [g]
      dsimp only
      rw [dates_row rows thr r l (by omega)]
  obtain ⟨b', q⟩ := loop rows none [0] (by simp; omega)
  have hlen := foldDates_len rows [0]
  generalize rows.foldl dateStep [0] = ks at q hlen
  simp at hlen
  have hf : sFor (eOf4 (eBind (eD (eFrz 0)) fun a => eOn a (oFld "Allowances" "own_rows"))) (gSl 2) l_Allowances_dates_0 ⟨[some (.v (bookD rows thr)), some (.o (.dK (mergeM [] [(.inl 0, .bl true)]))), none, none], []⟩ = some (.nx, GE rows thr b' ks) := by
    rw [sFor_on (ds := rows.map Row.d) (e1 := GE rows thr none [0]) (by simp [eOf4, oIter4, oFld_rows]; rfl)]
    exact q
  have key := eLc_map (v := 3) (fi := eOf4 (eFrz 1)) (el := eBind (eCons (eD (eFrz 3)) (eRet [])) (g1 fun a => eOn a oInt)) (e0 := GE rows thr b' ks) (e := ⟨[some (.v (bookD rows thr)), some (.v (.dK (iK (.bl true) ks))), ov b', none], []⟩) (ds := ks.map .int) (fun d => d) (by
    simp [eOf4, oIter4, keysOk_iK, keys_iK]) rfl (by rw [List.length_map]; exact small1 (by omega)) (fun d hd => by
    obtain ⟨z, hz, rfl⟩ := List.mem_map.mp hd
    simp [oInt])
  rw [List.map_id''] at key
  · have ho := oSrt4_ints ks (by omega)
    simp [-eLc_k, -sFor_k, hf, key, ho, eDict, eDisp, gDisp, keysP, keyD, backs]
  · exact fun _ => rfl
end Mir.Lk02

namespace Mir.Lk02
open PySem PySem.Spec PyProof.Rows L2 Mir
/-! ## Allowances: what the law makes -/
def spans : List (Int × Option Int) := [(0, none), (0, some 0), (0, some 2), (0, some 9999), (1, none), (1, some 1), (1, some 3), (1, some 9999), (2, none), (2, some 2), (2, some 4), (2, some 9999), (3, none), (3, some 3), (3, some 5), (3, some 9999)]
structure GoodR (r : Row) : Prop where
  a : wordB r.a = true
  b : wordB r.b = true
  ne : r.a ≠ r.b
  sp : (r.s, r.t) ∈ spans
def f5 (i : Int) : Str := intSpecTextOf "05" i
def tillT (t : Option Int) : Str := match t with
  | none => "x"
  | some t => f5 t
theorem f5_len : ∀ i ∈ [(0 : Int), 1, 2, 3, 4, 5, 9999], (f5 i).length = 5 := by decide +kernel
theorem spans_f : ∀ p ∈ spans, p.1 ∈ [(0 : Int), 1, 2, 3, 4, 5, 9999] ∧ ∀ t, p.2 = some t → t ∈ [(0 : Int), 1, 2, 3, 4, 5, 9999] ∧ p.1 ≤ t := by
  intro p hp
  simp only [spans, List.mem_cons, List.not_mem_nil, or_false] at hp
  rcases hp with h | h | h | h | h | h | h | h | h | h | h | h | h | h | h | h <;> subst h <;> simp
theorem till_inj : ∀ p ∈ spans, ∀ q ∈ spans, (f5 p.1 ++ " " ++ tillT p.2 : Str) = f5 q.1 ++ " " ++ tillT q.2 → p = q := by decide +kernel
theorem word_len {x : Str} (h : wordB x = true) : 1 ≤ x.length ∧ x.length ≤ 8 := by
  unfold wordB at h
  simp only [Bool.and_eq_true, decide_eq_true_eq] at h
  exact h.1
theorem word_let {x : Str} (h : wordB x = true) : ∀ c ∈ x.cps.toList, isL c = true := by
  unfold wordB at h
  simp only [Bool.and_eq_true, List.all_eq_true] at h
  exact h.2
theorem letL : ∀ c, isL c = true → c < 123 ∧ 96 < c := by
  intro c h
  unfold isL at h
  have h2 : c ∈ letters.cps.toList := by simpa using h
  have : ∀ c ∈ letters.cps.toList, c < 123 ∧ 96 < c := by decide +kernel
  exact this c h2
theorem word_str {x : Str} (h : wordB x = true) : PyData.strOk x = true := by
  cases x with
  | mk cps =>
    have : (⟨cps⟩ : Str) = ⟨cps.toList.toArray⟩ := by simp
    rw [this]
    exact word_ok fun c hc => by have := (letL c (word_let h c hc)).1; omega
theorem GoodR.okb {r : Row} (h : GoodR r) : r.ok = true := by
  unfold Row.ok
  rw [word_str h.a, word_str h.b]
  rfl
def textR (r : Row) : Str := r.a ++ " " ++ r.b ++ " " ++ f5 r.s ++ " " ++ tillT r.t
theorem len_app (x y : Str) : (x ++ y).length = x.length + y.length := str_add_len x y
theorem empty_app (x : Str) : Str.empty ++ x = x := by
  cases x with
  | mk c => show Str.mk (#[] ++ c) = _; simp
theorem text_spec (r : Row) (h : GoodR r) : m_text_of [.v r.d] [] = some (.ok (.d (.str (textR r))), [.v r.d], []) := by
  unfold m_text_of g_text_of
  obtain ⟨h1, h2⟩ := spans_f _ h.sp
  have a1 := word_len h.a
  have b1 := word_len h.b
  have s5 := f5_len _ h1
  have zs : ∀ n, n ≤ 1000 → n ≤ sizeLine := fun n => small1
  have q0 : oIx4 r.d (.int 0) = some (.str r.a) := rfl
  have q1 : oIx4 r.d (.int 1) = some (.str r.b) := rfl
  have q2 : oIx4 r.d (.int 2) = some (.int r.s) := rfl
  have q3 : oIx4 r.d (.int 3) = some (oD r.t) := rfl
  have big : ∀ i ∈ [(0 : Int), 1, 2, 3, 4, 5, 9999], i.natAbs < 1000000000000000000 := by decide
  have sp1 : (" " : Str).length = 1 := rfl
  have fm : ∀ x : Str, x.length ≤ 1000 → oFmt (.str x) = eRet x := fun x hx => by
    unfold oFmt
    exact if_pos (small1 hx)
  have fi : ∀ i ∈ [(0 : Int), 1, 2, 3, 4, 5, 9999], oFmtI "05" (.int i) = eRet (f5 i) := fun i hi => by
    unfold oFmtI
    exact if_pos (big i hi)
  have tl : (tillT r.t).length ≤ 5 ∧ (tillT r.t).length ≤ 1000 := by
    cases ht : r.t with
    | none => exact by decide
    | some t =>
      have := f5_len _ (h2 t ht).1
      show (f5 t).length ≤ 5 ∧ (f5 t).length ≤ 1000
      omega
  have J := eJs_all (e := ⟨[some (.v r.d), some (.v (.str (tillT r.t)))], []⟩) [eBind (e2 (eD (eFrz 0)) (eD (eRet (.int 0))) fun x y => eOn2 x y oIx4) oFmt, eRet " ", eBind (e2 (eD (eFrz 0)) (eD (eRet (.int 1))) fun x y => eOn2 x y oIx4) oFmt, eRet " ", eBind (e2 (eD (eFrz 0)) (eD (eRet (.int 2))) fun x y => eOn2 x y oIx4) (oFmtI "05"), eRet " ", eBind (eFrz 1) oFmt] [r.a, " ", r.b, " ", f5 r.s, " ", tillT r.t] Str.empty (by
    simp [q0, q1, q2, fm r.a (by omega), fm r.b (by omega), fi _ h1, fm _ tl.2]) (by
    refine small1 ?_
    have : (Str.empty).length = 0 := rfl
    simp [sp1, this, s5]
    omega)
  rw [show [r.a, " ", r.b, " ", f5 r.s, " ", tillT r.t].foldl (· ++ ·) Str.empty = textR r from by simp only [List.foldl_cons, List.foldl_nil, empty_app]; rfl] at J
  cases ht : r.t with
  | none =>
    rw [ht] at q3 J
    rw [show tillT none = "x" from rfl] at J
    simp [q0, q1, q2, q3, oD, isNone, J, backs]
  | some t =>
    rw [ht] at q3 J
    obtain ⟨t1, _⟩ := h2 t ht
    have t5 := f5_len _ t1
    rw [show tillT (some t) = f5 t from rfl] at J
    have t6 : (f5 t).length ≤ sizeLine := small1 (by omega)
    simp [q0, q1, q2, q3, oD, eStrOf, fi _ t1, isNone, J, t6, backs]
theorem text_inj {r q : Row} (h : GoodR r) (h' : GoodR q) (e : textR r = textR q) : r = q := by
  have e1 := congrArg (fun x : Str => x.cps.toList) e
  have sp : (" " : Str).cps.toList = [32] := rfl
  have nl : ∀ {x : Str}, wordB x = true → ∀ c ∈ x.cps.toList, c ≠ 32 := fun hx c hc => by
    have := (letL c (word_let hx c hc)).2
    omega
  have t : ∀ r : Row, (textR r).cps.toList = r.a.cps.toList ++ 32 :: (r.b.cps.toList ++ 32 :: (f5 r.s ++ " " ++ tillT r.t : Str).cps.toList) := fun r => by
    unfold textR
    simp only [app_cps, sp, List.append_assoc, List.cons_append, List.nil_append]
  simp only [t] at e1
  obtain ⟨g1, g2⟩ := split_at (nl h.a) (nl h'.a) e1
  obtain ⟨g3, g4⟩ := split_at (nl h.b) (nl h'.b) g2
  have g5 := till_inj _ h.sp _ h'.sp (str_extL g4)
  have g6 := str_extL g1
  have g7 := str_extL g3
  cases r; cases q
  simp only [Prod.mk.injEq] at g5 g6 g7 ⊢
  rw [g5.1, g5.2, g6, g7]
theorem text_len {r : Row} (h : GoodR r) : (textR r).length ≤ 100 := by
  obtain ⟨h1, h2⟩ := spans_f _ h.sp
  have a1 := word_len h.a
  have b1 := word_len h.b
  have s5 := f5_len _ h1
  have tl : (tillT r.t).length ≤ 5 := by
    cases ht : r.t with
    | none => exact by decide
    | some t =>
      have := f5_len _ (h2 t ht).1
      show (f5 t).length ≤ 5
      omega
  have sp1 : (" " : Str).length = 1 := rfl
  have s6 : (f5 r.s).length = 5 := s5
  unfold textR
  simp only [len_app, sp1]
  omega
theorem allow_spec (r : Row) (h : GoodR r) : m_is_allowance [.v r.d] [] = some (.ok (.d (.bl true)), [.v r.d], []) := by
  unfold m_is_allowance g_is_allowance
  obtain ⟨h1, h2⟩ := spans_f _ h.sp
  have q0 : oIx4 r.d (.int 0) = some (.str r.a) := rfl
  have q1 : oIx4 r.d (.int 1) = some (.str r.b) := rfl
  have q2 : oIx4 r.d (.int 2) = some (.int r.s) := rfl
  have q3 : oIx4 r.d (.int 3) = some (oD r.t) := rfl
  have i1 : oIsi r.d (.ty "tuple") = some (.bl true) := rfl
  have i2 : oLen r.d = some (.int 4) := rfl
  have ed : (r.a == r.b) = decide (r.a = r.b) := by rw [Bool.eq_iff_iff]; simp
  have ne : oEq (.str r.a) (.str r.b) = some (.bl false) := by rw [oEq_s _ _ (word_str h.a) (word_str h.b), ed, decide_eq_false h.ne]
  have bd : ∀ i ∈ [(0 : Int), 1, 2, 3, 4, 5, 9999], 0 ≤ i ∧ i ≤ 9999 := by decide
  have bs := bd _ h1
  have bs1 : 0 ≤ r.s := bs.1
  have bs2 : r.s ≤ 9999 := bs.2
  cases ht : r.t with
  | none =>
    rw [ht] at q3
    simp [q0, q1, q2, q3, i1, i2, isw_spec, h.a, h.b, ne, isDate_spec, bs1, bs2, oD, isNone, backs, eOrV, eAndV]
  | some t =>
    rw [ht] at q3
    obtain ⟨t1, t2⟩ := h2 t ht
    have bt := bd _ t1
    have t3 : r.s ≤ t := t2
    simp [q0, q1, q2, q3, i1, i2, isw_spec, h.a, h.b, ne, isDate_spec, bs1, bs2, oD, isNone, bt.1, bt.2, t3, backs, eOrV, eAndV]
end Mir.Lk02

namespace Mir.Lk02
open PySem PySem.Spec PyProof.Rows L2 Mir
/-! ## Allowances(rows, through=thr) -/
def selfS : Sl := .b (.ins "Allowances" [])
abbrev IE (rows : List Row) (thr : Bool) (b c : Option D) : ME := ⟨[some (.b (.ins "Allowances" [])), some (.v (.lst (rows.map Row.d))), some (.v (.bl thr)), ov b, ov c, none, none], []⟩
theorem init_row (rows : List Row) (thr : Bool) (i : Nat) (r : Row) (hg : ∀ r ∈ rows, GoodR r) (hn : rows.Nodup) (hi : rows[i]? = some r) : l_Allowances___init___0 (IE rows thr (some (.int i)) (some r.d)) = some (.nx, IE rows thr (some (.int i)) (some r.d)) := by
  unfold l_Allowances___init___0
  have hr : r ∈ rows := List.mem_of_getElem? hi
  have hlt : i < rows.length := (List.getElem?_eq_some_iff.mp hi).1
  have hc : cutD (rows.map Row.d) none (some (i : Int)) = (rows.map Row.d).take i := by
    rw [cutD_take _ _ (by simp; omega)]
  have hno : r ∉ rows.take i := by
    intro h
    obtain ⟨j, hj, e⟩ := List.mem_iff_getElem.mp h
    simp at hj e
    have := (List.getElem_inj hn (i := j) (j := i) (h₀ := by omega) (h₁ := hlt)).mp (by rw [e]; exact ((List.getElem?_eq_some_iff.mp hi).2).symm)
    omega
  have e1 : oIn4 r.d (.lst ((rows.map Row.d).take i)) = some (.bl false) := by
    rw [← List.map_take, oIn4_rows _ _ (List.all_eq_true.mpr fun q hq => (hg q (List.mem_of_mem_take hq)).okb) (hg r hr).okb, decide_eq_false hno]
  simp [allow_spec r (hg r hr), hc, e1]
theorem init_loop (rows : List Row) (thr : Bool) (hg : ∀ r ∈ rows, GoodR r) (hn : rows.Nodup) : ∀ (post : List Row) (i : Nat) (b c : Option D), (∀ j r, post[j]? = some r → rows[i + j]? = some r) → ∃ b' c', sLoop (gTupM [gSl 3, gSl 4]) l_Allowances___init___0 (enm i (post.map Row.d)) (IE rows thr b c) = some (.nx, IE rows thr b' c')
  | [], i, b, c, _ => ⟨b, c, rfl⟩
  | r :: post, i, b, c, h => by
    obtain ⟨b', c', q⟩ := init_loop rows thr hg hn post (i + 1) (some (.int i)) (some r.d) fun j q hq => by
      have := h (j + 1) q (by simpa using hq)
      rw [show i + 1 + j = i + (j + 1) by omega]
      exact this
    refine ⟨b', c', ?_⟩
    rw [List.map_cons]
    unfold enm sLoop
    have g : gTupM [gSl 3, gSl 4] (.tup [.int i, r.d]) (IE rows thr b c) = some (IE rows thr (some (.int i)) (some r.d)) := by
      cases b <;> cases c <;> rfl
    rw [g]
    dsimp only
    rw [init_row rows thr i r hg hn (by have := h 0 r rfl; simpa using this)]
    exact q
def findR (rows : List Row) (z : Str) : Row := (rows.find? fun r => decide (textR r = z)).getD ⟨Str.empty, Str.empty, 0, none⟩
theorem findR_of {rows : List Row} (hg : ∀ r ∈ rows, GoodR r) {r : Row} (hr : r ∈ rows) : findR rows (textR r) = r := by
  unfold findR
  cases hf : rows.find? fun q => decide (textR q = textR r) with
  | none =>
    have := List.find?_eq_none.mp hf r hr
    simp at this
  | some q =>
    have h1 := List.find?_some hf
    have h2 := List.mem_of_find?_eq_some hf
    exact text_inj (hg q h2) (hg r hr) (by simpa using h1)
def ownR (rows : List Row) : List Row := (srt (rows.map textR)).map (findR rows)
theorem mem_ownR {rows : List Row} (hg : ∀ r ∈ rows, GoodR r) (r : Row) : r ∈ ownR rows ↔ r ∈ rows := by
  unfold ownR
  simp only [List.mem_map, (srt_perm _).mem_iff]
  constructor
  · rintro ⟨z, ⟨q, hq, rfl⟩, e⟩
    rw [findR_of hg hq] at e
    exact e ▸ hq
  · intro h
    exact ⟨textR r, ⟨r, h, rfl⟩, findR_of hg h⟩
theorem ownR_len (rows : List Row) : (ownR rows).length = rows.length := by
  unfold ownR
  rw [List.length_map, (srt_perm _).length_eq, List.length_map]
theorem known_loop (rows : List Row) (thr : Bool) (hg : ∀ r ∈ rows, GoodR r) (b : Option D) : ∀ (post pre : List Row), pre ++ post = rows → rows.Nodup →
    dcLoop [4] (gSl 4) (eRet true) (eFz (eCall m_text_of (eCons (eD (eFrz 4)) (eRet [])))) (eFrz 4) (post.map Row.d) (tK textR Row.d pre) (IE rows thr b none) = some (tK textR Row.d rows, IE rows thr b none)
  | [], pre, h, _ => by
    rw [List.append_nil] at h
    subst h
    rfl
  | r :: post, pre, h, hn => by
    have hr : r ∈ rows := by rw [← h]; simp
    have hnew : ∀ q ∈ pre, textR q ≠ textR r := fun q hq e => by
      have hq2 : q ∈ rows := by rw [← h]; simp [hq]
      have := text_inj (hg q hq2) (hg r hr) e
      subst this
      rw [← h, List.nodup_append] at hn
      exact hn.2.2 q hq q List.mem_cons_self rfl
    have ih := known_loop rows thr hg b post (pre ++ [r]) (by simp [h]) hn
    rw [List.map_cons]
    unfold dcLoop
    have g : gSl 4 r.d (IE rows thr b none) = some (IE rows thr b (some r.d)) := rfl
    rw [g]
    have k1 : eFz (eCall m_text_of (eCons (eD (eFrz 4)) (eRet []))) (IE rows thr b (some r.d)) = some (.ok (.str (textR r)), IE rows thr b (some r.d)) := by
      simp [text_spec r (hg r hr)]
    have k2 : eFrz 4 (IE rows thr b (some r.d)) = some (.ok r.d, IE rows thr b (some r.d)) := rfl
    have k0 : (eRet true : EF Bool) (IE rows thr b (some r.d)) = some (.ok true, IE rows thr b (some r.d)) := rfl
    have kd : keyD (.str (textR r)) = some (.inr (textR r)) := rfl
    simp only [k0, k1, k2, kd, putM_tK textR Row.d pre r hnew]
    exact ih
theorem init_spec (rows : List Row) (thr : Bool) (hg : ∀ r ∈ rows, GoodR r) (hn : rows.Nodup) (hl : rows.length ≤ 12) :
    m_Allowances___init__ [.b (.ins "Allowances" []), .v (.lst (rows.map Row.d)), .v (.bl thr)] [] = some (.ok (.d .non), [.b (.ins "Allowances" [("own_rows", .lst ((ownR rows).map Row.d)), ("own_through", .bl thr)]), .v (.lst (rows.map Row.d)), .v (.bl thr)], []) := by
  unfold m_Allowances___init__ g_Allowances___init__
  obtain ⟨b', c', loop⟩ := init_loop rows thr hg hn rows 0 none none fun j r h => by rw [Nat.zero_add]; exact h
  have hf : sFor (eBind (eCons (eD (eFrz 1)) (eRet [])) gEnm4) (gTupM [gSl 3, gSl 4]) l_Allowances___init___0 (IE rows thr none none) = some (.nx, IE rows thr b' c') := by
    rw [sFor_on (ds := enm 0 (rows.map Row.d)) (e1 := IE rows thr none none) (by simp [gEnm4, lsOf])]
    exact loop
  replace hf : sFor _ _ _ (⟨[some (.b (.ins "Allowances" [])), some (.v (.lst (rows.map Row.d))), some (.v (.bl thr)), none, none, none, none], []⟩ : ME) = some (.nx, IE rows thr b' c') := hf
  have i1 : oIsi (.lst (rows.map Row.d)) (.tup [.ty "list", .ty "tuple"]) = some (.bl true) := rfl
  have kn := known_loop rows thr hg b' rows [] rfl hn
  have t0 : tK textR Row.d [] = [] := rfl
  rw [t0] at kn
  have dc : eDc [4] (eOf4 (eFrz 1)) (gSl 4) (eRet true) (eFz (eCall m_text_of (eCons (eD (eFrz 4)) (eRet [])))) (eFrz 4) (IE rows thr b' none) = some (.ok (.o (.dK (tK textR Row.d rows))), IE rows thr b' none) := by
    have it : eOf4 (eFrz 1) (IE rows thr b' none) = some (.ok (rows.map Row.d), IE rows thr b' none) := by simp [eOf4, oIter4]
    unfold eDc
    rw [eBind_k, it]
    show (if _ then _ else _) = _
    rw [if_pos ⟨rfl, by rw [List.length_map]; exact small1 (by omega)⟩, kn]
  have hh := eHide_on (v := 4) (e := IE rows thr b' c') (o := c') (by cases c' <;> rfl) dc
  have tz : ∀ a ∈ rows, (textR a).length ≤ sizeLine := fun a ha => small1 (by have := text_len (hg a ha); omega)
  have key1 := eLc_map (v := 6) (fi := eOf4 (eFrz 5)) (el := eBind (eCons (eD (eFrz 6)) (eRet [])) (g1 fun a => eOn a oStr)) (e0 := ⟨[some (.b (.ins "Allowances" [])), some (.v (.lst (rows.map Row.d))), some (.v (.bl thr)), ov b', ov c', some (.o (.dK (tK textR Row.d rows))), none], []⟩)
    (e := ⟨[some (.b (.ins "Allowances" [])), some (.v (.lst (rows.map Row.d))), some (.v (.bl thr)), ov b', ov c', some (.v (.dK (tK textR Row.d rows))), none], []⟩) (ds := (rows.map textR).map .str) (fun d => d) (by
    simp [-List.map_map, eOf4, oIter4, keysOk_tK textR Row.d rows tz, keys_tK]) rfl (by rw [List.length_map, List.length_map]; exact small1 (by omega)) (fun d hd => by
    obtain ⟨z, hz, rfl⟩ := List.mem_map.mp hd
    simp [oStr])
  rw [List.map_id''] at key1
  · have ho := oSrt4_strs (rows.map textR) (by rw [List.length_map]; omega)
    have key2 := eLc_map (v := 6) (fi := eOf4 (eBind (eCons (eD (eFz (eLc [6] (eOf4 (eFrz 5)) (gSl 6) (eRet true) (eBind (eCons (eD (eFrz 6)) (eRet [])) (g1 fun a => eOn a oStr))))) (eRet [])) (g1 fun a => eOn a oSrt4))) (el := e2 (eD (eFrz 5)) (eD (eFrz 6)) fun x y => eOn2 x y oIx4) (e0 := ⟨[some (.b (.ins "Allowances" [])), some (.v (.lst (rows.map Row.d))), some (.v (.bl thr)), ov b', ov c', some (.o (.dK (tK textR Row.d rows))), none], []⟩)
      (e := ⟨[some (.b (.ins "Allowances" [])), some (.v (.lst (rows.map Row.d))), some (.v (.bl thr)), ov b', ov c', some (.v (.dK (tK textR Row.d rows))), none], []⟩) (ds := (srt (rows.map textR)).map .str) (fun d => (findR rows (strOf d)).d) (by
      simp [-eLc_k, -List.map_map, eOf4_k, oIter4, key1, ho]) rfl (by rw [List.length_map, (srt_perm _).length_eq, List.length_map]; exact small1 (by omega)) (fun d hd => by
      obtain ⟨z, hz, rfl⟩ := List.mem_map.mp hd
      obtain ⟨r, hr, rfl⟩ := List.mem_map.mp ((srt_perm _).mem_iff.mp hz)
      have lk := lookD_tK textR Row.d hr fun q hq e => text_inj (hg q hq) (hg r hr) e
      have e9 : oIx4 (.dK (tK textR Row.d rows)) (.str (textR r)) = some r.d := by
        have n1 : oIx (.dK (tK textR Row.d rows)) (.str (textR r)) = none := rfl
        unfold oIx4
        rw [n1]
        exact lk
      rw [strOf_s, findR_of hg hr]
      simp [e9])
    have eo : ((srt (rows.map textR)).map D.str).map (fun d => (findR rows (strOf d)).d) = (ownR rows).map Row.d := by
      unfold ownR
      rw [List.map_map, List.map_map]
      rfl
    rw [eo] at key2
    have hl' : ¬ (12 : Int) < rows.length := by omega
    simp [-eLc_k, -sFor_k, -List.map_map, i1, kT_some, hf, hh, key2, hl', backs, sPutF, insAt, Sl.mo, Sl.put, putD, oBool]
    decide
  · exact fun _ => rfl
end Mir.Lk02

namespace Mir.Lk02
open PySem PySem.Spec PyProof.Rows L2 Mir
/-! ## draws: parts, books -/
abbrev pool (a b : Int) : Sl := .b (.lst [.int a, .int b])
theorem atI_in {xs : List D} {r : Int} (h0 : 0 ≤ r) (h1 : r < xs.length) : ∃ d ∈ xs, atI xs r = some d := by
  have hr : r = ((r.toNat : Nat) : Int) := (Int.toNat_of_nonneg h0).symm
  have hl : r.toNat < xs.length := by omega
  refine ⟨xs[r.toNat], List.getElem_mem hl, ?_⟩
  have := atI_nat xs r.toNat (List.getElem?_eq_getElem hl)
  rw [← hr] at this
  exact this
theorem pick_spec (a b : Int) (xs : List D) (h : PoolOk a b) (hx : 0 < xs.length) (hz : xs.length ≤ 100) : ∃ d ∈ xs, ∃ a' b', m__law_pick [pool a b, .v (.lst xs)] [] = some (.ok (.d d), [pool a' b', .v (.lst xs)], []) ∧ PoolOk a' b' := by
  unfold m__law_pick g__law_pick
  obtain ⟨r, a', b', q, h', r0, r1⟩ := draw_spec a b xs.length h (by omega) (by
    have : (xs.length : Int).natAbs = xs.length := by omega
    rw [this]
    have h2 : xs.length.log2 ≤ 100 := by
      have := Nat.log2_le_self xs.length
      omega
    omega)
  obtain ⟨d, hd, e⟩ := atI_in r0 r1
  refine ⟨d, hd, a', b', ?_, h'⟩
  simp [q, e, oIx4, backs]
theorem word_parts : ∀ k ∈ List.range 26, ∀ t ∈ [("" : Str), "q", "abcdefg"], wordB ((⟨#[97 + k]⟩ : Str) ++ t) = true := by decide +kernel
theorem oIx_letters (i : Int) (h0 : 0 ≤ i) (h1 : i < 26) : oIx4 (.str "abcdefghijklmnopqrstuvwxyz") (.int i) = some (.str ⟨#[97 + i.toNat]⟩) := by
  have : i = 0 ∨ i = 1 ∨ i = 2 ∨ i = 3 ∨ i = 4 ∨ i = 5 ∨ i = 6 ∨ i = 7 ∨ i = 8 ∨ i = 9 ∨ i = 10 ∨ i = 11 ∨ i = 12 ∨ i = 13 ∨ i = 14 ∨ i = 15 ∨ i = 16 ∨ i = 17 ∨ i = 18 ∨ i = 19 ∨ i = 20 ∨ i = 21 ∨ i = 22 ∨ i = 23 ∨ i = 24 ∨ i = 25 := by omega
  rcases this with h | h | h | h | h | h | h | h | h | h | h | h | h | h | h | h | h | h | h | h | h | h | h | h | h | h <;> subst h <;> rfl
theorem parts_spec (a b : Int) (h : PoolOk a b) : ∃ ws : List Str, ∃ a' b', m__law_parts [pool a b, .v (.int 4)] [] = some (.ok (.o (.lst (ws.map .str))), [pool a' b', .v (.int 4)], []) ∧ PoolOk a' b' ∧ ws.length = 4 ∧ ∀ w ∈ ws, wordB w = true := by
  unfold m__law_parts g__law_parts
  obtain ⟨r, a1, b1, q1, h1, r0, r1⟩ := draw_spec a b 26 h (by omega) (by decide)
  obtain ⟨s, a2, b2, q2, h2, s0, s1⟩ := draw_spec a1 b1 6 h1 (by omega) (by decide)
  obtain ⟨d, hd, a3, b3, q3, h3⟩ := pick_spec a2 b2 [.str "", .str "", .str "q", .str "abcdefg"] h2 (by decide) (by decide)
  have ht : ∃ t ∈ [("" : Str), "q", "abcdefg"], d = .str t := by
    simp only [List.mem_cons, List.not_mem_nil, or_false] at hd
    rcases hd with h | h | h | h <;> subst h
    · exact ⟨"", by simp, rfl⟩
    · exact ⟨"", by simp, rfl⟩
    · exact ⟨"q", by simp, rfl⟩
    · exact ⟨"abcdefg", by simp, rfl⟩
  obtain ⟨t, htm, rfl⟩ := ht
  have key := eLc_map (v := 6) (fi := eBind (eCons (eD (eFrz 1)) (eRet [])) gRng1) (el := e2 (eD (e2 (eD (eFrz 2)) (eD (e2 (eD (eBind (eCons (eD (e2 (eD (eFrz 3)) (eD (e2 (eD (eFrz 4)) (eD (eFrz 6)) fun x y => eOn2 x y oMul)) fun x y => eOn2 x y oAdd)) (eRet [])) (g1 fun a => eOn a oInt))) (eD (eRet (.int 26))) fun x y => eOn2 x y oMod)) fun x y => eOn2 x y oIx4)) (eD (eFrz 5)) fun x y => eOn2 x y oAdd)
    (e0 := ⟨[some (pool a3 b3), some (.v (.int 4)), some (.v (.str "abcdefghijklmnopqrstuvwxyz")), some (.v (.int r)), some (.v (.int (1 + 2 * s))), some (.v (.str t)), none], []⟩) (e := ⟨[some (pool a3 b3), some (.v (.int 4)), some (.v (.str "abcdefghijklmnopqrstuvwxyz")), some (.v (.int r)), some (.v (.int (1 + 2 * s))), some (.v (.str t)), none], []⟩) (ds := rng 0 4) (fun d => match d with
    | .int k => .str ((⟨#[97 + ((r + (1 + 2 * s) * k) % 26).toNat]⟩ : Str) ++ t)
    | _ => .non) (by simp [gRng1]) rfl (by decide) (fun d hd => by
      obtain ⟨k, rfl⟩ : ∃ k : Int, d = .int k := by
        obtain ⟨i, _, e⟩ := List.mem_map.mp hd
        exact ⟨_, e.symm⟩
      have m1 : oMul (.int (1 + 2 * s)) (.int k) = some (.int ((1 + 2 * s) * k)) := oMul_l _ _ (by omega) (by omega)
      have tz : t.length ≤ 7 := by
        simp only [List.mem_cons, List.not_mem_nil, or_false] at htm
        rcases htm with h | h | h <;> subst h <;> decide
      have one : ∀ c : Nat, (⟨#[c]⟩ : Str).length = 1 := fun c => rfl
      have tz2 : 1 + t.length ≤ sizeLine := small1 (by omega)
      have fin : ∀ k : Int, oAdd (.str ⟨#[97 + ((r + (1 + 2 * s) * k) % 26).toNat]⟩) (.str t) = some (.str ((⟨#[97 + ((r + (1 + 2 * s) * k) % 26).toNat]⟩ : Str) ++ t)) := fun k => by
        unfold oAdd
        exact if_pos (by rw [one]; exact tz2)
      have ixl : ∀ k : Int, oIx4 (.str "abcdefghijklmnopqrstuvwxyz") (.int ((r + (1 + 2 * s) * k) % 26)) = some (.str ⟨#[97 + ((r + (1 + 2 * s) * k) % 26).toNat]⟩) := fun k => oIx_letters _ (Int.emod_nonneg _ (by decide)) (Int.emod_lt_of_pos _ (by decide))
      simp [m1, oInt, oMod_i, ixl, fin])
  simp [-eLc_k, q1, q2, q3, oMul_l, oMul_r, sTo, kT_some, kL_some, key, backs]
  refine ⟨(List.range 4).map fun i => (⟨#[97 + ((r + (1 + 2 * s) * ((0 : Int) + (i : Nat))) % 26).toNat]⟩ : Str) ++ t, a3, b3, ⟨?_, rfl, rfl⟩, h3, by simp, ?_⟩
  · unfold rng
    rw [List.map_map, List.map_map]
    rfl
  · intro w hw
    obtain ⟨i, _, rfl⟩ := List.mem_map.mp hw
    refine word_parts _ (List.mem_range.mpr ?_) t htm
    have h0 : 0 ≤ (r + (1 + 2 * s) * ((0 : Int) + (i : Nat))) % 26 := Int.emod_nonneg _ (by decide)
    have h1 : (r + (1 + 2 * s) * ((0 : Int) + (i : Nat))) % 26 < 26 := Int.emod_lt_of_pos _ (by decide)
    omega
@[simp] theorem kIsB_ov (o : Option D) : kIsB (some (ov o)) = false := by cases o <;> rfl
abbrev BE (a b : Int) (ws : List Str) (n : Int) (rows : List Row) (o4 o5 o6 o7 o8 : Option D) : ME := ⟨[some (pool a b), some (.v (.lst (ws.map .str))), some (.v (.int n)), some (.o (.lst (rows.map Row.d))), ov o4, ov o5, ov o6, ov o7, ov o8], []⟩
structure Book (rows : List Row) : Prop where
  good : ∀ r ∈ rows, GoodR r
  nd : rows.Nodup
theorem spans_mem (s : Int) (h0 : 0 ≤ s) (h1 : s < 4) : (s, none) ∈ spans ∧ (s, some s) ∈ spans ∧ (s, some (s + 2)) ∈ spans ∧ (s, some 9999) ∈ spans := by
  have : s = 0 ∨ s = 1 ∨ s = 2 ∨ s = 3 := by omega
  rcases this with h | h | h | h <;> subst h <;> decide
theorem book_turn (a b : Int) (ws : List Str) (n : Int) (rows : List Row) (o4 o5 o6 o7 o8 : Option D) (h : PoolOk a b) (hw : ∀ w ∈ ws, wordB w = true) (hl : ws.length = 4) (hb : Book rows) (hz : rows.length ≤ 20) :
    ∃ a' b' rows' p5 p6 p7 p8, l__law_book_0 (BE a b ws n rows o4 o5 o6 o7 o8) = some (.nx, BE a' b' ws n rows' o4 p5 p6 p7 p8) ∧ PoolOk a' b' ∧ Book rows' ∧ rows'.length ≤ rows.length + 1 := by
  unfold l__law_book_0
  obtain ⟨d1, hd1, a1, b1, q1, h1⟩ := pick_spec a b (ws.map .str) h (by simp [hl]) (by simp [hl])
  obtain ⟨x, hx, rfl⟩ := List.mem_map.mp hd1
  obtain ⟨d2, hd2, a2, b2, q2, h2⟩ := pick_spec a1 b1 (ws.map .str) h1 (by simp [hl]) (by simp [hl])
  obtain ⟨y, hy, rfl⟩ := List.mem_map.mp hd2
  obtain ⟨s, a3, b3, q3, h3, s0, s1⟩ := draw_spec a2 b2 4 h2 (by omega) (by decide)
  obtain ⟨d4, hd4, a4, b4, q4, h4⟩ := pick_spec a3 b3 [.non, .non, .int s, .int (s + 2), .int 9999] h3 (by simp) (by simp)
  have ht : ∃ t, d4 = oD t ∧ (s, t) ∈ spans := by
    obtain ⟨m1, m2, m3, m4⟩ := spans_mem s s0 s1
    simp only [List.mem_cons, List.not_mem_nil, or_false] at hd4
    rcases hd4 with h | h | h | h | h <;> subst h
    · exact ⟨none, rfl, m1⟩
    · exact ⟨none, rfl, m1⟩
    · exact ⟨some s, rfl, m2⟩
    · exact ⟨some (s + 2), rfl, m3⟩
    · exact ⟨some 9999, rfl, m4⟩
  obtain ⟨t, rfl, hsp⟩ := ht
  have nx : oNe (.str x) (.str y) = some (.bl (!decide (x = y))) := by
    have ed : (x == y) = decide (x = y) := by rw [Bool.eq_iff_iff]; simp
    rw [oNe_s _ _ (word_str (hw x hx)) (word_str (hw y hy)), ed]
  have hrow : (D.tup [.str x, .str y, .int s, oD t]) = Row.d ⟨x, y, s, t⟩ := rfl
  by_cases hxy : x = y
  · refine ⟨a4, b4, rows, some (.str x), some (.str y), some (.int s), some (.tup [.str x, .str y, .int s, oD t]), ?_, h4, hb, by omega⟩
    rw [decide_eq_true hxy] at nx
    simp [q1, q2, q3, q4, kT_some, kL_some, sPar3, nx]
  · rw [decide_eq_false hxy] at nx
    have gr : GoodR ⟨x, y, s, t⟩ := ⟨hw x hx, hw y hy, hxy, hsp⟩
    have hin := oNotIn4_rows rows ⟨x, y, s, t⟩ (List.all_eq_true.mpr fun r hr => (hb.good r hr).okb) gr.okb
    rw [← hrow] at hin
    by_cases hm : (⟨x, y, s, t⟩ : Row) ∈ rows
    · refine ⟨a4, b4, rows, some (.str x), some (.str y), some (.int s), some (.tup [.str x, .str y, .int s, oD t]), ?_, h4, hb, by omega⟩
      rw [decide_eq_true hm] at hin
      simp [q1, q2, q3, q4, kT_some, kL_some, sPar3, nx, hin]
    · refine ⟨a4, b4, rows ++ [⟨x, y, s, t⟩], some (.str x), some (.str y), some (.int s), some (.tup [.str x, .str y, .int s, oD t]), ?_, h4, ⟨fun r hr => ?_, ?_⟩, by simp⟩
      · rw [decide_eq_false hm] at hin
        have hsz : rows.length < sizeLine := Nat.lt_of_le_of_lt hz (by decide)
        simp [q1, q2, q3, q4, kT_some, kL_some, sPar3, nx, hin, kM2, oAppend, hsz]
        rfl
      · rcases List.mem_append.mp hr with hr | hr
        · exact hb.good r hr
        · simp at hr
          exact hr ▸ gr
      · rw [List.nodup_append]
        exact ⟨hb.nd, by simp, fun u hu v hv e => by simp at hv; subst hv; exact hm (e ▸ hu)⟩
theorem book_loop (ws : List Str) (n : Int) (hw : ∀ w ∈ ws, wordB w = true) (hl : ws.length = 4) : ∀ (ds : List D) (a b : Int) (rows : List Row) (o4 o5 o6 o7 o8 : Option D), PoolOk a b → Book rows → rows.length + ds.length ≤ 20 →
    ∃ a' b' rows' p4 p5 p6 p7 p8, sLoop (gSl 4) l__law_book_0 ds (BE a b ws n rows o4 o5 o6 o7 o8) = some (.nx, BE a' b' ws n rows' p4 p5 p6 p7 p8) ∧ PoolOk a' b' ∧ Book rows' ∧ rows'.length ≤ rows.length + ds.length
  | [], a, b, rows, o4, o5, o6, o7, o8, h, hb, hz => ⟨a, b, rows, o4, o5, o6, o7, o8, rfl, h, hb, by simp⟩
  | d :: ds, a, b, rows, o4, o5, o6, o7, o8, h, hb, hz => by
    simp only [List.length_cons] at hz
    obtain ⟨a1, b1, r1, p5, p6, p7, p8, q, h1, hb1, hz1⟩ := book_turn a b ws n rows (some d) o5 o6 o7 o8 h hw hl hb (by omega)
    obtain ⟨a', b', rows', c4, c5, c6, c7, c8, q2, h2, hb2, hz2⟩ := book_loop ws n hw hl ds a1 b1 r1 (some d) p5 p6 p7 p8 h1 hb1 (by omega)
    refine ⟨a', b', rows', c4, c5, c6, c7, c8, ?_, h2, hb2, by simp only [List.length_cons]; omega⟩
    have g : gSl 4 d (BE a b ws n rows o4 o5 o6 o7 o8) = some (BE a b ws n rows (some d) o5 o6 o7 o8) := by cases o4 <;> rfl
    unfold sLoop
    rw [g]
    dsimp only
    rw [q]
    exact q2
theorem book_spec (a b : Int) (ws : List Str) (n : Int) (h : PoolOk a b) (hw : ∀ w ∈ ws, wordB w = true) (hl : ws.length = 4) (h0 : 0 ≤ n) (h1 : n ≤ 7) :
    ∃ rows a' b', m__law_book [pool a b, .v (.lst (ws.map .str)), .v (.int n)] [] = some (.ok (.o (.lst (rows.map Row.d))), [pool a' b', .v (.lst (ws.map .str)), .v (.int n)], []) ∧ PoolOk a' b' ∧ Book rows ∧ rows.length ≤ 7 := by
  unfold m__law_book g__law_book
  have rl : (rng 0 n.toNat).length = n.toNat := by unfold rng; simp
  obtain ⟨a', b', rows, p4, p5, p6, p7, p8, q, h2, hb, hz⟩ := book_loop ws n hw hl (rng 0 n.toNat) a b [] none none none none none h ⟨fun r hr => by simp at hr, by simp⟩ (by rw [rl]; simp; omega)
  rw [rl] at hz
  refine ⟨rows, a', b', ?_, h2, hb, by have e0 : ([] : List Row).length = 0 := rfl; rw [e0] at hz; omega⟩
  have hf : sFor (eBind (eCons (eD (eFrz 2)) (eRet [])) gRng1) (gSl 4) l__law_book_0 ⟨[some (pool a b), some (.v (.lst (ws.map .str))), some (.v (.int n)), some (.o (.lst [])), none, none, none, none, none], []⟩ = some (.nx, BE a' b' ws n rows p4 p5 p6 p7 p8) := by
    rw [sFor_on (ds := rng 0 n.toNat) (e1 := BE a b ws n [] none none none none none) (by
      have z : -(2 ^ 62) ≤ n ∧ n < 2 ^ 62 := by omega
      simp [gRng1]
      rw [if_pos (by omega)]
      rfl)]
    exact q
  simp [-sFor_k, hf, kL_some, backs]
end Mir.Lk02

namespace Mir.Lk02
open PySem PySem.Spec PyProof.Rows L2 Mir
/-! ## the dates at which something may change: the plain law -/
theorem atI_last (xs : List D) (x : D) (h : xs.getLast? = some x) : atI xs (-1) = some x := by
  have hn : 0 < xs.length := by
    cases xs with
    | nil => simp at h
    | cons a l => simp
  rw [List.getLast?_eq_getElem?] at h
  have c3 : (-1 + (xs.length : Int)).toNat = xs.length - 1 := by omega
  unfold atI ixN
  rw [if_neg (by omega), if_pos (by omega), c3]
  exact h
def dts (rows : List Row) : List Int := srtI (rows.foldl dateStep [0])
theorem step_mem {l : List Int} {r : Row} {x : Int} : x ∈ dateStep l r ↔ x ∈ l ∨ x = r.s ∨ ∃ t, r.t = some t ∧ t < 9999 ∧ x = t + 1 := by
  unfold dateStep
  cases r.t with
  | none => simp [addK_mem]
  | some t =>
    by_cases h : t < 9999
    · simp only [h, if_true, addK_mem, Option.some.injEq]
      constructor
      · rintro ((h1 | h1) | h1)
        · exact .inl h1
        · exact .inr (.inl h1)
        · exact .inr (.inr ⟨t, rfl, h, h1⟩)
      · rintro (h1 | h1 | ⟨t', e, _, h1⟩)
        · exact .inl (.inl h1)
        · exact .inl (.inr h1)
        · exact .inr (by rw [e]; exact h1)
    · simp only [h, if_false, addK_mem, Option.some.injEq]
      constructor
      · rintro (h1 | h1)
        · exact .inl h1
        · exact .inr (.inl h1)
      · rintro (h1 | h1 | ⟨t', e, h2, _⟩)
        · exact .inl h1
        · exact .inr h1
        · exact absurd (e ▸ h2) h
theorem steps_mem : ∀ {rs : List Row} {l : List Int} {x : Int}, x ∈ rs.foldl dateStep l ↔ x ∈ l ∨ ∃ r ∈ rs, x = r.s ∨ ∃ t, r.t = some t ∧ t < 9999 ∧ x = t + 1
  | [], l, x => by simp
  | r :: rs, l, x => by
    rw [List.foldl_cons, steps_mem, step_mem]
    simp only [List.mem_cons]
    constructor
    · rintro ((h | h) | ⟨q, hq, h⟩)
      · exact .inl h
      · exact .inr ⟨r, .inl rfl, h⟩
      · exact .inr ⟨q, .inr hq, h⟩
    · rintro (h | ⟨q, rfl | hq, h⟩)
      · exact .inl (.inl h)
      · exact .inl (.inr h)
      · exact .inr ⟨q, hq, h⟩
theorem step_nd {l : List Int} {r : Row} (h : l.Nodup) : (dateStep l r).Nodup := by
  unfold dateStep
  split
  · exact addK_nd h
  · split
    · exact addK_nd (addK_nd h)
    · exact addK_nd h
theorem steps_nd : ∀ {rs : List Row} {l : List Int}, l.Nodup → (rs.foldl dateStep l).Nodup
  | [], l, h => h
  | r :: rs, l, h => steps_nd (rs := rs) (l := dateStep l r) (step_nd h)
theorem mem_dts {rows : List Row} {x : Int} : x ∈ dts rows ↔ x = 0 ∨ ∃ r ∈ rows, x = r.s ∨ ∃ t, r.t = some t ∧ t < 9999 ∧ x = t + 1 := by
  unfold dts
  rw [(srtI_perm _).mem_iff, steps_mem]
  simp
theorem last_max : ∀ {l : List Int}, l.Pairwise (· ≤ ·) → ∀ {m : Int}, l.getLast? = some m → ∀ x ∈ l, x ≤ m
  | [], _, m, h, x, hx => by simp at hx
  | [a], _, m, h, x, hx => by
    simp at h hx
    omega
  | a :: b :: l, hp, m, h, x, hx => by
    obtain ⟨h1, h2⟩ := List.pairwise_cons.mp hp
    have h3 : (b :: l).getLast? = some m := by simpa using h
    have ih := last_max h2 h3
    rcases List.mem_cons.mp hx with rfl | hx
    · exact Int.le_trans (h1 b List.mem_cons_self) (ih b List.mem_cons_self)
    · exact ih x hx
structure Start (rows : List Row) (date s : Int) : Prop where
  lo : 0 ≤ s
  hi : s ≤ date
  opn : ∀ r ∈ rows, r.opn date = r.opn s
theorem start_ok {rows : List Row} (hg : ∀ r ∈ rows, GoodR r) {date : Int} (h0 : 0 ≤ date) (h9 : date ≤ 9999) : ∃ s, ((dts rows).filter fun x => decide (x ≤ date)).getLast? = some s ∧ Start rows date s := by
  have hz : (0 : Int) ∈ (dts rows).filter fun x => decide (x ≤ date) := List.mem_filter.mpr ⟨mem_dts.mpr (.inl rfl), decide_eq_true h0⟩
  cases hl : ((dts rows).filter fun x => decide (x ≤ date)).getLast? with
  | none =>
    rw [List.getLast?_eq_none_iff] at hl
    rw [hl] at hz
    simp at hz
  | some s =>
    refine ⟨s, rfl, ?_⟩
    have hp : ((dts rows).filter fun x => decide (x ≤ date)).Pairwise (· ≤ ·) := (srtI_pw _).filter _
    have mx := last_max hp hl
    have hs := List.mem_of_getLast? hl
    obtain ⟨hs1, hs2⟩ := List.mem_filter.mp hs
    have hs3 : s ≤ date := by simpa using hs2
    refine ⟨mx 0 hz, hs3, fun r hr => ?_⟩
    have m1 : r.s ≤ date → r.s ≤ s := fun h => mx _ (List.mem_filter.mpr ⟨mem_dts.mpr (.inr ⟨r, hr, .inl rfl⟩), decide_eq_true h⟩)
    have e1 : decide (r.s ≤ date) = decide (r.s ≤ s) := decide_eq_decide.mpr ⟨m1, fun h => by omega⟩
    unfold Row.opn
    rw [e1]
    congr 1
    unfold tillOk
    cases ht : r.t with
    | none => rfl
    | some t =>
      refine decide_eq_decide.mpr ⟨fun h => by omega, fun h => ?_⟩
      by_cases h9t : t < 9999
      · apply Decidable.byContradiction
        intro hc
        have := mx (t + 1) (List.mem_filter.mpr ⟨mem_dts.mpr (.inr ⟨r, hr, .inr ⟨t, ht, h9t, rfl⟩⟩), decide_eq_true (by omega)⟩)
        omega
      · omega
/-- what the law takes for the dates -/
def dueD (rows : List Row) : List Int := (0 :: rows.map (·.s)) ++ rows.filterMap fun r => r.t.map (· + 1)
theorem due_same {rows own : List Row} (hg : ∀ r ∈ rows, GoodR r) (hm : ∀ r, r ∈ own ↔ r ∈ rows) : srtI (((dueD rows).filter fun x => decide (x < 10000)).foldl addK []) = dts own := by
  unfold dts
  refine srtI_same (foldK_nd (by simp)) (steps_nd (by simp)) fun x => ?_
  rw [foldK_mem, steps_mem]
  unfold dueD
  simp only [List.not_mem_nil, false_or, List.mem_filter, List.mem_append, List.mem_cons, List.mem_map, List.mem_filterMap, decide_eq_true_eq, or_false, Option.map_eq_some_iff]
  constructor
  · rintro ⟨(h | ⟨r, hr, rfl⟩) | ⟨r, hr, t, ht, rfl⟩, hx⟩
    · exact .inl h
    · exact .inr ⟨r, (hm r).mpr hr, .inl rfl⟩
    · exact .inr ⟨r, (hm r).mpr hr, .inr ⟨t, ht, by omega, rfl⟩⟩
  · rintro (h | ⟨r, hr, h | ⟨t, ht, h9, h⟩⟩)
    · exact ⟨.inl (.inl h), by omega⟩
    · have := spans_f _ (hg r ((hm r).mp hr)).sp
      have bd : ∀ i ∈ [(0 : Int), 1, 2, 3, 4, 5, 9999], 0 ≤ i ∧ i ≤ 9999 := by decide
      have := (bd _ this.1).2
      exact ⟨.inl (.inr ⟨r, (hm r).mp hr, h.symm⟩), by have : r.s ≤ 9999 := this; omega⟩
    · exact ⟨.inr ⟨r, (hm r).mp hr, t, ht, h.symm⟩, by omega⟩
end Mir.Lk02

namespace Mir.Lk02
open PySem PySem.Spec PyProof.Rows L2 Mir
/-! ## the law, turn by turn -/
abbrev LE (ns : List Int) (k : D) (x2 x3 x4 : Option Sl) (o5 o6 o7 o8 o9 o10 o11 : Option D) : ME := ⟨[some (.v (.frl (ns.map .int))), some (.v k), x2, x3, x4, ov o5, ov o6, ov o7, ov o8, ov o9, ov o10, ov o11, none, none], []⟩
theorem Book.ok {rows : List Row} (h : Book rows) (hl : rows.length ≤ 60) : RowsOk rows := ⟨fun r hr => (h.good r hr).okb, hl⟩
theorem own_ok {rows : List Row} (h : Book rows) (hl : rows.length ≤ 60) : RowsOk (ownR rows) := ⟨fun r hr => (h.good r ((mem_ownR h.good r).mp hr)).okb, by rw [ownR_len]; exact hl⟩
def dueL (rows : List Row) (thr : Bool) (x : Str) (date : Int) : List Str := x :: srt ((foundL rows thr x date).drop 1)
theorem dueL_ok {rows : List Row} (h : RowsOk rows) (thr : Bool) (x : Str) (date : Int) (hx : PyData.strOk x = true) : (dueL rows thr x date).all PyData.strOk = true := by
  refine List.all_eq_true.mpr fun z hz => ?_
  rcases List.mem_cons.mp hz with rfl | hz
  · exact hx
  · exact univ_str h hx z ((foundL_all rows thr x date h.2).2.2 z (List.mem_of_mem_drop ((srt_perm _).mem_iff.mp hz)))
theorem call_due {rows : List Row} (h : Book rows) (hl : rows.length ≤ 12) (thr : Bool) (x : Str) (hx : PyData.strOk x = true) (date : Int) (h0 : 0 ≤ date) (h1 : date ≤ 9999) :
    m_Allowances___call__ [.v (bookD (ownR rows) thr), .v (.str x), .v (.int date)] [] = some (.ok (.d (.tup ((dueL rows thr x date).map .str))), [.v (bookD (ownR rows) thr), .v (.str x), .v (.int date)], []) := by
  have e := call_spec (ownR rows) thr x date (own_ok h (by omega)) hx h0 h1
  rw [cand_same (by rw [ownR_len]; omega) (by omega) (fun r => mem_ownR h.good r) thr x date] at e
  exact e
theorem call_start {rows : List Row} (h : Book rows) (hl : rows.length ≤ 12) (thr : Bool) (x : Str) (hx : PyData.strOk x = true) (date s : Int) (h1 : date ≤ 9999) (hs : Start (ownR rows) date s) :
    m_Allowances___call__ [.v (bookD (ownR rows) thr), .v (.str x), .v (.int s)] [] = some (.ok (.d (.tup ((dueL rows thr x date).map .str))), [.v (bookD (ownR rows) thr), .v (.str x), .v (.int s)], []) := by
  have e := call_spec (ownR rows) thr x s (own_ok h (by omega)) hx hs.lo (by have := hs.hi; omega)
  rw [← cand_open (fun r hr => hs.opn r hr), cand_same (by rw [ownR_len]; omega) (by omega) (fun r => mem_ownR h.good r) thr x date] at e
  exact e
theorem kCallI_b (rows : List Row) (thr : Bool) (mf : MF) (fas : EF (List AV)) (e : ME) : kCallI "Allowances" 3 mf fas (.d (bookD rows thr)) e = kB (fas e) fun as => kCallI2 "Allowances" 3 mf (.d (bookD rows thr)) as := by
  have v : ∀ e, viewA (.d (bookD rows thr)) e = some (.ins "Allowances" [("own_rows", .lst (rows.map Row.d)), ("own_through", .bl thr)]) := fun _ => rfl
  unfold kCallI
  rw [v]
  rfl
theorem kCallI2_b (rows : List Row) (thr : Bool) (mf : MF) (as : List AV) (e : ME) (h : as.length = 2) : kCallI2 "Allowances" 3 mf (.d (bookD rows thr)) as e = kCall mf (.d (bookD rows thr) :: as) e := by
  have v : ∀ e, viewA (.d (bookD rows thr)) e = some (.ins "Allowances" [("own_rows", .lst (rows.map Row.d)), ("own_through", .bl thr)]) := fun _ => rfl
  unfold kCallI2
  rw [v]
  exact if_pos ⟨rfl, by omega⟩
theorem part_turn (ns : List Int) (k : D) (x2 x3 : Option Sl) (rows : List Row) (hb : Book rows) (hl : rows.length ≤ 12) (thr : Bool) (o7 : Option D) (date s : Int) (h0 : 0 ≤ date) (h1 : date ≤ 9999) (hs : Start (ownR rows) date s) (x : Str) (hx : PyData.strOk x = true) (o11 : Option D) :
    l_law_5 (LE ns k x2 x3 (some (.v (.lst (rows.map Row.d)))) (some (.bl thr)) (some (bookD (ownR rows) thr)) o7 (some (.int date)) (some (.int s)) (some (.str x)) o11) = some (.nx, LE ns k x2 x3 (some (.v (.lst (rows.map Row.d)))) (some (.bl thr)) (some (bookD (ownR rows) thr)) o7 (some (.int date)) (some (.int s)) (some (.str x)) (some (.tup ((dueL rows thr x date).map .str)))) := by
  unfold l_law_5 l_law_4 l_law_3
  have f := fits_spec rows thr x date (hb.ok (by omega)) hx
  rw [show (x :: srt ((foundL rows thr x date).drop 1)) = dueL rows thr x date from rfl] at f
  have c1 := call_due hb hl thr x hx date h0 h1
  have c2 := call_start hb hl thr x hx date s h1 hs
  have ok := dueL_ok (hb.ok (by omega)) thr x date hx
  have ne := oNe_strs (dueL rows thr x date) (dueL rows thr x date) ok ok
  rw [decide_eq_true rfl] at ne
  generalize dueL rows thr x date = L at f c1 c2 ne ok
  simp [f, c1, c2, ne, oTupOf, eCallI, kCallI_b, kCallI2_b]
theorem parts_loop (ns : List Int) (k : D) (x2 x3 : Option Sl) (rows : List Row) (hb : Book rows) (hl : rows.length ≤ 12) (thr : Bool) (o7 : Option D) (date s : Int) (h0 : 0 ≤ date) (h1 : date ≤ 9999) (hs : Start (ownR rows) date s) : ∀ (xs : List Str) (o10 o11 : Option D), (∀ x ∈ xs, PyData.strOk x = true) →
    ∃ p10 p11, sLoop (gSl 10) l_law_5 (xs.map .str) (LE ns k x2 x3 (some (.v (.lst (rows.map Row.d)))) (some (.bl thr)) (some (bookD (ownR rows) thr)) o7 (some (.int date)) (some (.int s)) o10 o11) = some (.nx, LE ns k x2 x3 (some (.v (.lst (rows.map Row.d)))) (some (.bl thr)) (some (bookD (ownR rows) thr)) o7 (some (.int date)) (some (.int s)) p10 p11)
  | [], o10, o11, _ => ⟨o10, o11, rfl⟩
  | x :: xs, o10, o11, h => by
    obtain ⟨p10, p11, q⟩ := parts_loop ns k x2 x3 rows hb hl thr o7 date s h0 h1 hs xs (some (.str x)) (some (.tup ((dueL rows thr x date).map .str))) fun y hy => h y (List.mem_cons_of_mem _ hy)
    refine ⟨p10, p11, ?_⟩
    have t := part_turn ns k x2 x3 rows hb hl thr o7 date s h0 h1 hs x (h x List.mem_cons_self) o11
    have g : gSl 10 (.str x) (LE ns k x2 x3 (some (.v (.lst (rows.map Row.d)))) (some (.bl thr)) (some (bookD (ownR rows) thr)) o7 (some (.int date)) (some (.int s)) o10 o11) = some (LE ns k x2 x3 (some (.v (.lst (rows.map Row.d)))) (some (.bl thr)) (some (bookD (ownR rows) thr)) o7 (some (.int date)) (some (.int s)) (some (.str x)) o11) := by cases o10 <;> rfl
    rw [List.map_cons]
    unfold sLoop
    rw [g]
    dsimp only
    rw [t]
    exact q
theorem date_turn (ns : List Int) (k : D) (x2 : Option Sl) (ws : List Str) (hw : ∀ w ∈ ws, wordB w = true) (hlw : ws.length = 4) (rows : List Row) (hb : Book rows) (hl : rows.length ≤ 12) (thr : Bool) (date : Int) (h0 : 0 ≤ date) (h1 : date ≤ 9999) (o9 o10 o11 : Option D) :
    ∃ p9 p10 p11, l_law_8 (LE ns k x2 (some (.v (.lst (ws.map .str)))) (some (.v (.lst (rows.map Row.d)))) (some (.bl thr)) (some (bookD (ownR rows) thr)) (some (.lst ((dts (ownR rows)).map .int))) (some (.int date)) o9 o10 o11) = some (.nx, LE ns k x2 (some (.v (.lst (ws.map .str)))) (some (.v (.lst (rows.map Row.d)))) (some (.bl thr)) (some (bookD (ownR rows) thr)) (some (.lst ((dts (ownR rows)).map .int))) (some (.int date)) p9 p10 p11) := by
  have hgo : ∀ r ∈ ownR rows, GoodR r := fun r hr => hb.good r ((mem_ownR hb.good r).mp hr)
  obtain ⟨s, hlast, hs⟩ := start_ok hgo h0 h1
  have hdl : (dts (ownR rows)).length ≤ 60 := by
    unfold dts
    rw [(srtI_perm _).length_eq]
    have := foldDates_len (ownR rows) [0]
    rw [ownR_len] at this
    simp at this
    omega
  obtain ⟨p10, p11, pl⟩ := parts_loop ns k x2 (some (.v (.lst (ws.map .str)))) rows hb hl thr (some (.lst ((dts (ownR rows)).map .int))) date s h0 h1 hs (ws ++ [("other" : Str)]) o10 o11 (fun x hx => by
    rcases List.mem_append.mp hx with hx | hx
    · exact word_str (hw x hx)
    · simp at hx
      subst hx
      decide +kernel)
  refine ⟨some (.int s), p10, p11, ?_⟩
  unfold l_law_8 l_law_7 l_law_6
  have key := eLc_fm (v := 12) (fi := eOf4 (eFrz 7)) (t := eT (e2 (eD (eFrz 12)) (eD (eFrz 8)) fun x y => eOn2 x y oLe)) (el := eFrz 12) (e0 := LE ns k x2 (some (.v (.lst (ws.map .str)))) (some (.v (.lst (rows.map Row.d)))) (some (.bl thr)) (some (bookD (ownR rows) thr)) (some (.lst ((dts (ownR rows)).map .int))) (some (.int date)) o9 o10 o11)
    (e := LE ns k x2 (some (.v (.lst (ws.map .str)))) (some (.v (.lst (rows.map Row.d)))) (some (.bl thr)) (some (bookD (ownR rows) thr)) (some (.lst ((dts (ownR rows)).map .int))) (some (.int date)) o9 o10 o11) (ds := (dts (ownR rows)).map .int) (fun d => match d with
      | .int i => decide (i ≤ date)
      | _ => false) (fun d => d) (by simp [eOf4, oIter4]) rfl (by rw [List.length_map]; exact small1 (by omega)) (fun d hd => by
      obtain ⟨z, hz, rfl⟩ := List.mem_map.mp hd
      simp) (fun d hd _ => by
      obtain ⟨z, hz, rfl⟩ := List.mem_map.mp hd
      simp)
  have e3 : (((dts (ownR rows)).map D.int).filter fun d => match d with
      | .int i => decide (i ≤ date)
      | _ => false).map (fun d => d) = (((dts (ownR rows)).filter fun x => decide (x ≤ date)).map .int) := by
    rw [List.map_id'', List.filter_map]
    · rfl
    · exact fun _ => rfl
  rw [e3] at key
  have ix : oIx4 (.lst (((dts (ownR rows)).filter fun x => decide (x ≤ date)).map .int)) (.int (-1)) = some (.int s) := by
    have := atI_last (((dts (ownR rows)).filter fun x => decide (x ≤ date)).map .int) (.int s) (by rw [List.getLast?_map, hlast]; rfl)
    simp [oIx4, this]
  have ap : oAdd (.lst (ws.map .str)) (.lst [.str "other"]) = some (.lst ((ws ++ [("other" : Str)]).map .str)) := by
    simp [oAdd, hlw]
    decide
  have hf : sFor (eOf4 (e2 (eD (eFrz 3)) (eD (eFz (eLst (eCons (eD (eRet (.str "other"))) (eRet []))))) fun x y => eOn2 x y oAdd)) (gSl 10) l_law_5 (LE ns k x2 (some (.v (.lst (ws.map .str)))) (some (.v (.lst (rows.map Row.d)))) (some (.bl thr)) (some (bookD (ownR rows) thr)) (some (.lst ((dts (ownR rows)).map .int))) (some (.int date)) (some (.int s)) o10 o11) = some (.nx, LE ns k x2 (some (.v (.lst (ws.map .str)))) (some (.v (.lst (rows.map Row.d)))) (some (.bl thr)) (some (bookD (ownR rows) thr)) (some (.lst ((dts (ownR rows)).map .int))) (some (.int date)) (some (.int s)) p10 p11) := by
    rw [sFor_on (ds := (ws ++ [("other" : Str)]).map .str) (e1 := LE ns k x2 (some (.v (.lst (ws.map .str)))) (some (.v (.lst (rows.map Row.d)))) (some (.bl thr)) (some (bookD (ownR rows) thr)) (some (.lst ((dts (ownR rows)).map .int))) (some (.int date)) (some (.int s)) o10 o11) (by
      simp [-List.map_append, eOf4_k, kL_some, ap, oIter4])]
    exact pl
  simp only [LE, ov_s] at hf
  generalize ((dts (ownR rows)).filter fun x => decide (x ≤ date)) = fl at key ix
  simp [-eLc_k, -sFor_k, key, ix, hf]
end Mir.Lk02

namespace Mir.Lk02
open PySem PySem.Spec PyProof.Rows L2 Mir
abbrev PE (ns : List Int) (k : D) (x2 : Option Sl) (ws : List Str) (rows : List Row) (thr : Bool) (o8 o9 o10 o11 : Option D) : ME := LE ns k x2 (some (.v (.lst (ws.map .str)))) (some (.v (.lst (rows.map Row.d)))) (some (.bl thr)) (some (bookD (ownR rows) thr)) (some (.lst ((dts (ownR rows)).map .int))) o8 o9 o10 o11
theorem dates_loop (ns : List Int) (k : D) (x2 : Option Sl) (ws : List Str) (hw : ∀ w ∈ ws, wordB w = true) (hlw : ws.length = 4) (rows : List Row) (hb : Book rows) (hl : rows.length ≤ 12) (thr : Bool) : ∀ (ds : List Int) (o8 o9 o10 o11 : Option D), (∀ d ∈ ds, 0 ≤ d ∧ d ≤ 9999) →
    ∃ p8 p9 p10 p11, sLoop (gSl 8) l_law_8 (ds.map .int) (PE ns k x2 ws rows thr o8 o9 o10 o11) = some (.nx, PE ns k x2 ws rows thr p8 p9 p10 p11)
  | [], o8, o9, o10, o11, _ => ⟨o8, o9, o10, o11, rfl⟩
  | d :: ds, o8, o9, o10, o11, h => by
    obtain ⟨h0, h1⟩ := h d List.mem_cons_self
    obtain ⟨p9, p10, p11, t⟩ := date_turn ns k x2 ws hw hlw rows hb hl thr d h0 h1 o9 o10 o11
    obtain ⟨q8, q9, q10, q11, q⟩ := dates_loop ns k x2 ws hw hlw rows hb hl thr ds (some (.int d)) p9 p10 p11 fun y hy => h y (List.mem_cons_of_mem _ hy)
    refine ⟨q8, q9, q10, q11, ?_⟩
    have g : gSl 8 (.int d) (PE ns k x2 ws rows thr o8 o9 o10 o11) = some (PE ns k x2 ws rows thr (some (.int d)) o9 o10 o11) := by cases o8 <;> rfl
    rw [List.map_cons]
    unfold sLoop
    rw [g]
    dsimp only
    rw [t]
    exact q
theorem l9 (ns : List Int) (k : D) (x2 : Option Sl) (ws : List Str) (hw : ∀ w ∈ ws, wordB w = true) (hlw : ws.length = 4) (rows : List Row) (hb : Book rows) (hl : rows.length ≤ 12) (thr : Bool) (o8 o9 o10 o11 : Option D) :
    ∃ p8 p9 p10 p11, l_law_9 (PE ns k x2 ws rows thr o8 o9 o10 o11) = some (.nx, PE ns k x2 ws rows thr p8 p9 p10 p11) := by
  obtain ⟨q8, q9, q10, q11, q⟩ := dates_loop ns k x2 ws hw hlw rows hb hl thr [0, 1, 2, 3, 4, 5, 6, 7, 8, 9999] o8 o9 o10 o11 (by decide)
  refine ⟨q8, q9, q10, q11, ?_⟩
  unfold l_law_9
  rw [sFor_on (ds := [0, 1, 2, 3, 4, 5, 6, 7, 8, 9999].map D.int) (e1 := PE ns k x2 ws rows thr o8 o9 o10 o11) (by simp [eOf4_k, kL_some, oIter4])]
  exact q
/-- the dates at the end of a pass -/
theorem l210 (ns : List Int) (k : D) (x2 : Option Sl) (ws : List Str) (rows : List Row) (hb : Book rows) (hl : rows.length ≤ 12) (thr : Bool) (o8 o9 o10 o11 : Option D) :
    ∃ p11, sSeq l_law_2 (sSeq l_law_1 l_law_0) (PE ns k x2 ws rows thr o8 o9 o10 o11) = some (.nx, PE ns k x2 ws rows thr o8 o9 o10 p11) := by
  unfold l_law_2 l_law_1 l_law_0
  have small : ∀ n, n ≤ 1000 → n ≤ sizeLine := fun n => small1
  have e2' : ∀ r : Row, oIx4 r.d (.int 2) = some (.int r.s) := fun _ => rfl
  have e3' : ∀ r : Row, oIx4 r.d (.int 3) = some (oD r.t) := fun _ => rfl
  have k1 := eLc_map (v := 13) (fi := eOf4 (eFrz 4)) (el := e2 (eD (eFrz 13)) (eD (eRet (.int 2))) fun x y => eOn2 x y oIx4) (e0 := PE ns k x2 ws rows thr o8 o9 o10 o11) (e := PE ns k x2 ws rows thr o8 o9 o10 o11) (ds := rows.map Row.d) (fun d => .int (rowOf d).s) (by simp [eOf4_k, oIter4]) rfl (by rw [List.length_map]; exact small1 (by omega)) (fun d hd => by
    obtain ⟨r, hr, rfl⟩ := List.mem_map.mp hd
    simp [e2'])
  have k1e : (rows.map Row.d).map (fun d => D.int (rowOf d).s) = (rows.map (·.s)).map .int := by
    rw [List.map_map, List.map_map]
    apply List.map_congr_left
    intro r _
    simp
  rw [k1e] at k1
  have k2 := eLc_fm (v := 13) (fi := eOf4 (eFrz 4)) (t := eT (e2 (eD (e2 (eD (eFrz 13)) (eD (eRet (.int 3))) fun x y => eOn2 x y oIx4)) (eD (eRet .non)) fun x y => eOn2 x y oIsNot)) (el := e2 (eD (e2 (eD (eFrz 13)) (eD (eRet (.int 3))) fun x y => eOn2 x y oIx4)) (eD (eRet (.int 1))) fun x y => eOn2 x y oAdd) (e0 := PE ns k x2 ws rows thr o8 o9 o10 o11) (e := PE ns k x2 ws rows thr o8 o9 o10 o11) (ds := rows.map Row.d) (fun d => (rowOf d).t.isSome) (fun d => match (rowOf d).t with
    | some t => .int (t + 1)
    | none => .non) (by simp [eOf4_k, oIter4]) rfl (by rw [List.length_map]; exact small1 (by omega)) (fun d hd => by
    obtain ⟨r, hr, rfl⟩ := List.mem_map.mp hd
    cases ht : r.t <;> simp [e3', ht, oD, oIsNot, isNone]) (fun d hd hp => by
    obtain ⟨r, hr, rfl⟩ := List.mem_map.mp hd
    rw [rowOf_d] at hp ⊢
    cases ht : r.t with
    | none => rw [ht] at hp; cases hp
    | some t => simp [e3', ht, oD])
  have k2e : ((rows.map Row.d).filter fun d => (rowOf d).t.isSome).map (fun d => match (rowOf d).t with
    | some t => D.int (t + 1)
    | none => .non) = (rows.filterMap fun r => r.t.map (· + 1)).map .int := by
    clear k1 k2 k1e hb hl
    induction rows with
    | nil => rfl
    | cons r rs ih =>
      cases ht : r.t <;> simp [ht, ih]
  rw [k2e] at k2
  have hz1 : (rows.map (·.s)).length = rows.length := by simp
  have hz2 : (rows.filterMap fun r => r.t.map (· + 1)).length ≤ rows.length := List.length_filterMap_le _ _
  have a1 : oAdd (.lst [.int 0]) (.lst ((rows.map (·.s)).map .int)) = some (.lst ((0 :: rows.map (·.s)).map .int)) := by
    have := small (1 + rows.length) (by omega)
    simp [oAdd, this]
  have a2 : oAdd (.lst ((0 :: rows.map (·.s)).map .int)) (.lst ((rows.filterMap fun r => r.t.map (· + 1)).map .int)) = some (.lst ((dueD rows).map .int)) := by
    have := small (rows.length + 1 + (rows.filterMap fun r => r.t.map (· + 1)).length) (by omega)
    simp [oAdd, this, dueD]
  have due := due_same hb.good (fun r => mem_ownR hb.good r)
  have dl : (dueD rows).length ≤ 30 := by
    unfold dueD
    simp only [List.length_append, List.length_cons, hz1]
    omega
  have k3 := eLc_fm (v := 8) (fi := eOf4 (eFrz 11)) (t := eT (e2 (eD (eFrz 8)) (eD (eRet (.int 10000))) fun x y => eOn2 x y oLt)) (el := eTup (eCons (eD (eFrz 8)) (eCons (eD (eRet (.int 0))) (eRet [])))) (e0 := PE ns k x2 ws rows thr none o9 o10 (some (.lst ((dueD rows).map .int)))) (e := PE ns k x2 ws rows thr none o9 o10 (some (.lst ((dueD rows).map .int)))) (ds := (dueD rows).map .int) (fun d => match d with
    | .int i => decide (i < 10000)
    | _ => false) (fun d => .tup [d, .int 0]) (by simp [eOf4_k, oIter4]) rfl (by rw [List.length_map]; exact small1 (by omega)) (fun d hd => by
    obtain ⟨r, hr, rfl⟩ := List.mem_map.mp hd
    simp) (fun d hd hp => by
    obtain ⟨r, hr, rfl⟩ := List.mem_map.mp hd
    simp [kT_some])
  have k3e : (((dueD rows).map D.int).filter fun d => match d with
    | .int i => decide (i < 10000)
    | _ => false).map (fun d => D.tup [d, .int 0]) = ((dueD rows).filter fun x => decide (x < 10000)).map fun i => D.tup [.int i, .int 0] := by
    rw [List.filter_map, List.map_map]
    rfl
  rw [k3e] at k3
  have fl : ((dueD rows).filter fun x => decide (x < 10000)).length ≤ 30 := Nat.le_trans (List.length_filter_le _ _) dl
  generalize ((dueD rows).filter fun x => decide (x < 10000)) = fs at k3 due fl
  have h3 := eHide_on (v := 8) (e := PE ns k x2 ws rows thr o8 o9 o10 (some (.lst ((dueD rows).map .int)))) (o := o8) (by cases o8 <;> rfl) k3
  have pd := pairsD_iK (.int 0) fs
  have mg := mergeM_iK (.int 0) fs []
  have kl := foldK_len fs []
  generalize fs.foldl addK [] = ks at due mg kl
  have kz : ks.length ≤ 30 := by
    have e0 : ([] : List Int).length = 0 := rfl
    rw [e0] at kl
    omega
  have k4 := eLc_map (v := 8) (fi := eOf4 (eFrz 11)) (el := eBind (eCons (eD (eFrz 8)) (eRet [])) (g1 fun a => eOn a oInt)) (e0 := ⟨[some (.v (.frl (ns.map .int))), some (.v k), x2, some (.v (.lst (ws.map .str))), some (.v (.lst (rows.map Row.d))), some (.v (.bl thr)), some (.v (bookD (ownR rows) thr)), some (.v (.lst ((dts (ownR rows)).map .int))), none, ov o9, ov o10, some (.o (.dK (iK (.int 0) ks))), none, none], []⟩) (e := PE ns k x2 ws rows thr none o9 o10 (some (.dK (iK (.int 0) ks)))) (ds := ks.map .int) (fun d => d) (by
    simp [eOf4_k, oIter4, keysOk_iK, keys_iK]) rfl (by rw [List.length_map]; exact small1 (by omega)) (fun d hd => by
    obtain ⟨z, hz, rfl⟩ := List.mem_map.mp hd
    simp [oInt])
  rw [List.map_id''] at k4
  · have h4 : eHide 8 (eLc [8] (eOf4 (eFrz 11)) (gSl 8) (eRet true) (eBind (eCons (eD (eFrz 8)) (eRet [])) (g1 fun a => eOn a oInt))) ⟨[some (.v (.frl (ns.map .int))), some (.v k), x2, some (.v (.lst (ws.map .str))), some (.v (.lst (rows.map Row.d))), some (.v (.bl thr)), some (.v (bookD (ownR rows) thr)), some (.v (.lst ((dts (ownR rows)).map .int))), ov o8, ov o9, ov o10, some (.o (.dK (iK (.int 0) ks))), none, none], []⟩ = some (.ok (.o (.lst (ks.map .int))), PE ns k x2 ws rows thr o8 o9 o10 (some (.dK (iK (.int 0) ks)))) := by
      have := eHide_to (v := 8) (e := ⟨[some (.v (.frl (ns.map .int))), some (.v k), x2, some (.v (.lst (ws.map .str))), some (.v (.lst (rows.map Row.d))), some (.v (.bl thr)), some (.v (bookD (ownR rows) thr)), some (.v (.lst ((dts (ownR rows)).map .int))), ov o8, ov o9, ov o10, some (.o (.dK (iK (.int 0) ks))), none, none], []⟩) (o := o8) (by cases o8 <;> rfl) k4 rfl
      rw [this]
      cases o8 <;> rfl
    have ho := oSrt4_ints ks (by omega)
    have ne := oNe_ints (dts (ownR rows)) (dts (ownR rows))
    rw [decide_eq_true rfl] at ne
    rw [due] at ho
    refine ⟨some (.dK (iK (.int 0) ks)), ?_⟩
    have mi : mergeM [] (iK (.int 0) fs) = iK (.int 0) ks := mg
    simp only [PE, LE, ov_s] at h3
    rw [List.map_cons] at a1 a2
    simp [-eLc_k, -List.map_map, k1, k2, a1, a2, kL_some, h3, gDictOf, oDictOf, pd, mi, h4, ho, ne]
  · exact fun _ => rfl
end Mir.Lk02

namespace Mir.Lk02
open PySem PySem.Spec PyProof.Rows L2 Mir
theorem bookD_eq (rows : List Row) (thr : Bool) : D.ins "Allowances" [("own_rows", .lst (rows.map Row.d)), ("own_through", .bl thr)] = bookD rows thr := rfl
/-- the rows: still an object, or frozen -/
def rowsS (rows : List Row) (fr : Bool) : Option Sl := if fr then some (.v (.lst (rows.map Row.d))) else some (.o (.lst (rows.map Row.d)))
theorem insV_dates (rows : List Row) (thr : Bool) (e : ME) : insV "dates" (.d (bookD rows thr)) e = some (("Allowances" : Str), false) := rfl
theorem l1110 (ns : List Int) (k : D) (x2 : Option Sl) (ws : List Str) (rows : List Row) (hb : Book rows) (hl : rows.length ≤ 12) (thr fr : Bool) (o6 o7 o8 o9 o10 o11 : Option D) :
    sSeq l_law_11 l_law_10 (LE ns k x2 (some (.v (.lst (ws.map .str)))) (rowsS rows fr) (some (.bl thr)) o6 o7 o8 o9 o10 o11) = some (.nx, PE ns k x2 ws rows thr o8 o9 o10 o11) := by
  unfold l_law_11 l_law_10
  have i := init_spec rows thr hb.good hb.nd hl
  have d := dates_spec (ownR rows) thr (by rw [ownR_len]; omega)
  rw [show srtI ((ownR rows).foldl dateStep [0]) = dts (ownR rows) from rfl] at d
  cases fr <;> simp [rowsS, eMakeG, kMakeG, eArgs, celC, menC, Sl.flat, MO.flat, putB, i, eMethG, kMeth, insV_dates, bookD_eq, d]
theorem seq_assoc3 (a b : SF) (c : SF) (e e1 e2 : ME) (h1 : sSeq a b e = some (.nx, e1)) (h2 : c e1 = some (.nx, e2)) : sSeq a (sSeq b c) e = some (.nx, e2) := by
  rw [sSeq_k] at h1 ⊢
  cases ha : a e with
  | none => rw [ha] at h1; cases h1
  | some p =>
    obtain ⟨o, ea⟩ := p
    rw [ha] at h1
    cases o <;> simp at h1 ⊢
    · rw [h1]
      simpa using h2
theorem pass (ns : List Int) (k : D) (x2 : Option Sl) (ws : List Str) (hw : ∀ w ∈ ws, wordB w = true) (hlw : ws.length = 4) (rows : List Row) (hb : Book rows) (hl : rows.length ≤ 12) (thr fr : Bool) (o6 o7 o8 o9 o10 o11 : Option D) :
    ∃ p8 p9 p10 p11, l_law_12 (LE ns k x2 (some (.v (.lst (ws.map .str)))) (rowsS rows fr) (some (.bl thr)) o6 o7 o8 o9 o10 o11) = some (.nx, PE ns k x2 ws rows thr p8 p9 p10 p11) := by
  have h1 := l1110 ns k x2 ws rows hb hl thr fr o6 o7 o8 o9 o10 o11
  obtain ⟨p8, p9, p10, p11, h9⟩ := l9 ns k x2 ws hw hlw rows hb hl thr o8 o9 o10 o11
  obtain ⟨q11, h2⟩ := l210 ns k x2 ws rows hb hl thr p8 p9 p10 p11
  refine ⟨p8, p9, p10, q11, ?_⟩
  unfold l_law_12
  refine seq_assoc3 _ _ _ _ _ _ h1 ?_
  rw [sSeq_k, h9]
  exact h2
theorem loop13 (ns : List Int) (k : D) (x2 : Option Sl) (ws : List Str) (hw : ∀ w ∈ ws, wordB w = true) (hlw : ws.length = 4) (rows : List Row) (hb : Book rows) (hl : rows.length ≤ 12) (o5 o6 o7 o8 o9 o10 o11 : Option D) :
    ∃ p8 p9 p10 p11, l_law_13 (LE ns k x2 (some (.v (.lst (ws.map .str)))) (rowsS rows false) o5 o6 o7 o8 o9 o10 o11) = some (.nx, PE ns k x2 ws rows true p8 p9 p10 p11) := by
  obtain ⟨a8, a9, a10, a11, h1⟩ := pass ns k x2 ws hw hlw rows hb hl false false o6 o7 o8 o9 o10 o11
  obtain ⟨b8, b9, b10, b11, h2⟩ := pass ns k x2 ws hw hlw rows hb hl true true (some (bookD (ownR rows) false)) (some (.lst ((dts (ownR rows)).map .int))) a8 a9 a10 a11
  refine ⟨b8, b9, b10, b11, ?_⟩
  unfold l_law_13
  rw [sFor_on (ds := [.bl false, .bl true]) (e1 := LE ns k x2 (some (.v (.lst (ws.map .str)))) (rowsS rows false) o5 o6 o7 o8 o9 o10 o11) (by simp [eOf4_k, kL_some, oIter4])]
  have g1 : gSl 5 (.bl false) (LE ns k x2 (some (.v (.lst (ws.map .str)))) (rowsS rows false) o5 o6 o7 o8 o9 o10 o11) = some (LE ns k x2 (some (.v (.lst (ws.map .str)))) (rowsS rows false) (some (.bl false)) o6 o7 o8 o9 o10 o11) := by cases o5 <;> rfl
  unfold sLoop
  rw [g1]
  dsimp only
  rw [h1]
  dsimp only
  have g2 : gSl 5 (.bl true) (PE ns k x2 ws rows false a8 a9 a10 a11) = some (LE ns k x2 (some (.v (.lst (ws.map .str)))) (rowsS rows true) (some (.bl true)) (some (bookD (ownR rows) false)) (some (.lst ((dts (ownR rows)).map .int))) a8 a9 a10 a11) := rfl
  unfold sLoop
  rw [g2]
  dsimp only
  rw [h2]
  rfl
theorem turn (ns : List Int) (hn : ns.length ≤ 63) (i : Nat) (hi : i ≤ 4) (x2 x3 x4 : Option Sl) (h2 : kIsB (some x2) = false) (h3 : kIsB (some x3) = false) (h4 : kIsB (some x4) = false) (o5 o6 o7 o8 o9 o10 o11 : Option D) :
    ∃ y2 y3 y4 p5 p6 p7 p8 p9 p10 p11, l_law_17 (LE ns (.int i) x2 x3 x4 o5 o6 o7 o8 o9 o10 o11) = some (.nx, LE ns (.int i) y2 y3 y4 p5 p6 p7 p8 p9 p10 p11) ∧ kIsB (some y2) = false ∧ kIsB (some y3) = false ∧ kIsB (some y4) = false := by
  obtain ⟨a, b, q1, c1⟩ := pool_spec ns i hn hi
  obtain ⟨ws, a1, b1, q2, c2, hlw, hw⟩ := parts_spec a b c1
  obtain ⟨m, a2, b2, q3, c3, m0, m1⟩ := draw_spec a1 b1 7 c2 (by omega) (by decide)
  obtain ⟨rows, a3, b3, q4, c4, hb, hl⟩ := book_spec a2 b2 ws m c3 hw hlw m0 (by omega)
  obtain ⟨p8, p9, p10, p11, h13⟩ := loop13 ns (.int i) (some (.o (.lst [.int a3, .int b3]))) ws hw hlw rows hb (by omega) o5 o6 o7 o8 o9 o10 o11
  refine ⟨some (.o (.lst [.int a3, .int b3])), some (.v (.lst (ws.map .str))), some (.v (.lst (rows.map Row.d))), some (.bl true), some (bookD (ownR rows) true), some (.lst ((dts (ownR rows)).map .int)), p8, p9, p10, p11, ?_, rfl, rfl, rfl⟩
  unfold l_law_17 l_law_16 l_law_15 l_law_14
  rw [show rowsS rows false = some (.o (.lst (rows.map Row.d))) from rfl] at h13
  simp only [LE] at h13
  simp [h2, h3, h4, q1, q2, q3, q4]
  exact h13
theorem turns (ns : List Int) (hn : ns.length ≤ 63) : ∀ (is : List Nat) (k : Option D) (x2 x3 x4 : Option Sl) (o5 o6 o7 o8 o9 o10 o11 : Option D), (∀ i ∈ is, i ≤ 4) → kIsB (some x2) = false → kIsB (some x3) = false → kIsB (some x4) = false →
    ∃ e', sLoop (gSl 1) l_law_17 (is.map fun i => D.int ((i : Nat) : Int)) ⟨[some (.v (.frl (ns.map .int))), ov k, x2, x3, x4, ov o5, ov o6, ov o7, ov o8, ov o9, ov o10, ov o11, none, none], []⟩ = some (.nx, ⟨some (.v (.frl (ns.map .int))) :: e', []⟩)
  | [], k, x2, x3, x4, o5, o6, o7, o8, o9, o10, o11, _, _, _, _ => ⟨_, rfl⟩
  | i :: is, k, x2, x3, x4, o5, o6, o7, o8, o9, o10, o11, h, h2, h3, h4 => by
    obtain ⟨y2, y3, y4, p5, p6, p7, p8, p9, p10, p11, t, c2, c3, c4⟩ := turn ns hn i (h i List.mem_cons_self) x2 x3 x4 h2 h3 h4 o5 o6 o7 o8 o9 o10 o11
    obtain ⟨e', q⟩ := turns ns hn is (some (.int i)) y2 y3 y4 p5 p6 p7 p8 p9 p10 p11 (fun j hj => h j (List.mem_cons_of_mem _ hj)) c2 c3 c4
    refine ⟨e', ?_⟩
    have g : gSl 1 (.int ((i : Nat) : Int)) ⟨[some (.v (.frl (ns.map .int))), ov k, x2, x3, x4, ov o5, ov o6, ov o7, ov o8, ov o9, ov o10, ov o11, none, none], []⟩ = some (LE ns (.int i) x2 x3 x4 o5 o6 o7 o8 o9 o10 o11) := by cases k <;> rfl
    rw [List.map_cons]
    unfold sLoop
    rw [g]
    dsimp only
    rw [t]
    exact q
theorem loopN (n : Nat) : ∃ m : Nat, (if (if 3 < (n : Int) then 3 else (n : Int)) > 1 then (if 3 < (n : Int) then 3 else (n : Int)) else 1) = (m : Int) ∧ m ≤ 3 := by
  by_cases h : n ≤ 1
  · refine ⟨1, ?_, by omega⟩
    rw [if_neg (show ¬ (3 : Int) < n by omega), if_neg (by omega)]
    rfl
  · by_cases h4 : n ≤ 3
    · refine ⟨n, ?_, by omega⟩
      rw [if_neg (show ¬ (3 : Int) < n by omega), if_pos (by omega)]
    · refine ⟨3, ?_, by omega⟩
      rw [if_pos (show (3 : Int) < n by omega), if_pos (by omega)]
      rfl
end Mir.Lk02

namespace Mir.Lk02
open PySem PySem.Spec PyProof.Rows L2 Mir
theorem rng_nat (m : Nat) : rng 0 m = (List.range m).map fun i => D.int ((i : Nat) : Int) := by
  unfold rng
  apply List.map_congr_left
  intro i _
  simp
abbrev E0 (ns : List Int) : ME := ⟨[some (.v (.frl (ns.map .int))), none, none, none, none, none, none, none, none, none, none, none, none, none], []⟩
def fiL : EF (List D) := eBind (eCons (eD (eBind (eCons (eD (eRet (.int 1))) (eCons (eD (eBind (eCons (eD (eBind (eCons (eD (eFrz 0)) (eRet [])) (g1 fun a => eOn a oLen))) (eCons (eD (eRet (.int 3))) (eRet []))) (g2 fun a b => eOn2 a b oMin))) (eRet []))) (g2 fun a b => eOn2 a b oMax))) (eRet [])) gRng1
theorem it18 (ns : List Int) : ∃ m : Nat, m ≤ 3 ∧ fiL (E0 ns) = some (.ok (rng 0 m), E0 ns) := by
  obtain ⟨m, hm, hm3⟩ := loopN ns.length
  have hg : gRng1 [.d (.int (m : Int))] = eRet (rng 0 m) := by
    rw [gRng1_ok (m : Int) (by omega) (by omega)]
    rw [Int.toNat_natCast]
  refine ⟨m, hm3, ?_⟩
  unfold fiL
  simp -implicitDefEqProofs [hm, hg]
theorem l18 (ns : List Int) (hl : ns.length ≤ 63) : ∃ e', l_law_18 (E0 ns) = some (.nx, ⟨some (.v (.frl (ns.map .int))) :: e', []⟩) := by
  obtain ⟨m, hm3, h⟩ := it18 ns
  obtain ⟨e', hL⟩ := turns ns hl (List.range m) none none none none none none none none none none none (fun i hi => by have := List.mem_range.mp hi; omega) rfl rfl rfl
  rw [← rng_nat] at hL
  refine ⟨e', ?_⟩
  unfold l_law_18
  exact (sFor_on (fi := fiL) h).trans hL
theorem law_eval (ns : List Int) (hl : ns.length ≤ 63) : ∃ as', m_law [.v (.frl (ns.map .int))] [] = some (.ok (.d (.bl true)), as') := by
  obtain ⟨e', h⟩ := l18 ns hl
  refine ⟨(backs [.v (.frl (ns.map .int))] (some (.v (.frl (ns.map .int))) :: e'), []), ?_⟩
  unfold m_law g_law
  simp [h, backs]
end Mir.Lk02

open PySem PySem.W PyProof.Rows
set_option maxHeartbeats 0 in
theorem PySem.Challenge.cw_standinparts_k02_whole_candidates_holds : PySem.Challenge.rw_standinparts_k02_whole_candidates.Holds := by
  w_on; o_law; k_head; (case hw => w_witness2)
  k_fill
  refine Mir.walk_ofG (l := PySem.Challenge.rw_standinparts_k02_whole_candidates) (n := 63) (k := 6) (x := "_law_script") (CX := fun w => L2.CX (PySem.Challenge.rw_standinparts_k02_whole_candidates).prog w) (sp := fun w => Mir.spM _ 1 Mir.Lk02.m_law) rfl (by decide) rfl (Mir.room_top.mono (by decide)) (fun w h Y => PySem.W.kIn_of Y) ?F (fun _ H a ns hl hb _ hS => Mir.law_done (Mir.Lk02.law_eval ns hl) hl hS) (fun _ _ _ _ _ h => Mir.cx_none h)
  case F =>
    intro w mg fa h KX G hmg
    refine' Mir.Lk02.all_mk rfl KX G hmg ?h2 ?h12 ?h13 ?h14 ?h15 ?h16 ?h17 ?h18 ?h19 ?h20 ?h21 ?h23 ?h25 ?h35 ?h36 ?h37 ?h38 ?h40 ?h50 ?h51 ?h52 ?h53 ?h54 ?h55 ?h56 ?h57 ?h58 ?h60 ?h70 ?h71 ?h72 ?h73 ?h74 ?h76 ?h86 ?h87 ?h88 ?h90 ?h100 ?h101 ?h102 ?h104 ?h114 ?h115 ?h116 ?h118 ?h128 ?h129 ?h130 ?h131 ?h132 ?h134 ?h136 ?h137 ?h159 ?h160 ?h161 ?h162 ?h163 ?h164 ?h165 ?h166 ?h167 ?h168 ?h169 ?h170 ?h171 ?h172 ?h173 ?h174 ?h175 ?h176 ?h177 ?h178 ?h179 ?h180 ?h181 ?h182 ?h184 ?h194 ?h195 ?h196 ?h198 ?h208 ?h209 ?h210 ?h211 ?h213 ?h224 ?h225 ?h226 ?h227 ?h233 ?h234 ?h236 ?h246 ?h247 ?h248 ?h249 ?h251 ?h253 ?h275 ?h276 ?h277 ?h278 ?h279 ?h280 ?h281 ?h282 ?h283 ?h284 ?h285 ?h286 ?h287 ?h288 ?h289 ?h290 ?h291 ?h292 ?h293 ?h294 ?h295 ?h296 ?h297 ?h299 ?h309 ?h310 ?h311 ?h313 ?h323 ?h324 ?h325 ?h326 ?h328 ?h330 ?h332 ?h354 ?h355 ?h356 ?h357 ?h358 ?h359 ?h360 ?h361 ?h362 ?h363 ?h364 ?h365 ?h366 ?h367 ?h368 ?h369 ?h370 ?h371 ?h372 ?h373 ?h374 ?h375 ?h376 ?h377 ?h378 ?h380 ?h390 ?h391 ?h392 ?h394 ?h404 ?h405 ?h406 ?h408 ?h418 ?h419 ?h420 ?h422 ?h432 ?h433 ?h434 ?h436 ?h446 ?h447 ?h448 ?h449 ?h450
    (case h2 => k_is)
    (case h12 => k_is)
    (case h13 => k_is)
    (case h14 => k_is)
    (case h15 => k_is)
    (case h16 => k_is)
    (case h17 => k_is)
    (case h18 => k_is)
    (case h19 => k_is)
    (case h20 => k_is)
    (case h21 => k_is)
    (case h23 => k_is)
    (case h25 => k_is)
    (case h35 => k_is)
    (case h36 => k_is)
    (case h37 => k_is)
    (case h38 => k_is)
    (case h40 => k_is)
    (case h50 => k_is)
    (case h51 => k_is)
    (case h52 => k_is)
    (case h53 => k_is)
    (case h54 => k_is)
    (case h55 => k_is)
    (case h56 => k_is)
    (case h57 => k_is)
    (case h58 => k_is)
    (case h60 => k_is)
    (case h70 => k_is)
    (case h71 => k_is)
    (case h72 => k_is)
    (case h73 => k_is)
    (case h74 => k_is)
    (case h76 => k_is)
    (case h86 => k_is)
    (case h87 => k_is)
    (case h88 => k_is)
    (case h90 => k_is)
    (case h100 => k_is)
    (case h101 => k_is)
    (case h102 => k_is)
    (case h104 => k_is)
    (case h114 => k_is)
    (case h115 => k_is)
    (case h116 => k_is)
    (case h118 => k_is)
    (case h128 => k_is)
    (case h129 => k_is)
    (case h130 => k_is)
    (case h131 => k_is)
    (case h132 => k_is)
    (case h134 => k_is)
    (case h136 => k_is)
    (case h137 => k_is)
    (case h159 => k_is)
    (case h160 => k_is)
    (case h161 => k_is)
    (case h162 => k_is)
    (case h163 => rfl)
    (case h164 => kernel_rfl)
    (case h165 => k_is)
    (case h166 => kernel_rfl)
    (case h167 => k_is)
    (case h168 => k_is)
    (case h169 => k_is)
    (case h170 => kernel_rfl)
    (case h171 => k_is)
    (case h172 => k_is)
    (case h173 => kernel_rfl)
    (case h174 => k_is)
    (case h175 => kernel_rfl)
    (case h176 => k_is)
    (case h177 => k_is)
    (case h178 => k_is)
    (case h179 => k_is)
    (case h180 => k_is)
    (case h181 => k_is)
    (case h182 => k_is)
    (case h184 => k_is)
    (case h194 => k_is)
    (case h195 => k_is)
    (case h196 => k_is)
    (case h198 => k_is)
    (case h208 => k_is)
    (case h209 => k_is)
    (case h210 => k_is)
    (case h211 => k_is)
    (case h213 => k_is)
    (case h224 => k_is)
    (case h225 => k_is)
    (case h226 => k_is)
    (case h227 => k_is)
    (case h233 => k_is)
    (case h234 => k_is)
    (case h236 => k_is)
    (case h246 => k_is)
    (case h247 => k_is)
    (case h248 => k_is)
    (case h249 => k_is)
    (case h251 => k_is)
    (case h253 => k_is)
    (case h275 => k_is)
    (case h276 => k_is)
    (case h277 => k_is)
    (case h278 => k_is)
    (case h279 => rfl)
    (case h280 => kernel_rfl)
    (case h281 => k_is)
    (case h282 => kernel_rfl)
    (case h283 => k_is)
    (case h284 => k_is)
    (case h285 => k_is)
    (case h286 => kernel_rfl)
    (case h287 => k_is)
    (case h288 => k_is)
    (case h289 => kernel_rfl)
    (case h290 => k_is)
    (case h291 => kernel_rfl)
    (case h292 => k_is)
    (case h293 => k_is)
    (case h294 => k_is)
    (case h295 => k_is)
    (case h296 => k_is)
    (case h297 => k_is)
    (case h299 => k_is)
    (case h309 => k_is)
    (case h310 => k_is)
    (case h311 => k_is)
    (case h313 => k_is)
    (case h323 => k_is)
    (case h324 => k_is)
    (case h325 => k_is)
    (case h326 => k_is)
    (case h328 => k_is)
    (case h330 => k_is)
    (case h332 => k_is)
    (case h354 => k_is)
    (case h355 => k_is)
    (case h356 => k_is)
    (case h357 => k_is)
    (case h358 => rfl)
    (case h359 => kernel_rfl)
    (case h360 => k_is)
    (case h361 => kernel_rfl)
    (case h362 => k_is)
    (case h363 => k_is)
    (case h364 => k_is)
    (case h365 => kernel_rfl)
    (case h366 => k_is)
    (case h367 => k_is)
    (case h368 => kernel_rfl)
    (case h369 => k_is)
    (case h370 => kernel_rfl)
    (case h371 => k_is)
    (case h372 => k_is)
    (case h373 => k_is)
    (case h374 => k_is)
    (case h375 => k_is)
    (case h376 => k_is)
    (case h377 => k_is)
    (case h378 => k_is)
    (case h380 => k_is)
    (case h390 => k_is)
    (case h391 => k_is)
    (case h392 => k_is)
    (case h394 => k_is)
    (case h404 => k_is)
    (case h405 => k_is)
    (case h406 => k_is)
    (case h408 => k_is)
    (case h418 => k_is)
    (case h419 => k_is)
    (case h420 => k_is)
    (case h422 => k_is)
    (case h432 => k_is)
    (case h433 => k_is)
    (case h434 => k_is)
    (case h436 => k_is)
    (case h446 => k_is)
    (case h447 => k_is)
    (case h448 => k_is)
    (case h449 => k_is)
    (case h450 => k_is)
