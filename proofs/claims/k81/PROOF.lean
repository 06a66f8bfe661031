import PyProof.Rows.All
import Wide.All
import OpenK.AllK
import Wide.FinOn
import HandS.ForMost
import HandS.Defaults
import HandS.Property
import HandS.IsInst
import HandS.HeadHook1
import HandS.HeadHook2
import HandS.HeadEnd
import PyProof.ReprRoads
import HandS.EndBits
import HandS.WideBits
import KE.GoesEnum
import KE.GoesMore
import PyProof.DictUpdate
import KE.KDictLaw
import HandS.More
import HandS.Small
import PyProof.Rows.Range3
import KE.KCallOwn
import HandS.DictTup
import HandS.SortOrd
import HandS.ListItems
import HandS.Conv
import KE.KDictPairs
import HandS.WordsDict
import HandS.DictComp
import KE.KStateDown
import HandS.Base
import HandS.Call
import HandS.Ends
import HandS.Words
import HandS.Head0
import HandS.Head1
import HandS.Head2
import PySem.Challenge.RW_unitpairs_k81_whole_helping_rests
import HandS.Evl
import HandS.StrMore
import HandS.FStr
import HandS.Codes
import HandS.NoneIn
import HandS.Style
import HandS.SortInts
set_option Elab.async false
set_option linter.all false
set_option maxRecDepth 100000
set_option maxHeartbeats 2000000
/-! Own layer 1: a def's promise in one bundle; operators that an own class defines, over the hand layer. -/
namespace Bk
open PySem PySem.Spec PyProof.Rows L2

/-- a def that keeps a promise, all its parameters given by place -/
structure Ok (P : Program) (w : World) (K : PySem.W.Frag) (mg : Str → Option Value) (base : Heap) (k : Nat) (f : Addr) (ps : List Str) (sp : Sp) : Prop where
  ex : ∃ fd, FnOk P w K mg base CX0 k f fd ps sp ∧ Binds K fd ps [] ∧ PySem.W.keepIn K (.ref f) = true ∧ PySem.W.fnIn K f = true

section
variable {P : Program} {w : World} {K : PySem.W.Frag} {mg : Str → Option Value} {base : Heap} {k : Nat} {f : Addr} {ps : List Str} {sp : Sp}
theorem Ok.mono {j : Nat} (o : Ok P w K mg base j f ps sp) (h : j ≤ k) : Ok P w K mg base k f ps sp :=
  let ⟨fd, a, b, c⟩ := o.ex
  ⟨fd, a.mono h, b, c⟩
theorem Ok.imp {sp' : Sp} (o : Ok P w K mg base k f ps sp) (h : ∀ vs H Q E, sp' vs H Q E → sp vs H Q E) : Ok P w K mg base k f ps sp' :=
  let ⟨fd, a, b, c⟩ := o.ex
  ⟨fd, a.imp h, b, c⟩
end

theorem fnIn_of {K : PySem.W.Frag} {x qual : Str} {params : Arguments} {body : List Stmt} {scope : Scope} {dvs : List V} {kws : List (Str × V)} {f : Addr} {fd : FuncData} (F : FunD K x qual params body scope dvs kws f fd) : PySem.W.fnIn K f = true := by
  obtain ⟨_, _, _, _, _, _, _, _, _, _, _, lk, _⟩ := F.ex
  unfold PySem.W.fnIn
  rw [lk]
/-- bindings of a def without defaults; h: one pattern a parameter -/
theorem fd_ok {P : Program} {w : World} {K : PySem.W.Frag} {mg : Str → Option Value} {base : Heap} {x qual : Str} {params : Arguments} {body : List Stmt} {scope : Scope} {f : Addr} {N ps : List Str} {k : Nat} {sp : Sp}
    (F : ∃ fd, FunD K x qual params body scope [] [] f fd) (S : FnScope N ps scope) (len : ∀ vs H Q E, sp vs H Q E → vs.length = ps.length)
    (hb : ∀ (kV doc pm : Value) (an : Option Addr) (cdv ct : Value) (us : List Value), us.length = ps.length → bindArgs (PySem.W.fnOf x qual params body scope .none kV doc pm an cdv ct) ⟨us, []⟩ = pure (ps.zip us))
    (hbody : ∀ (cdv : Value) (A : Around) (outer : List Env) (s : Shared) (H : Hp) (vs : List V) (Q : VK) (E : XK), Room k (A.deeper (envOfC qual scope s.heap.objs.size f cdv)) → sp vs H Q E →
      ∃ t, PSs (cxOf CX0 P w K mg base N qual scope f cdv A outer s H E).nox body t ∧ t { nx := fun _ H' => Q .non H', rt := Q } (start N vs) H) : Ok P w K mg base (k + 1) f ps sp := by
  obtain ⟨fd, F⟩ := F
  exact ⟨fd, F.ok S len fun cdv A outer s H vs Q E hr h => let ⟨t, a, b⟩ := hbody cdv A outer s H vs Q E hr h; ⟨t, a.nox, b⟩, F.bindsN hb, F.kp, fnIn_of F⟩

theorem rrf (a : Addr) : RelV (.ref a) (.ref a) := rfl
/-! ### what an own class defines for an operator -/
section
variable {X : Cx} {k : Nat} {f C : Addr} {ps : List Str} {sp : Sp}
/-- the def is run beside the body X, one unit deeper or not -/
theorem run_own {A : Around} {pins : List (Addr × Obj)} {σ : L2.St} {H : Hp} {s : Shared} {Q : VK} {E' : Value → Shared → Prop} {us : List Value} {vs : List V} (F : Ok X.prog X.w X.K X.mg X.base k f ps sp) (hr : Room k A) (ef : A.frames = X.A.frames)
    (I : L2.Inv X pins σ H s) (r : Vals vs us) (h : sp vs H Q E0) : wpAny (model X.prog X.w) A (call (.ref f) us) (EP X pins σ Q) E' s := by
  obtain ⟨fd, F, b, _⟩ := F.ex
  have hl : us.length = ps.length := by rw [← r.length]; exact F.len _ _ _ _ h
  have e0 : Env0 X.prog X.w X.K X.mg X.base A X.stack s H := by
    have z := I.env0
    exact ⟨ef.trans z.frames, z.mod, z.bs, z.bsz, z.funs, z.frf, z.hok, z.bare⟩
  have hb := b s us I.kIn (by rw [List.append_nil]; exact hl)
  rw [List.append_nil] at hb
  refine wpAny_call (codeAny_mono (F.run A X.stack s H ⟨us, []⟩ us vs Q E0 hr e0 hb r h) fun q s' hq => ?_)
  cases q with
  | error e => exact False.elim hq
  | ok fl =>
    cases fl with
    | ret u => exact I.after hq
    | next => exact False.elim hq
    | brk => exact False.elim hq
    | cont => exact False.elim hq
theorem at_ins {pins : List (Addr × Obj)} {σ : L2.St} {H : Hp} {s : Shared} {a dx : Addr} {fs : List (Str × V)} (I : L2.Inv X pins σ H s) (h : H a = some (.ins C dx fs)) : ∃ ox od, PySem.W.InstAt s.heap a ox C od := by
  obtain ⟨mA, J, _⟩ := ins_get I.hok h
  obtain ⟨od, J, _⟩ := J.look
  exact ⟨_, _, J⟩
/-- x in o, by the class's own __contains__ -/
def rInO (C : Addr) (sp : Sp) (neg : Bool) : R2 := fun x y H Q => ∃ a dx fs, y = .ref a ∧ H a = some (.ins C dx fs) ∧ sp [.ref a, x] H (fun v H' => ∃ b : Bool, v = .bl b ∧ Q (.bl (b != neg)) H') E0
theorem op_inO (m : Meth X.K C "__contains__" f) (F : Ok X.prog X.w X.K X.mg X.base k f ps sp) (hr : Room k X.A) : OpR X (compareOp .In) (rInO C sp false) := by
  intro pins s σ H x y v u Q I rx ry h
  obtain ⟨a, dx, fs, rfl, ha, h⟩ := h
  cases (show u = Value.ref a from ry)
  obtain ⟨ox, od, J⟩ := at_ins I ha
  obtain ⟨_, hF⟩ := I.fr
  refine PySem.W.in_K hF I.ok.mod.kin J m.at_ m.fn (thn (run_own F hr rfl I (.cons (rrf _) (.cons rx .nil)) h) fun r s' (z : EP X _ _ _ r s') => ?_)
  obtain ⟨w', H', I', rw', b, rfl, q⟩ := z
  cases (show r = Value.bool b from rw')
  refine wpAny_truthy_bool ⟨.bl b, H', I', rfl, ?_⟩
  rw [show (b != false) = b by cases b <;> rfl] at q
  exact q
theorem op_notInO (m : Meth X.K C "__contains__" f) (F : Ok X.prog X.w X.K X.mg X.base k f ps sp) (hr : Room k X.A) : OpR X (compareOp .NotIn) (rInO C sp true) := by
  intro pins s σ H x y v u Q I rx ry h
  obtain ⟨a, dx, fs, rfl, ha, h⟩ := h
  cases (show u = Value.ref a from ry)
  obtain ⟨ox, od, J⟩ := at_ins I ha
  obtain ⟨_, hF⟩ := I.fr
  refine PySem.W.notIn_K hF I.ok.mod.kin J m.at_ m.fn (thn (run_own F hr rfl I (.cons (rrf _) (.cons rx .nil)) h) fun r s' (z : EP X _ _ _ r s') => ?_)
  obtain ⟨w', H', I', rw', b, rfl, q⟩ := z
  cases (show r = Value.bool b from rw')
  refine wpAny_truthy_bool ⟨.bl (!b), H', I', rfl, ?_⟩
  rw [show (b != true) = !b by cases b <;> rfl] at q
  exact q
/-- o[i], by the class's own __getitem__ -/
def rIxO (C : Addr) (sp : Sp) : R2 := fun x y H Q => ∃ a dx fs, x = .ref a ∧ H a = some (.ins C dx fs) ∧ sp [.ref a, y] H Q E0
def SubOwn (b : Expr) : Prop := ∀ (x : Addr) (i : Value), subscripted b true (.ref x) i = runValue (.builtin "lifetime.subscript" ⟨[.ref x, i], []⟩)
theorem pe_ixO {a b : Expr} {ta tb : TE} {pos : Pos} (m : Meth X.K C "__getitem__" f) (F : Ok X.prog X.w X.K X.mg X.base k f ps sp) (hr : Room (k + 1) X.A) (ha : PE X a ta) (hb : PE X b tb) (hs : SubOwn b) : PE X (.Subscript a b pos) (tOp (rIxO C sp) ta tb) := by
  refine ⟨fun pins s σ H Q I h => ?_⟩
  refine Subscript_ (binT ha hb I h fun v u s2 x y H2 I2 rx ry q => ?_)
  obtain ⟨p, dx, fs, rfl, hp, q⟩ := q
  cases (show v = Value.ref p from rx)
  obtain ⟨ox, od, J⟩ := at_ins I2 hp
  obtain ⟨_, hF⟩ := I2.fr
  have hfn : PySem.W.fnIn X.K f = true := let ⟨_, _, _, _, z⟩ := F.ex; z
  exact PySem.W.sub_K hF I2.ok.mod.kin J m.at_ hfn m.fn (run_own F hr.in1 rfl I2 (.cons (rrf _) (.cons ry .nil)) q) (hs _ _)
/-- o[i] = v, by the class's own __setitem__ -/
def rSetO (C : Addr) (sp : Sp) : TSet := fun o i v H Q => ∃ a dx fs, o = .ref a ∧ H a = some (.ins C dx fs) ∧ sp [.ref a, i, v] H (fun _ H' => Q H') E0
theorem set_own (m : Meth X.K C "__setitem__" f) (ns : PySem.W.noSeq X.K C = true) (F : Ok X.prog X.w X.K X.mg X.base k f ps sp) (hr : Room k X.A) : PSet X (rSetO C sp) := by
  intro pins s σ H o i v ov iv u Q I ro ri rv h
  obtain ⟨a, dx, fs, rfl, ha, h⟩ := h
  cases (show ov = Value.ref a from ro)
  obtain ⟨ox, od, J⟩ := at_ins I ha
  obtain ⟨_, hF⟩ := I.fr
  refine PySem.W.ksp_setItem hF I.ok.mod.kin J ns m.at_ m.fn (thn (run_own F hr rfl I (.cons (rrf _) (.cons ri (.cons rv .nil))) h) fun r s' (z : EP X _ _ _ r s') => ?_)
  obtain ⟨_, H', I', _, q⟩ := z
  exact ⟨H', I', q⟩
/-- len(o), by the class's own __len__ -/
def rLenO (C : Addr) (sp : Sp) : List V → Hp → VK → Prop := fun xs H Q => ∃ a dx fs, xs = [.ref a] ∧ H a = some (.ins C dx fs) ∧ sp [.ref a] H (fun v H' => ∃ n : Int, v = .int n ∧ (0 ≤ n ∧ n < 2 ^ 63) ∧ Q (.int n) H') E0
theorem call_lenO (m : Meth X.K C "__len__" f) (F : Ok X.prog X.w X.K X.mg X.base k f ps sp) (hr : Room (k + 1) X.A) : CallR X (.builtin "len") (rLenO C sp) := by
  intro pins s σ H xs us Q I r h
  obtain ⟨a, dx, fs, rfl, ha, h⟩ := h
  obtain ⟨u, rfl, ru⟩ := vals1 r
  cases (show u = Value.ref a from ru)
  obtain ⟨ox, od, J⟩ := at_ins I ha
  obtain ⟨_, hF⟩ := I.fr
  refine PySem.W.len_K hF I.ok.mod.kin J m.at_ m.fn (thn (run_own F hr.in1 rfl I (.cons (rrf _) .nil) h) fun r s' (z : EP X _ _ _ r s') => ?_)
  obtain ⟨w', H', I', rw', n, rfl, b, q⟩ := z
  obtain ⟨t, rfl⟩ := (show ∃ t, r = Value.int n t from rw')
  exact ⟨b, .int n, H', I'.tok _, ⟨_, rfl⟩, q⟩
end
end Bk

set_option Elab.async false
set_option linter.all false
set_option maxRecDepth 100000
set_option maxHeartbeats 2000000
/-! Own layer 2: defs that are run where no repr is under way; repr of data; the law's end for such a def. -/
namespace Bk
open PySem PySem.Spec PyProof.Rows L2

/-- as Ok, promised only where no repr runs around -/
structure OkG (P : Program) (w : World) (K : PySem.W.Frag) (mg : Str → Option Value) (base : Heap) (k : Nat) (f : Addr) (ps : List Str) (sp : Sp) : Prop where
  kp : PySem.W.keepIn K (.ref f) = true
  len : ∀ vs H Q, sp vs H Q E0 → vs.length = ps.length
  go : ∀ (A : Around) (outer : List Env) (s : Shared) (H : Hp) (us : List Value) (vs : List V) (Q : VK), Room k A → A.guards = some [] → Env0 P w K mg base A outer s H → Vals vs us → sp vs H Q E0 →
    codeAny (model P w) A (.call (.ref f) ⟨us, []⟩) (CR CX0 outer P w H s Q E0) s
theorem Ok.g {P : Program} {w : World} {K : PySem.W.Frag} {mg : Str → Option Value} {base : Heap} {k : Nat} {f : Addr} {ps : List Str} {sp : Sp} (o : Ok P w K mg base k f ps sp) : OkG P w K mg base k f ps sp := by
  obtain ⟨fd, F, b, kp, _⟩ := o.ex
  refine ⟨kp, fun vs H Q h => F.len _ _ _ _ h, fun A outer s H us vs Q hr _ e0 r h => ?_⟩
  have KX : K.In s.heap := e0.mod.kin.keeps fun b o e => (e0.bs b o e).1
  have hb := b s us KX (by rw [List.append_nil, ← r.length]; exact F.len _ _ _ _ h)
  rw [List.append_nil] at hb
  exact F.run A outer s H ⟨us, []⟩ us vs Q E0 hr e0 hb r h
theorem fd_okG {P : Program} {w : World} {K : PySem.W.Frag} {mg : Str → Option Value} {base : Heap} {x qual : Str} {params : Arguments} {body : List Stmt} {scope : Scope} {f : Addr} {N ps : List Str} {k : Nat} {sp : Sp}
    (F : ∃ fd, FunD K x qual params body scope [] [] f fd) (S : FnScope N ps scope) (len : ∀ vs H Q, sp vs H Q E0 → vs.length = ps.length)
    (hb : ∀ (kV doc pm : Value) (an : Option Addr) (cdv ct : Value) (us : List Value), us.length = ps.length → bindArgs (PySem.W.fnOf x qual params body scope .none kV doc pm an cdv ct) ⟨us, []⟩ = pure (ps.zip us))
    (hbody : ∀ (cdv : Value) (A : Around) (outer : List Env) (s : Shared) (H : Hp) (vs : List V) (Q : VK), Room k (A.deeper (envOfC qual scope s.heap.objs.size f cdv)) → A.guards = some [] → sp vs H Q E0 →
      ∃ t, PSs (cxOf CX0 P w K mg base N qual scope f cdv A outer s H E0).nox body t ∧ t { nx := fun _ H' => Q .non H', rt := Q } (start N vs) H) : OkG P w K mg base (k + 1) f ps sp := by
  obtain ⟨fd, F⟩ := F
  refine ⟨F.kp, len, fun A outer s H us vs Q hr hG e0 r hsp => ?_⟩
  have hl := len _ _ _ hsp
  have bind : BindsTo s fd ⟨us, []⟩ (ps.zip us) := F.bindsA hb s us (by rw [← r.length]; exact hl)
  obtain ⟨oc, od, dV, kV, doc, pm, an, cdv, ct, osl, rfl, lk, hcd, _, _⟩ := F.ex
  have KX : K.In s.heap := e0.mod.kin.keeps fun b o e => (e0.bs b o e).1
  have lim : s.heap.NoLimit := e0.mod.nolimit.keeps fun b o e => (e0.bs b o e).1
  refine codeAny_call_function hr.depth (KX _ _ lk) rfl S.co S.gen rfl (PySem.W.codeRec_of KX hcd) (bind _ _ _ _ (wpAny_newFunctionEnv_cells S.kind (fun ⟨n, v⟩ hy => ?_) fun env he s1 x => ?_))
  · refine (S.par n (List.of_mem_zip hy).1).imp id fun q => ⟨q, PySem.W.cellsFrom_some _ _ _ (.inl q)⟩
  · subst he
    obtain ⟨t, ht, hq⟩ := hbody cdv A outer s H vs Q (hr.deeper _) hG hsp
    have I : L2.Inv (cxOf CX0 P w K mg base N qual scope f cdv A outer s H E0) [] (start N vs) H s1 := inv_start S hr.hd e0 hl r x
    refine ⟨lim.keeps x.toInCall.keep, codeAny_func (wpAny_mono (ht.nox.run [] s1 (start N vs) H _ I hq) (fun fl s' hs => ?_) fun e s' hs => hs)⟩
    cases fl with
    | ret u =>
      obtain ⟨v, _, H', J, rv, q⟩ := hs
      exact ⟨v, H', J.os, J.bare, J.base, J.hok, rv, q⟩
    | next =>
      obtain ⟨_, H', J, q⟩ := hs
      exact ⟨V.non, H', J.os, J.bare, J.base, J.hok, rfl, q⟩
    | brk => exact hs.elim fun _ z => z.elim fun _ z => z.2.elim
    | cont => exact hs.elim fun _ z => z.elim fun _ z => z.2.elim
section
variable {X : Cx} {k : Nat} {f C : Addr} {ps : List Str} {sp : Sp} {x m : Str} {p pos apos : Pos} {e o : Expr} {es : List Expr} {ta : TE} {t : TA}
theorem run_g {pins : List (Addr × Obj)} {σ : L2.St} {H : Hp} {s : Shared} {Q : VK} {us : List Value} {vs : List V} (F : OkG X.prog X.w X.K X.mg X.base k f ps sp) (hr : Room k X.A) (hG : X.A.guards = some [])
    (I : L2.Inv X pins σ H s) (r : Vals vs us) (h : sp vs H Q E0) : wpAny (model X.prog X.w) X.A (call (.ref f) us) (EP X pins σ Q) X.xe s := by
  refine wpAny_call (codeAny_mono (F.go X.A X.stack s H us vs Q hr hG I.env0 r h) fun q s' hq => ?_)
  cases q with
  | error e => exact False.elim hq
  | ok fl =>
    cases fl with
    | ret u => exact I.after hq
    | next => exact False.elim hq
    | brk => exact False.elim hq
    | cont => exact False.elim hq
/-- f(e, ..) of such a def -/
theorem pe_callG (F : OkG X.prog X.w X.K X.mg X.base k f ps sp) (hr : Room k X.A) (hG : X.A.guards = some []) (hg : Gl X x) (hm : X.mg x = some (.ref f)) (ha : PA X (e :: es) t)
    (hdb : (x == ("__debug__" : Str)) = false := by decide) (he : starEach (e :: es) X.env = (false, eval e X.env) :: starEach es X.env := by rfl) (hpl : (backTo pos (starEach es X.env)).any (·.1) = false := by rfl) :
    PE X (.Call (.Name x p) (e :: es) [] pos) (tCall sp [] E0 t) := by
  refine ⟨fun pins s σ H Q I h => wpAny_Call_Name_kw (ld_glob I hg hm ?_ hdb)⟩
  refine PySem.W.callWith_K (h₀ := X.base) I.ok.mod.kin F.kp (thn (ha.run pos pins s σ H _ I h) fun us s1 ⟨vs, H1, I1, r, q⟩ => ⟨I1.kIn, run_g F hr hG I1 r ?_⟩) he hpl
  have q2 : sp (vs ++ []) H1 Q E0 := q
  rw [List.append_nil] at q2
  exact q2
end

/-! ### repr of data -/
/-- repr(x), x None, a bool, an int, a text, or lists and tuples of these -/
def rRepr (K : PySem.W.Frag) : List V → Hp → VK → Prop := fun xs H Q => ∃ (a : Addr) (d : PyData), xs = [.ref a] ∧ Dp K H (.ref a) d ∧ d.showable = true ∧ d.hasDict = false ∧ d.depth ≤ 60 ∧ d.shown.length ≤ sizeLine ∧ Q (.str d.shown) H
theorem call_repr {X : Cx} {k : Nat} (hr : Room k X.A) (hG : X.A.guards = some []) : CallR X (.builtin "repr") (rRepr X.K) := by
  intro pins s σ H xs us Q I r h
  obtain ⟨a, d, rfl, hd, h1, h2, h3, h4, q⟩ := h
  obtain ⟨u, rfl, ru⟩ := vals1 r
  cases (show u = Value.ref a from ru)
  obtain ⟨as, R⟩ := Dp.reads I d _ _ hd ru
  refine repr_of_reads' R h1 (PyData.noDict_hsm h2) hG (by have := hr.units; omega) (fun _ _ e => e) (fun h' u tk hk => ?_) h4
  exact ⟨.str d.shown, H, I.kept (h' := h') hk, ⟨_, rfl⟩, q⟩
end Bk

set_option Elab.async false
set_option linter.all false
set_option maxRecDepth 100000
set_option maxHeartbeats 2000000
/-! Own layer 3: the end of a law whose defs ask that no repr is under way; products of very great ints. -/
namespace Bk
open PySem PySem.Spec PyProof.Rows L2

/-- the law's def, called by the outside: from an abstract heap that knows the script alone -/
theorem end_from {P : Program} {w : World} {K : PySem.W.Frag} {mg mb : Str → Option Value} {k : Nat} {fa a : Addr} {x : Str} {sp : Sp} {s1 : Shared} {vs : List Value} {ns : List Int} {H : Hp}
    (KX : K.In s1.heap) (hns : s1.heap.Ns mainGlobals mg) (hb : s1.heap.Ns builtinsNs mb) (hbb : ∀ x : Str, x ≠ "__name__" → mb x = bootBuiltins x) (lim : s1.heap.NoLimit) (hg : s1.gens = #[])
    (ha : s1.heap.get? a = some { cls := .type "list", data := .seq vs.toArray }) (hr : Room k callerA)
    (F : ∀ base : Heap, K.In base → base.Ns mainGlobals mg → OkG P w K mg base k fa [x] sp) (hO : Only H) (hok : HOk P w H s1.heap) (one : ∀ b, H b ≠ none → b = a) (hK : H a ≠ none → K.lookup a = none)
    (hsp : sp [.ref a] H (fun v _ => v = .bl true) E0) :
    codeAny (model P w) callerA (.call (.ref fa) ⟨[.ref a], []⟩) (fun r s' => r = .ok (.ret (.bool true)) ∧ OldK s1.heap s'.heap ∧ s'.os = s1.os ∧ AllBare s'.gens) s1 := by
  have none_of : ∀ b : Addr, (H b ≠ none → False) → H b = none := fun b h => by
    cases q : H b with
    | none => rfl
    | some u => exact (h (by rw [q]; simp)).elim
  -- what is no list stands in the hidden heap, too
  have ns_hid : ∀ {b : Addr} {m : Str → Option Value}, s1.heap.Ns b m → (hidT s1.heap H).Ns b m := by
    rintro b m ⟨o, es, ep, e, d, r⟩
    refine ⟨o, es, ep, hidT_get e (none_of b fun q => ?_), d, r⟩
    rw [one b q, ha] at e
    cases e
    cases (show Data.seq vs.toArray _ = Data.dict es ep from d)
  have k_hid : K.In (hidT s1.heap H) := fun b o e => hidT_get (KX b o e) (none_of b fun q => by
    have eb := one b q
    rw [eb, hK (eb ▸ q)] at e
    cases e)
  have hM : Mod K mg (hidT s1.heap H) := ⟨k_hid, ns_hid hns, ⟨mb, ns_hid hb, hbb⟩, lim.elim fun mc z => ⟨mc, ns_hid z.1, z.2⟩⟩
  have e0 : Env0 P w K mg (hidT s1.heap H) callerA [] s1 H := ⟨rfl, hM, fun b o e => of_hidT e, Nat.le_of_eq (hidT_size _ _), trivial, fun b hb => (by simp [frs] at hb), hok, .of_eq hg⟩
  refine codeAny_mono ((F _ k_hid (ns_hid hns)).go callerA [] s1 H [.ref a] [.ref a] _ hr rfl e0 (.cons (rrf a) .nil) hsp) fun r s' h => ?_
  cases r with
  | error e => exact False.elim h
  | ok fl =>
    cases fl with
    | next => exact False.elim h
    | brk => exact False.elim h
    | cont => exact False.elim h
    | ret u =>
      obtain ⟨v, H', os, bare, un, hok', rv, q⟩ := h
      rw [show v = V.bl true from q] at rv
      cases (show u = Value.bool true from rv)
      refine ⟨rfl, OldK.of_keep fun b o e => ?_, os, bare⟩
      rcases hO b with z | ⟨ob, xs, z⟩
      · exact un.keep b o e z (by simp [frs]) (by simp)
      · rw [(hok b _ z).1] at e
        cases e
        exact (hok' b _ (un.frzs b _ _ z)).1
/-- the same, whatever the script is -/
theorem end_call {P : Program} {w : World} {K : PySem.W.Frag} {mg mb : Str → Option Value} {k : Nat} {fa a : Addr} {x : Str} {sp : Sp} {s1 : Shared} {vs : List Value} {ns : List Int}
    (KX : K.In s1.heap) (hns : s1.heap.Ns mainGlobals mg) (hb : s1.heap.Ns builtinsNs mb) (hbb : ∀ x : Str, x ≠ "__name__" → mb x = bootBuiltins x) (lim : s1.heap.NoLimit) (hg : s1.gens = #[])
    (ha : s1.heap.get? a = some { cls := .type "list", data := .seq vs.toArray }) (hi : IntsAre vs ns) (hl : ns.length ≤ sizeLine) (hr : Room k callerA)
    (F : ∀ base : Heap, K.In base → base.Ns mainGlobals mg → OkG P w K mg base k fa [x] sp)
    (hsp : ∀ H : Hp, SqL K H a (ns.map V.int) → sp [.ref a] H (fun v _ => v = .bl true) E0) :
    codeAny (model P w) callerA (.call (.ref fa) ⟨[.ref a], []⟩) (fun r s' => r = .ok (.ret (.bool true)) ∧ OldK s1.heap s'.heap ∧ s'.os = s1.os ∧ AllBare s'.gens) s1 := by
  have rv := vals_ints hi
  cases hk : K.lookup a with
  | some o =>
    have e := KX a o hk
    rw [ha] at e
    cases e
    refine end_from (ns := ns) (H := fun _ => none) KX hns hb hbb lim hg ha hr F (fun _ => .inl rfl) (fun b u z => nomatch z) (fun b z => absurd rfl z) (fun z => absurd rfl z) (hsp _ (.inr ⟨_, vs.toArray, _, hk, rfl, rfl, rfl, ?_, by simpa using rv⟩))
    rw [List.size_toArray, hi.length]
    exact hl
  | none =>
    let o1 : Obj := { cls := .type "list", data := .seq vs.toArray }
    refine end_from (ns := ns) (H := upd (fun _ => none) a (.frz o1 (.lst (ns.map V.int)))) KX hns hb hbb lim hg ha hr F (fun b => ?_) (fun b u z => ?_) (fun b z => ?_) (fun _ => hk) (hsp _ (.inl (.inr ⟨o1, upd_same⟩)))
    · by_cases e : b = a
      · exact .inr ⟨o1, _, by rw [e]; exact upd_same⟩
      · exact .inl (upd_ne e)
    · by_cases e : b = a
      · subst e
        rw [upd_same] at z
        cases z
        exact ⟨ha, by rw [List.length_map]; exact hl, vs, _, rv, ha⟩
      · rw [upd_ne e] at z
        cases z
    · by_cases e : b = a
      · exact e
      · exact absurd (upd_ne e) z
/-- a law's end: F gives what the top has left, the promise, the def over every base -/
theorem walk_own {l : PySem.W.OpenLaw} {n k : Nat} {q : Program} {loose : List Str} {XP : (Str → Option Value) → Heap → Prop} {YP : World → Heap → Prop} {d : DefRec} {x : Str}
    (hn : l.most = some n) (hn2 : n ≤ sizeLine) (hdf : d.params.defaults = []) (hr : Room k callerA)
    (F : ∀ (w : World) (mg : Str → Option Value) (fa : Addr) (h : Heap), YP w h → h.Ns mainGlobals mg → mg d.name = some (.ref fa) → ∃ (K : PySem.W.Frag) (sp : Sp), K.In h ∧
      (∀ (H : Hp) (a : Addr) (ns : List Int), ns.length ≤ n → (∀ i ∈ ns, Builtin.Int.intBits i ≤ 1048576) → SqL K H a (ns.map V.int) → sp [.ref a] H (fun v _ => v = .bl true) E0) ∧
      ∀ base : Heap, K.In base → base.Ns mainGlobals mg → OkG l.prog w K mg base k fa [x] sp) :
    PySem.W.WalkO q loose XP YP l.row.toRowW d [] (fun f vs => PySem.call f vs) := by
  refine Att.attach_callB hn hdf fun w s0 s1 mg mb fa o pm cd doc a vs ns G Y ho hd hcd hmg hobj hints hlen hbits hg => ?_
  obtain ⟨K, sp, KX, hsp, hF⟩ := F w mg fa _ Y G.T.g hmg
  exact end_call KX G.T.g G.T.b G.T.builtins G.T.nolimit hg hobj hints (Nat.le_trans hlen hn2) hr hF fun H hS => hsp H a ns hlen hbits hS

/-! ### products of ints of some million bits -/
def CMulX (i j : Int) : Prop := i.natAbs.log2 + j.natAbs.log2 < 100000000
theorem CMulX.ok {i j : Int} (h : CMulX i j) : IntMulOk i j := by
  have b : ∀ x : Int, Builtin.Int.intBits x ≤ x.natAbs.log2 + 1 := fun x => by
    unfold Builtin.Int.intBits
    split <;> omega
  have h1 := b i
  have h2 := b j
  have h3 : i.natAbs.log2 + j.natAbs.log2 < 100000000 := h
  have e : bitsLine = 134217728 := by decide
  unfold IntMulOk
  intro z
  have z2 := of_decide_eq_true (Bool.and_eq_true_iff.mp z).2
  rw [e] at z2
  omega
theorem op_mulX {X : Cx} : OpR X (binaryOp .Mult) (rI CMulX fun i j => .int (i * j)) := opI fun _ _ _ _ _ _ _ hc q => mul_int q hc.ok
theorem mulX {i j : Int} {a b : Nat} (ha : i.natAbs < 2 ^ a) (hb : j.natAbs < 2 ^ b) (h : a + b ≤ 90000000 := by decide) (h0 : 0 < a := by decide) (h1 : 0 < b := by decide) : CMulX i j := by
  have x := PySem.Flt.log2_lt_of h0 ha
  have y := PySem.Flt.log2_lt_of h1 hb
  unfold CMulX
  omega
end Bk

set_option Elab.async false
set_option linter.all false
set_option maxRecDepth 100000
set_option maxHeartbeats 2000000
/-! Own layer 4: a field as a target among others. -/
namespace Bk
open PySem PySem.Spec PyProof.Rows L2
/-- o.f = .. -/
def gFld (K : PySem.W.Frag) (to : TE) (f : Str) : TG := fun v σ H Q => to σ H fun x H1 => ∃ a C dx fs, x = .ref a ∧ H1 a = some (.ins C dx fs) ∧ Cls K C ∧ NoAttr K C f ∧ fs.length < 1000 ∧ Q σ (upd H1 a (.ins C dx (putF f v fs)))
theorem pg_fld {X : Cx} {o : Expr} {f : Str} {pos : Pos} {to : TE} (ho : PE X o to)
    (ha : ∀ v, assign (.Attribute o f pos) X.env v = (do
      let ov ← holding [v] (eval o X.env)
      standAt pos.atName
      holding [v, ov] (setAttr ov f v)
      release [v, ov] []) := by intro _; rfl) : PG X (.Attribute o f pos) (gFld X.K to f) := by
  refine ⟨fun pins s σ H v u Q I r h => ?_⟩
  rw [ha]
  refine wpAny_bind (wpAny_holding (thn (ho.run pins s σ H _ I h) fun ov s1 ⟨x, H1, I1, rx, a, C, dx, fs, ex, ea, c, n, l, q⟩ => ?_))
  subst ex
  obtain rfl : ov = Value.ref a := rx
  refine wpAny_bind (wpAny_standAt (wpAny_bind (wpAny_holding (setattr_ok I1 ea c n l r fun s3 I3 => ?_))))
  exact wpAny_release ⟨σ, _, I3, q⟩
/-- a def with defaults, all its parameters given -/
theorem fd_okD {P : Program} {w : World} {K : PySem.W.Frag} {mg : Str → Option Value} {base : Heap} {x qual : Str} {params : Arguments} {body : List Stmt} {scope : Scope} {dvs : List V} {f : Addr} {N ps : List Str} {k : Nat} {sp : Sp}
    (F : ∃ fd, FunD K x qual params body scope dvs [] f fd) (hd : dvs ≠ []) (S : FnScope N ps scope) (len : ∀ vs H Q E, sp vs H Q E → vs.length = ps.length)
    (hb : ∀ (T : Addr) (kV doc pm : Value) (an : Option Addr) (cdv ct : Value) (us its : List Value), us.length = ps.length → its.length = dvs.length →
      ∃ k, bindArgs (PySem.W.fnOf x qual params body scope (.ref T) kV doc pm an cdv ct) ⟨us, []⟩ = seqItems? (.ref T) >>= k ∧ k (some its.toArray) = pure (ps.zip us))
    (hbody : ∀ (cdv : Value) (A : Around) (outer : List Env) (s : Shared) (H : Hp) (vs : List V) (Q : VK) (E : XK), Room k (A.deeper (envOfC qual scope s.heap.objs.size f cdv)) → sp vs H Q E →
      ∃ t, PSs (cxOf CX0 P w K mg base N qual scope f cdv A outer s H E).nox body t ∧ t { nx := fun _ H' => Q .non H', rt := Q } (start N vs) H) : Ok P w K mg base (k + 1) f ps sp := by
  obtain ⟨fd, F⟩ := F
  obtain ⟨ds, v, b⟩ := F.binds1 (ps := ps) ps.length dvs.length hd (by omega) fun T kV doc pm an cdv ct us its h1 h2 => by
    obtain ⟨k, e1, e2⟩ := hb T kV doc pm an cdv ct us its h1 h2
    refine ⟨k, e1, ?_⟩
    rw [e2, ← h2, List.drop_length, List.append_nil]
  rw [List.drop_length] at v
  cases v
  exact ⟨fd, F.ok S len fun cdv A outer s H vs Q E hr h => let ⟨t, a, b⟩ := hbody cdv A outer s H vs Q E hr h; ⟨t, a.nox, b⟩, b, F.kp, fnIn_of F⟩
end Bk

set_option Elab.async false
set_option linter.all false
set_option maxRecDepth 100000
set_option maxHeartbeats 4000000
/-! Own layer 5: for i, x in enumerate(a tuple). -/
namespace BkE
open PySem PySem.SeqAt
open AutoSeq1 (wpAny_loadPart')
theorem meets_enumT {v : Value} {o : Obj} {H : Heap → Prop} (B : Begins v o H) :
    Meets (Builtin.«enumerate.__new__» ⟨[.type "enumerate", v], []⟩) (fun _ R s => H s.heap ∧
      R (.ok (.ret (.ref (s.heap.push o).objs.size))) { s with heap := (s.heap.push o).push { cls := .type "enumerate", data := .fields #[.none, .bool false, .ref s.heap.objs.size, rawInt 0, .none, .none] } }) :=
  .of_wp fun prog w A R s h => by
    obtain ⟨hp, g, d, tk, os⟩ := s
    obtain ⟨h1, h⟩ := h
    have hsub := sub_enumerate
    have step : ∀ {A' : Around} {E : Value → Shared → Prop} {Q : Value → Shared → Prop}, Q (.ref hp.objs.size) ⟨hp.push o, g, d, tk, os⟩ → wpAny (model prog w) A' (pyIter v) Q E ⟨hp, g, d, tk, os⟩ :=
      fun q => B.iter prog w _ _ ⟨hp, g, d, tk, os⟩ _ h1 q
    wp_walk using step
    refine wpAny_stack_any fun st => wpAny_pure ?_
    split
    · rename_i c _ _ _ _ _
      cases (c == Value.type "enumerate") <;> (wp_walk using step) <;> exact ⟨_, rfl, h⟩
    · wp_walk using step
      exact ⟨_, rfl, h⟩
theorem call_enumT {prog : Program} {w : World} {A : Around} {E : Value → Shared → Prop} {s : Shared} {t : Addr} {items : Array Value} {Q : Value → Shared → Prop} (hT : s.heap.IsTuple t items)
    (h : ∀ h', IsEnum h' (s.heap.objs.size + 1) s.heap.objs.size 0 .none → h'.IsTupleIter s.heap.objs.size t 0 → h'.objs.size = s.heap.objs.size + 2 → (∀ b o, s.heap.get? b = some o → h'.get? b = some o) →
      Q (.ref (s.heap.objs.size + 1)) { s with heap := h' }) : wpAny (model prog w) A (call (.type "enumerate") [.ref t]) Q E s := by
  refine callType_new F.called_enumerate (by decide) (F.typeCall_enumerate_1 _) (F.newCall_enumerate_1 _) (fun obj => F.args_object_init_2 obj _) F.entry_enumerate_new (meets_enumT (begins_tuple t items)) ⟨hT, ?_⟩
  generalize ho : ({ cls := .type "tuple_iterator", data := .fields #[.ref t, .int 0 0] } : Obj) = o
  have fo : o.isFreed = false := by rw [← ho]; rfl
  have hz : (s.heap.push o).objs.size = s.heap.objs.size + 1 := Heap.size_push ..
  show _ ∧ _
  rw [hz]
  generalize hoe : ({ cls := .type "enumerate", data := .fields #[.none, .bool false, .ref s.heap.objs.size, rawInt 0, .none, .none] } : Obj) = oe
  have fe : oe.isFreed = false := by rw [← hoe]; rfl
  have he : ((s.heap.push o).push oe).get? (s.heap.objs.size + 1) = some oe := by
    have z := Heap.get?_push_size (s.heap.push o) (o := oe) fe
    rw [hz] at z
    exact z
  have hit : ((s.heap.push o).push oe).get? s.heap.objs.size = some o := Heap.get?_push_of_some _ (Heap.get?_push_size _ fo)
  refine ⟨⟨oe, he, by rw [← hoe]⟩, h _ (by rw [← hoe] at he ⊢; exact he) ⟨o, hit, by rw [← ho], by rw [← ho]; rfl⟩ (by rw [Heap.size_push, hz]) fun b q x => Heap.get?_push_of_some _ (Heap.get?_push_of_some _ x)⟩
end BkE
namespace Bk
open PySem PySem.Spec PyProof.Rows L2
/-- the tuple at a, each item in a new pair behind its place -/
def IteT (K : PySem.W.Frag) (a : Addr) : It :=
  ⟨fun i H => ∃ (xs : List V) (x : V), SqT K H a xs ∧ xs[i]? = some x, fun i H v H' => ∃ T x, v = .ref T ∧ H T = none ∧ H' = upd H T (.tup [.int (i : Nat), x]) ∧ ∀ xs, SqT K H a xs → xs[i]? = some x, fun i H => ∃ xs : List V, SqT K H a xs ∧ xs.length ≤ i⟩
theorem turn_enumT {P : Program} {w : World} {K : PySem.W.Frag} {elts : List Expr} {kk : Nat} {tpos : Pos} (a e it : Addr) :
    Turn P w K (.Tuple elts kk tpos) (IteT K a) [e, it] e (fun i h => (∃ old, IsEnum h e it ((i : Nat) : Int) old) ∧ h.IsTupleIter it a i ∧ e ≠ it ∧ a ≠ it ∧ e ≠ a) where
  mem := by simp
  obj := fun i h st b hb => by
    obtain ⟨⟨old, he⟩, ⟨o, ho, hc, hd⟩, _⟩ := st
    rcases (show b = e ∨ b = it by simpa using hb) with z | z
    · refine ⟨_, by rw [z]; exact he, fun v q => ?_⟩
      cases q
    · exact ⟨o, by rw [z]; exact ho, fun v q => by rw [hd] at q; cases q⟩
  keep := fun i h h' st k => let ⟨⟨old, he⟩, hi, hne⟩ := st; ⟨⟨old, k e (by simp) _ he⟩, hi.at fun o q => k it (by simp) o q, hne⟩
  item := by
    intro X hP hw hK hc i pins s σ H E I hf st hg
    subst hP hw hK
    obtain ⟨⟨old, he⟩, hit, hne, hai, hea⟩ := st
    obtain ⟨xs, x, hq, hx⟩ := hg
    obtain ⟨its, rv, p, hz⟩ := I.tuple hq
    obtain ⟨u, hu, ru⟩ := rv.get hx
    have hlt : i < its.toArray.size := by simpa using (List.getElem?_eq_some_iff.mp hu).1
    have hel : e < s.heap.objs.size := Heap.lt_size he
    have hil : it < s.heap.objs.size := by obtain ⟨_, q, _⟩ := hit; exact Heap.lt_size q
    refine wpAny_pyNext_enum_itemD (Draws.tuple (A := X.A.in1) (I.ok.hd hc) it a hai its.toArray) he ⟨hit, p⟩ hlt hne (by simpa using ⟨hne, hea⟩) fun y h' tk hy ho hst' hT hsz hk => ?_
    obtain rfl : y = u := by
      have z : its[i]? = some y := by simpa using hy
      rw [hu] at z
      exact (Option.some.inj z).symm
    refine ⟨_, rfl, wpAny_letOwnedTupleGo_enum (s := { s with heap := h', toks := tk + 1 }) ho fun h'' he' sb => ?_⟩
    have hT2 : h''.get? s.heap.objs.size = some { cls := .type "tuple", data := .seq #[.int i tk, y] } := (sb.2 _ (Nat.ne_of_gt hel)).trans hT
    have new : ObjOk X.prog X.w (upd H s.heap.objs.size (.tup [.int (i : Nat), x])) h'' s.heap.objs.size (.tup [.int (i : Nat), x]) :=
      ⟨by show 2 ≤ sizeLine; decide, [.int i tk, y], .cons ⟨_, rfl⟩ (.cons ru .nil), ⟨_, hT2, rfl, _, rfl⟩⟩
    have I1 : L2.Inv X pins σ (upd H s.heap.objs.size (.tup [.int (i : Nat), x])) { s with heap := h'', toks := tk + 1 } :=
      I.turnedNew (ch := [e, it]) (fun b ob hb q => (sb.2 b (fun z => hb (by simp [z]))).trans (hk b ob (fun z => hb (by simp [z])) (fun z => hb (by simp [z])) q)) hf (Nat.le_refl _) new
    refine ⟨.ref s.heap.objs.size, _, I1, rfl, ⟨_, x, rfl, I.hok.fresh (Nat.le_refl _), rfl, fun ys hy => by rw [I.tuple_inj hy hq]; exact hx⟩, ⟨⟨y, ?_⟩, hst'.1.at fun o q => (sb.2 it (Ne.symm hne)).trans q, hne, hai, hea⟩, fun b hb => ?_⟩
    · rw [show ((i + 1 : Nat) : Int) = (i : Int) + 1 by omega]
      exact he'
    · have hb' : b < s.heap.objs.size := by
        rcases (show b = e ∨ b = it by simpa using hb) with z | z
        · rw [z]; exact hel
        · rw [z]; exact hil
      rw [upd_ne (Nat.ne_of_lt hb')]
      exact (hf b hb).1
  done := by
    intro X hP hw hK hc i pins s σ H E I hf st hg
    subst hP hw hK
    obtain ⟨⟨old, he⟩, hit, hne, hai, hea⟩ := st
    obtain ⟨xs, hq, hx⟩ := hg
    obtain ⟨its, rv, p, hz⟩ := I.tuple hq
    obtain ⟨f0, f1, f2, f3, f4, f5⟩ := hf it (by simp)
    have hl := rv.length
    have hT : s.TypeIs (.ref e) "enumerate" := ⟨_, he, rfl⟩
    unfold pyNext
    refine wpAny_bind (wpAny_attempt (wpAny_callSpecial?_slot (name := Str.ofString "__next__") hT F.slot_enumerate_next (wpAny_call_entry F.slot_enumerate_next hT F.entry_enumerate_next ?_ (F.args_enumerate_next_1 _))))
    show wpAny _ _ (field (.ref e) 2 >>= _) _ _ _
    refine wpAny_bind (wpAny_field he rfl (x := .ref it) rfl ?_)
    refine wpAny_bind (wpAny_nextOf_tuple_end (I.ok.hd hc) hit p (by simp; omega) fun h' y eb hy => ?_)
    obtain ⟨o, ho, hoc⟩ := hy
    refine wpAny_bind (wpAny_isInstance (T := "StopIteration") (b := true) ⟨o, ho, hoc⟩ isSubtype_stop ?_)
    exact wpAny_pure ⟨rfl, I.turned (t' := s.toks) (fun b o hb q => eb b o hb q) f0 f1 f3 f4 f5⟩
  self := fun A i s Q E st h => let ⟨⟨_, he⟩, _⟩ := st; wpAny_pyIter_enum he h
def iEnumT (K : PySem.W.Frag) (ta : TA) : TI := fun σ H R => ta σ H fun vs H1 => ∃ a xs, vs = [.ref a] ∧ SqT K H1 a xs ∧ R (IteT K a) H1
theorem pi_enumT {X : Cx} {e : Expr} {ta : TA} {p pos tpos : Pos} {elts : List Expr} {kk : Nat} (hg : Gl X "enumerate") (hm : X.mg "enumerate" = none) (ha : PA X [e] ta) (hs : starEach [e] X.env = [(false, eval e X.env)] := by rfl) :
    PI X (.Tuple elts kk tpos) (.Call (.Name "enumerate" p) [e] [] pos) (iEnumT X.K ta) := by
  refine ⟨fun pins s σ H R I h => Call_ (ld_blt I hg hm boot_enumerate (PyProof.Rows.callWith_type1 (thn (ha.run pos pins s σ H _ I h) fun us s1 ⟨vs, H1, I1, r1, q1⟩ => ?_) hs rfl))⟩
  obtain ⟨a, xs, rfl, hq, q⟩ := q1
  obtain ⟨u, rfl, ru⟩ := vals1 r1
  cases (show u = Value.ref a from ru)
  obtain ⟨its, rv, p', hz⟩ := I1.tuple hq
  have hal : a < s1.heap.objs.size := by obtain ⟨o, ho, _⟩ := p'; exact Heap.lt_size ho
  refine BkE.call_enumT p' fun h' he hit hsz hk => wpAny_pyIter_enum he ?_
  have I2 : L2.Inv X pins σ H1 { s1 with heap := h' } := I1.kept (t' := s1.toks) hk
  refine ⟨s1.heap.objs.size + 1, [s1.heap.objs.size + 1, s1.heap.objs.size], _, _, H1, rfl, I2, turn_enumT a (s1.heap.objs.size + 1) s1.heap.objs.size, ⟨⟨.none, he⟩, hit, Nat.succ_ne_self _, Nat.ne_of_lt hal, Nat.ne_of_gt (Nat.lt_succ_of_lt hal)⟩, fun b hb => ?_, q⟩
  have hle : s1.heap.objs.size ≤ b := by
    rcases (show b = s1.heap.objs.size + 1 ∨ b = s1.heap.objs.size by simpa using hb) with z | z
    · rw [z]; exact Nat.le_succ _
    · rw [z]; exact Nat.le_refl _
  exact I1.fpOk hle (I1.hok.fresh hle)
/-- the loop's invariant over it -/
theorem for_enumT {K : PySem.W.Frag} {a : Addr} {xs : List V} {g : TG} {tb : TS} {D : Ends} {σ : L2.St} {H : Hp} (Pv : Nat → L2.St → Hp → Prop) (h0 : Pv 0 σ H) (hl : ∀ i σ H, i ≤ xs.length → Pv i σ H → SqT K H a xs)
    (hs : ∀ i x T σ H, xs[i]? = some x → Pv i σ H → H T = none → g (.ref T) σ (upd H T (.tup [.int (i : Nat), x])) fun σ2 H2 => tb { D with nx := Pv (i + 1), ct := Pv (i + 1), bk := D.nx } σ2 H2) (hd : ∀ σ H, Pv xs.length σ H → D.nx σ H) :
    ∃ W : Nat → Nat → L2.St → Hp → Prop, (∃ m, W 0 m σ H) ∧ ∀ i m σ H, W i m σ H →
      ((IteT K a).stop i H ∧ D.nx σ H) ∨ ((IteT K a).go i H ∧ ∃ N : L2.St → Hp → Prop, (∀ σ' H', N σ' H' → ∃ m', m' < m ∧ W (i + 1) m' σ' H') ∧ ∀ x H', (IteT K a).yld i H x H' → g x σ H' fun σ2 H2 => tb { D with nx := N, ct := N, bk := D.nx } σ2 H2) := by
  refine ⟨fun i m σ H => m = xs.length - i ∧ i ≤ xs.length ∧ Pv i σ H, ⟨xs.length, by simp, Nat.zero_le _, h0⟩, ?_⟩
  rintro i m σ H ⟨rfl, hi, p⟩
  have q := hl i σ H hi p
  by_cases hlt : i < xs.length
  · refine .inr ⟨⟨xs, xs[i], q, List.getElem?_eq_getElem hlt⟩, Pv (i + 1), fun σ' H' p' => ⟨xs.length - (i + 1), by omega, rfl, hlt, p'⟩, fun x H' y => ?_⟩
    obtain ⟨T, z, rfl, hT, rfl, hz⟩ := y
    exact hs i z T σ H (hz xs q) p hT
  · obtain rfl : i = xs.length := by omega
    exact .inl ⟨⟨xs, q, Nat.le_refl _⟩, hd σ H p⟩
end Bk

set_option Elab.async false
set_option linter.all false
set_option maxRecDepth 100000
set_option maxHeartbeats 4000000
/-! Own layer 6: the display {**d, k: v}. -/
namespace BkD
open PySem
open Sem (wp)
section
variable {prog : Program} {w : World} {K : Type} [DecidableEq K] {knd : KeyKind prog w K} {A : Around} {E : Value → Shared → Prop} {s : Shared}
theorem wpAny_dictPut_pairs {d : Addr} {kvs : List (K × Value)} {k : K} {key v : Value} {Q : Unit → Shared → Prop} (hkey : knd.is k key = true) (hm : s.heap.DictOf knd d kvs)
    (hQ : ∀ h', h'.DictOf knd d (stored kvs k v) → Heap.SameBut d s.heap h' → Q () { s with heap := h' }) (hsz : kvs.length ≤ sizeLine) :
    wpAny (model prog w) A (dictPut d (knd.hash k) key v) Q E s := by
  obtain ⟨o, es, ep, ho, hc, hd, hk, hp, hn⟩ := hm
  have hes : es.size ≤ sizeLine := by
    have e1 := hp.length
    have e2 : es.toList.length = es.size := by simp
    omega
  unfold dictPut
  refine wpAny_bind (wpAny_dictFind_of hkey ho hd hk ?_)
  have hidx : (es.findIdx? fun e => knd.is k e.key) = kvs.findIdx? fun kv => decide (kv.1 = k) := by
    rw [← hp.findIdx k]; obtain ⟨l⟩ := es; simp
  cases hi : es.findIdx? fun e => knd.is k e.key with
  | some i =>
    refine wpAny_updateDict ho hd (hQ _ ⟨_, _, ep, Heap.get?_update_self _ ho (Obj.isFreed_of_dict (Obj.data_mapDict hd _)),
      hc.mapDict _, Obj.data_mapDict hd _, hk.modify _ _, ?_, ?_⟩ (Heap.SameBut.update ..))
    · rw [stored, if_pos (any_of_findIdx_some (hidx ▸ hi))]
      have hl : (es.toList.findIdx? fun e => knd.is k e.key) = some i := by rw [← hi]; obtain ⟨l⟩ := es; simp
      have := hp.modify hn hl v
      obtain ⟨l⟩ := es
      simpa using this
    · rw [stored, if_pos (any_of_findIdx_some (hidx ▸ hi)), keys_map_store]; exact hn
  | none =>
    have hnot : k ∉ kvs.map (·.1) := not_mem_of_findIdx_none (hidx ▸ hi)
    have hany : ¬ (kvs.any fun kv => decide (kv.1 = k)) = true := by
      rw [List.any_eq_true]; rintro ⟨kv, hkv, he⟩
      exact hnot (List.mem_map.mpr ⟨kv, hkv, of_decide_eq_true he⟩)
    refine wpAny_updateDictKeys (hz := hes) ho hd (hQ _ ⟨_, _, ep + 1, Heap.get?_update_self _ ho (Obj.isFreed_of_dict (Obj.data_mapDictKeys hd _)),
      hc.mapDictKeys _, Obj.data_mapDictKeys hd _, hk.push hkey _, ?_, ?_⟩ (Heap.SameBut.update ..))
    · rw [stored, if_neg hany]
      have := hp.append hkey (knd.hash k) v
      obtain ⟨l⟩ := es
      simpa using this
    · rw [stored, if_neg hany, List.map_append, List.nodup_append]
      refine ⟨hn, by simp, ?_⟩
      intro a ha b hb
      simp only [List.map_cons, List.map_nil, List.mem_singleton] at hb
      subst hb
      exact fun e => hnot (e ▸ ha)
theorem mergeK_pairs {d o : Addr} {kvs more : List (K × Value)} {Q : Unit → Shared → Prop} (hdo : d ≠ o) (hoS : (o == sysModules) = false)
    (hd : s.heap.DictOf knd d kvs) (ho : s.heap.DictOf knd o more)
    (hQ : ∀ h', h'.DictOf knd d (merged kvs more) → Heap.SameBut d s.heap h' → Q () { s with heap := h' })
    (hsz : kvs.length + more.length ≤ sizeLine) :
    wpAny (model prog w) A (mergeMapping d (.ref o) false) Q E s := by
  obtain ⟨od, esd, epd, hod, hcd, hdd, hkd, hpd, hnd⟩ := id hd
  obtain ⟨oo, eso, epo, hoo, hco, hdo', hko, hpo, hno⟩ := id ho
  have hT : s.TypeIs (.ref o) "dict" := ho.typeIs
  have hlen : more.length = eso.size := by rw [← hpo.length]; simp
  have loop : wpAny (model prog w) A (do
      let size := (← dictEntries o).size
      let epoch ← dictEpoch o
      for i in List.range size do
        let some e := (← dictEntries o)[i]? | unsupported "dict.changed-during-merge"
        holding [e.key, e.val] do
          if false = true then
            if (← dictFind d e.key e.hash).isSome then rule "dict.merge.duplicate-key"; raiseNew (← newExc (.type "KeyError") [e.key])
          dictPut d e.hash e.key e.val
        if (← dictEpoch o) != epoch then unsupported "dict.changed-during-merge") Q E s := by
    refine wpAny_bind (wpAny_dictEntries hoo hdo' ?_)
    refine wpAny_bind (wpAny_dictEpoch hoo hdo' ?_)
    dsimp only
    refine wpAny_bind ?_
    refine wpAny_forIn_list _
      (fun rest _ s' => ∃ h' i, s' = { s with heap := h' } ∧ rest = List.range' i (eso.size - i) ∧ i ≤ eso.size ∧ h'.DictOf knd d (merged kvs (more.take i)) ∧ h'.get? o = some oo ∧ Heap.SameBut d s.heap h')
      _ ?_ ?_ _ _ ⟨s.heap, 0, rfl, by simp [List.range_eq_range'], Nat.zero_le _, by simpa [merged] using hd, hoo, Heap.SameBut.refl _ _⟩
    · rintro x rest b s' ⟨h', i, rfl, hr, hi, hd', hoo', hs'⟩
      have hlt : i < eso.size := by
        rcases Nat.lt_or_ge i eso.size with h | h
        · exact h
        · rw [Nat.sub_eq_zero_of_le h] at hr; simp at hr
      obtain ⟨rfl, hrest⟩ : x = i ∧ rest = List.range' (i + 1) (eso.size - (i + 1)) := by
        have e : eso.size - i = (eso.size - (i + 1)) + 1 := by omega
        rw [e, List.range'_succ] at hr
        injection hr with h1 h2
        exact ⟨h1, h2⟩
      refine wpAny_bind (wpAny_dictEntries hoo' hdo' ?_)
      rw [Array.getElem?_eq_getElem hlt]
      obtain ⟨kv, hkv⟩ : ∃ kv, more[x]? = some kv := ⟨more[x]'(by rw [hlen]; exact hlt), List.getElem?_eq_getElem _⟩
      obtain ⟨k, v⟩ := kv
      obtain ⟨hkey, hval⟩ := hpo.get? (e := eso[x]) (by simp [hlt]) hkv
      obtain ⟨k', hkey', hhash⟩ := hko eso[x] (Array.getElem_mem hlt)
      obtain rfl : k' = k := knd.inj _ _ _ hkey' hkey
      show wpAny _ _ (holding [eso[x].key, eso[x].val] (dictPut d eso[x].hash eso[x].key eso[x].val) >>= _) _ _ _
      rw [hhash, hval]
      have hmx : (merged kvs (more.take x)).length ≤ sizeLine := by
        have e1 := merged_length_le kvs (more.take x)
        have e2 : (more.take x).length ≤ more.length := by rw [List.length_take]; omega
        omega
      refine wpAny_bind (wpAny_holding (wpAny_dictPut_pairs hkey hd' (fun h'' hd'' hs'' => ?_) hmx))
      have hoo'' : h''.get? o = some oo := (hs''.2 o (Ne.symm hdo)).trans hoo'
      refine wpAny_bind (wpAny_dictEpoch hoo'' hdo' ?_)
      rw [if_neg (by simp)]
      exact wpAny_pure ⟨h'', x + 1, rfl, hrest, hlt, by rw [merged_take_succ kvs more x (k', v) hkv]; exact hd'', hoo'', hs'.trans hs''⟩
    · rintro b s' ⟨h', i, rfl, hr, hi, hd', hoo', hs'⟩
      have hin : i = eso.size := by
        rcases Nat.lt_or_ge i eso.size with h | h
        · have e : eso.size - i = (eso.size - (i + 1)) + 1 := by omega
          rw [e, List.range'_succ] at hr; exact nomatch hr
        · exact Nat.le_antisymm hi h
      refine wpAny_pure (hQ h' ?_ hs')
      rw [hin, ← hlen, List.take_length] at hd'; exact hd'
  unfold mergeMapping
  refine wpAny_bind (wpAny_isInstance (T := "dict") hT PySem.F.sub_dict_dict ?_)
  dsimp only
  rw [if_pos rfl]
  refine wpAny_bind (wpAny_specialOf hT F.slot_dict_iter.lookup ?_)
  simp only [beq_self_eq_true]
  refine wpAny_bind (wpAny_pure ?_)
  dsimp only
  rw [if_neg (by rw [hoS]; exact Bool.false_ne_true)]
  refine wpAny_bind (wpAny_dictEntries hod hdd ?_)
  split
  · refine wpAny_bind (wpAny_dictEntries hoo hdo' ?_)
    refine wpAny_bind ?_
    rw [← Array.forIn_toList]
    refine wpAny_forIn_list _ (fun l _ s' => s' = s ∧ ∀ e ∈ l, e ∈ eso) _ (fun e rest b s₁ hI => ?_) (fun b s₁ hI => ?_) _ _ ⟨rfl, fun e he => Array.mem_toList_iff.mp he⟩
    · obtain ⟨rfl, hm⟩ := hI
      obtain ⟨k, hk, _⟩ := hko e (hm e List.mem_cons_self)
      have hb := knd.byValue _ _ hk
      have rest' : ∀ e' ∈ rest, e' ∈ eso := fun e' h => hm e' (List.mem_cons_of_mem _ h)
      split
      · rename_i a ha
        rw [ha] at hb
        cases hb
      · exact wpAny_pure ⟨rfl, rest'⟩
    · obtain ⟨rfl, _⟩ := hI
      exact loop
  · exact loop
/-- {**m, k: v} -/
theorem display_star1 {m k v : Sem Value} {Q : Value → Shared → Prop}
    (h : wpAny (model prog w) A m (fun mv s1 => ∃ o more, mv = .ref o ∧ (o == sysModules) = false ∧ s.heap.objs.size ≠ o ∧ s1.heap.DictOf knd s.heap.objs.size [] ∧ s1.heap.DictOf knd o more ∧ more.length ≤ sizeLine ∧
      ∀ h', h'.DictOf knd s.heap.objs.size (merged [] more) → Heap.SameBut s.heap.objs.size s1.heap h' →
        wpAny (model prog w) A (evalPairs [(k, v)]) (fun vs s3 => ∃ key kv vv kvs3, vs = [(kv, vv)] ∧ knd.is key kv = true ∧ s3.heap.DictOf knd s.heap.objs.size kvs3 ∧ s.heap.objs.size ≠ h'.objs.size ∧ (h'.objs.size == sysModules) = false ∧
          s3.heap.DictOf knd h'.objs.size [] ∧ kvs3.length + 1 ≤ sizeLine ∧
          ∀ h3 h4 tk, Heap.SameBut h'.objs.size s3.heap h3 → Heap.SameBut s.heap.objs.size h3 h4 → h3.DictOf knd h'.objs.size [(key, vv)] → h4.DictOf knd s.heap.objs.size (merged kvs3 [(key, vv)]) →
            Q (.ref s.heap.objs.size) { s3 with heap := h4, toks := tk }) E { s1 with heap := h'.push { cls := .type "dict", data := .dict #[] } }) E { s with heap := s.heap.push { cls := .type "dict", data := .dict #[] } }) :
    wpAny (model prog w) A (dictDisplay [(none, m), (some k, v)]) Q E s := by
  unfold dictDisplay
  dsimp only
  refine wpAny_bind ?_
  rw [List.forIn_cons]
  refine wpAny_bind ?_
  dsimp only
  refine wpAny_bind ?_
  rw [if_pos List.isEmpty_nil]
  refine wpAny_pure ?_
  dsimp only
  refine wpAny_bind (wpAny_alloc ?_)
  refine wpAny_bind (wpAny_holding (wpAny_mono h (fun mv s1 h1 => ?_) fun _ _ e => e))
  obtain ⟨o, more, rfl, hoS, hne, hd, ho, hz, h1⟩ := h1
  refine wpAny_bind (wpAny_onRaise (wpAny_tryCatch (wpAny_onRaise (wpAny_holding (mergeK_pairs hne hoS hd ho (fun h' hd' hs' => ?_) (by simpa using hz))))))
  refine wpAny_pure ?_
  dsimp only
  rw [List.forIn_cons]
  refine wpAny_bind ?_
  dsimp only
  rw [if_neg (by simp)]
  refine wpAny_pure ?_
  dsimp only
  rw [List.forIn_nil]
  refine wpAny_pure ?_
  dsimp only
  refine wpAny_bind ?_
  rw [if_neg (by simp)]
  refine wpAny_bind (wpAny_holding ?_)
  rw [List.nil_append]
  refine wpAny_subDict (knd := knd) (by simp) (wpAny_mono (h1 h' hd' hs') (fun vs s3 h3 => ?_) fun _ _ e => e)
  obtain ⟨key, kv, vv, kvs3, rfl, hk, hd3, hn3, hm3, he3, hz3, q⟩ := h3
  refine ⟨[(key, vv)], ⟨hk, rfl, True.intro⟩, he3, fun h3 hm hs3 => ?_⟩
  refine wpAny_bind (wpAny_onRaise (wpAny_holding (mergeK_pairs hn3 hm3 (hd3.sameBut hs3 hn3) hm (fun h4 hd4 hs4 => ?_) hz3)))
  exact wpAny_pure (wpAny_pure (q h3 h4 _ hs3 hs4 hm hd4))
end
end BkD
namespace Bk
open PySem PySem.Spec PyProof.Rows L2
theorem mergeK_fresh (acc more : List (Key × V)) (hn : ((acc ++ more).map (·.1)).Nodup) : mergeK acc more = acc ++ more := by
  induction more generalizing acc with
  | nil => simp [mergeK]
  | cons kv rest ih =>
    have hv : valV acc kv.1 = none := by
      cases e : valV acc kv.1 with
      | none => rfl
      | some x =>
        have z := valV_any kv.1 acc
        rw [e] at z
        obtain ⟨y, hy, he⟩ := List.any_eq_true.mp z
        rw [List.map_append, List.map_cons, List.nodup_append] at hn
        exact (hn.2.2 y.1 (List.mem_map.mpr ⟨y, hy, rfl⟩) kv.1 List.mem_cons_self (of_decide_eq_true he)).elim
    have e1 : mergeK acc (kv :: rest) = mergeK (acc ++ [kv]) rest := by
      show mergeK (putK acc kv.1 kv.2) rest = _
      rw [putK_new _ hv]
    rw [e1, ih (acc ++ [kv]) (by simpa using hn)]
    simp
/-- {**d, k: v} with a dict whose keys stand once: k is put behind or in its place -/
def tStar1 (tm tk tv : TE) : TE := fun σ H Q => ∀ p, H p = none → tm σ (upd H p (.dK [])) fun x H1 => ∃ d kvs, x = .ref d ∧ H1 d = some (.dK kvs) ∧ H1 p = some (.dK []) ∧ d ≠ p ∧ kvs.length < sizeLine ∧
  ∀ q, upd H1 p (.dK kvs) q = none → tk σ (upd (upd H1 p (.dK kvs)) q (.dK [])) fun y H2 => tv σ H2 fun z H3 => ∃ k, y = kV k ∧ H3 p = some (.dK kvs) ∧ H3 q = some (.dK []) ∧
    Q (.ref p) (upd (upd H3 q (.dK [(k, z)])) p (.dK (putK kvs k z)))
theorem pe_star1 {X : Cx} {m k v : Expr} {pos : Pos} {tm tk tv : TE} (hm : PE X m tm) (hk : PE X k tk) (hv : PE X v tv) : PE X (.Dict [none, some k] [m, v] pos) (tStar1 tm tk tv) := by
  refine ⟨fun pins s σ H Q I h => ?_⟩
  have hn := I.hok.fresh (Nat.le_refl s.heap.objs.size)
  have I1 := I.laid (a := s.heap.objs.size) (o := .dK []) (h' := s.heap.push { cls := .type "dict", data := .dict #[] }) (t' := s.toks) (fun _ _ q => Heap.get?_push_of_some _ q) (Nat.le_refl _) (dk_empty s.heap I.big)
  rw [arm_eval_Dict]
  refine wpAny_bind (wpAny_standAt ?_)
  show wpAny _ _ (dictDisplay [(none, do let x ← eval m X.env; standAt pos; pure x), (some (eval k X.env), do let x ← eval v X.env; standAt pos; pure x)]) _ _ _
  refine BkD.display_star1 (knd := mixKind X.prog X.w) (wpAny_bind (thn (hm.run pins _ σ _ _ I1 (h _ hn)) fun u s1 ⟨x, H1, I2, rx, d, kvs, ex, ed, ep, hne, hz, q⟩ => wpAny_bind (wpAny_standAt (wpAny_pure ?_))))
  subst ex
  obtain rfl : u = Value.ref d := rx
  obtain ⟨z, hd, vs, rel, dd⟩ := dk_of I2.hok ed
  obtain ⟨_, hp, vs0, r0, pp⟩ := dk_of I2.hok ep
  cases r0
  have hnod : (vs.map (·.1)).Nodup := let ⟨_, _, _, _, _, _, _, _, n⟩ := dd; n
  have hl := rel.length
  refine ⟨d, vs, rfl, hd, hne.symm, pp, dd, by omega, fun h' dd' hs => ?_⟩
  rw [merged_nil_of_nodup _ hnod] at dd'
  have he : ∃ q, h'.get? s.heap.objs.size = some q := let ⟨q, _, _, hq, _⟩ := dd'; ⟨q, hq⟩
  have I3 : L2.Inv X pins σ (upd H1 s.heap.objs.size (.dK kvs)) { s1 with heap := h', toks := s1.toks } := d_write I2 (by rw [ep]; exact True.intro) hs he (dk_new z hp rel dd')
  have hq0 := I3.hok.fresh (Nat.le_refl h'.objs.size)
  have I4 := I3.laid (a := h'.objs.size) (o := .dK []) (h' := h'.push { cls := .type "dict", data := .dict #[] }) (t' := s1.toks) (fun _ _ q => Heap.get?_push_of_some _ q) (Nat.le_refl _) (dk_empty h' I3.big)
  have hPP := (pps_cons (pos := pos) hk hv pps_nil).run pins _ σ _ (fun ps H' => match ps with
    | [(y, z)] => ∃ k, y = kV k ∧ H' s.heap.objs.size = some (.dK kvs) ∧ H' h'.objs.size = some (.dK []) ∧ Q (.ref s.heap.objs.size) (upd (upd H' h'.objs.size (.dK [(k, z)])) s.heap.objs.size (.dK (putK kvs k z)))
    | _ => False) I4 (q _ hq0)
  refine thn hPP fun ws s3 ⟨ps, H3, I5, rws, q5⟩ => ?_
  match ps, rws, q5 with
  | [(y, zz)], rws, q5 =>
    obtain ⟨key, ey, e1, e2, q3⟩ := q5
    subst ey
    cases rws with
    | @cons a b as bs hab ht =>
      cases ht
      obtain ⟨b1, b2⟩ := b
      obtain ⟨_, hp3, vs1, r1, pp3⟩ := dk_of I5.hok e1
      obtain ⟨_, hq3, vs2, r2, qq3⟩ := dk_of I5.hok e2
      cases r2
      have hne2 : s.heap.objs.size ≠ h'.objs.size := fun z => by
        rw [← z, upd_same] at hq0
        cases hq0
      refine ⟨key, _, _, vs1, rfl, kV_is hab.1, pp3, hne2, hq3, qq3, by have := r1.length; omega, fun h3 h4 tk hs3 hs4 m3 m4 => ?_⟩
      have kv1 : KV [(key, zz)] [(key, b2)] := .cons ⟨rfl, hab.2⟩ .nil
      have I6 : L2.Inv X pins σ (upd H3 h'.objs.size (.dK [(key, zz)])) { s3 with heap := h3, toks := tk } :=
        d_write I5 (by rw [e2]; exact True.intro) hs3 (let ⟨q, _, _, hq, _⟩ := m3; ⟨q, hq⟩) (dk_new (by show 1 ≤ sizeLine; decide) hq3 kv1 m3)
      have e1' : upd H3 h'.objs.size (.dK [(key, zz)]) s.heap.objs.size = some (.dK kvs) := by rw [upd_ne hne2]; exact e1
      have hlp : (putK kvs key zz).length ≤ sizeLine := by have := length_putK kvs key zz; omega
      have I7 : L2.Inv X pins σ (upd (upd H3 h'.objs.size (.dK [(key, zz)])) s.heap.objs.size (.dK (putK kvs key zz))) { s3 with heap := h4, toks := tk } :=
        d_write (s := { s3 with heap := h3, toks := tk }) I6 (by rw [e1']; exact True.intro) hs4 (let ⟨q, _, _, hq, _⟩ := m4; ⟨q, hq⟩) (dk_new hlp hp (r1.put key hab.2) m4)
      exact ⟨.ref s.heap.objs.size, _, I7, rfl, q3⟩
end Bk

set_option Elab.async false
set_option linter.all false
set_option maxRecDepth 100000
set_option maxHeartbeats 4000000
/-! Own layer 7: == and != of two instances without an __eq__ of their own; bool(o) by the class's own __bool__; a list against an empty one. -/
namespace BkI
open PySem PySem.Spec PyProof.Rows PySem.SeqAt
structure EqObj (K : PySem.W.Frag) (C : Addr) : Prop where
  eq : PySem.W.findIn K (.ref C) "__eq__" = some (some (.builtin "object.__eq__"))
  ne : PySem.W.findIn K (.ref C) "__ne__" = some (some (.builtin "object.__ne__"))
  mro : PySem.W.mroIn K C (.type "object") = some true
section
variable {M : Model} {prog : Program} {w : World} {A : Around} {E : Value → Shared → Prop} {s : Shared} {K : PySem.W.Frag} {x y C D : Addr} {ox oy : Obj} {od oe : Option Obj}
theorem inst_cls (I : PySem.W.InstAt s.heap x ox C od) : s.heap.get? x = some ox ∧ ox.cls = .ref C := ⟨I.at_, I.cls⟩
theorem call_eq (X : K.In s.heap) (I : PySem.W.InstAt s.heap x ox C od) (J : PySem.W.InstAt s.heap y oy D oe) (q : EqObj K C) {Q : Value → Shared → Prop} (hq : Q (if x = y then .bool true else .notImplemented) s) :
    wpAny (model prog w) A (call (.builtin "object.__eq__") [.ref x, .ref y]) Q E s := by
  refine wpAny_call (codeAny_call_builtin F.cmp_object.eq.plain F.cmpEntry_eq (PySem.W.check_slot F.cmpKind_eq F.cmpSplit_eq (I.type.andThen (PySem.W.looks_mroIn X q.mro)) (F.cmpArgs_eq _ _) ?_))
  by_cases h : x = y
  · subst h
    rw [if_pos rfl] at hq
    exact objEq_entry_same hq
  · rw [if_neg h] at hq
    exact objEq_entry_other h (inst_cls I).1 (inst_cls J).1 (by rw [(inst_cls I).2]; intro z; cases z) hq
theorem special_eq (X : K.In s.heap) (I : PySem.W.InstAt s.heap x ox C od) (J : PySem.W.InstAt s.heap y oy D oe) (q : EqObj K C) {Q : Option Value → Shared → Prop} (hq : Q (some (if x = y then .bool true else .notImplemented)) s) :
    wpAny (model prog w) A (callSpecialIfBound? (.ref x) "__eq__" [.ref y]) Q E s := HN.ifBound_objEq X I q.eq (call_eq X I J q hq)
theorem try_eq (X : K.In s.heap) (I : PySem.W.InstAt s.heap x ox C od) (J : PySem.W.InstAt s.heap y oy D oe) (q : EqObj K C) {Q : Option Value → Shared → Prop} (hq : Q (if x = y then some (.bool true) else none) s) :
    wpAny (model prog w) A (tryCompare (.ref x) "__eq__" (.ref y)) Q E s := by
  unfold tryCompare
  refine wpAny_bind (special_eq X I J q ?_)
  by_cases h : x = y
  · rw [if_pos h] at hq ⊢
    exact wpAny_pure hq
  · rw [if_neg h] at hq ⊢
    exact wpAny_pure hq
theorem entry_ne (hu : A.units < cLine) (X : K.In s.heap) (I : PySem.W.InstAt s.heap x ox C od) (J : PySem.W.InstAt s.heap y oy D oe) (q : EqObj K C) {Q : Fin → Shared → Prop} (hq : Q (.done (.ret (if x = y then .bool false else .notImplemented))) s) :
    wpAny (model prog w) A (Builtin.«object.__ne__» ⟨[.ref x, .ref y], []⟩) Q E s := by
  unfold Builtin.«object.__ne__»
  by_cases h : x = y
  · rw [if_pos h] at hq
    repeat (first | with_reducible refine wpAny_cRoomFor hu ?_ | (with_reducible refine special_eq X I J q ?_; rw [if_pos h]) | wp_step)
    exact hq
  · rw [if_neg h] at hq
    repeat (first | with_reducible refine wpAny_cRoomFor hu ?_ | (with_reducible refine special_eq X I J q ?_; rw [if_neg h]) | wp_step)
    exact hq
theorem ifBound_objNe {args : List Value} {Q : Option Value → Shared → Prop} (X : K.In s.heap) (I : PySem.W.InstAt s.heap x ox C od) (hs : PySem.W.findIn K (.ref C) "__ne__" = some (some (.builtin "object.__ne__")))
    (h : wpAny M A (call (.builtin "object.__ne__") (.ref x :: args)) (fun v => Q (some v)) E s) : wpAny M A (callSpecialIfBound? (.ref x) "__ne__" args) Q E s := by
  simp only [callSpecialIfBound?, bindSpecialIfBound?]
  refine wpAny_holding (wpAny_bind (wpAny_bind (wpAny_bind (I.type.here ((PySem.W.looks_findIn X hs).here ?_)))))
  refine wpAny_bind (wpAny_askSetting (wpAny_ite ?_))
  have fin : wpAny M A (call (.builtin "object.__ne__") ([.ref x] ++ args) >>= fun v => pure (some v)) Q E s := wpAny_bind (wpAny_mono h (fun v s' h' => wpAny_pure h') fun _ _ h' => h')
  split
  · exact wpAny_bind (wpAny_of_eq (F.cmp_object.ne.bind _) (wpAny_pure (by exact fin)))
  · exact wpAny_tryCatch (wpAny_bind (wpAny_of_eq (F.cmp_object.ne.bind _) (wpAny_pure (by exact fin))))
theorem try_ne (hu : A.units + 1 < cLine) (X : K.In s.heap) (I : PySem.W.InstAt s.heap x ox C od) (J : PySem.W.InstAt s.heap y oy D oe) (q : EqObj K C) {Q : Option Value → Shared → Prop} (hq : Q (if x = y then some (.bool false) else none) s) :
    wpAny (model prog w) A (tryCompare (.ref x) "__ne__" (.ref y)) Q E s := by
  unfold tryCompare
  refine wpAny_bind (ifBound_objNe X I q.ne (wpAny_call (codeAny_call_builtin F.cmp_object.ne.plain F.cmpEntry_ne
    (PySem.W.check_slot F.cmpKind_ne F.cmpSplit_ne (I.type.andThen (PySem.W.looks_mroIn X q.mro)) (F.cmpArgs_ne _ _) (entry_ne (A := A.in1) hu X I J q ?_)))))
  by_cases h : x = y
  · rw [if_pos h] at hq ⊢
    exact wpAny_pure hq
  · rw [if_neg h] at hq ⊢
    exact wpAny_pure hq
theorem rc_eq (hu : A.units < cLine) (X : K.In s.heap) (I : PySem.W.InstAt s.heap x ox C od) (J : PySem.W.InstAt s.heap y oy C oe) (q : EqObj K C) {Q : Value → Shared → Prop} (hq : Q (.bool (decide (x = y))) s) :
    wpAny (model prog w) A (richCompare .Eq (.ref x) (.ref y)) Q E s := by
  simp only [richCompare, cmpInfo_Eq, oneThing_ref]
  refine wpAny_holding (wpAny_bind (wpAny_cRoomFor hu ?_))
  refine wpAny_bind (I.type.here ?_)
  refine wpAny_bind (J.type.here ?_)
  rw [if_neg (by simp)]
  refine wpAny_bind (wpAny_pure ?_)
  rw [if_neg Bool.false_ne_true]
  refine wpAny_bind (try_eq X I J q ?_)
  by_cases h : x = y
  · rw [if_pos h]
    rw [decide_eq_true h] at hq
    exact wpAny_pure hq
  · rw [if_neg h]
    rw [decide_eq_false h] at hq
    dsimp only
    rw [if_pos (by rfl)]
    refine wpAny_bind (try_eq X J I q ?_)
    rw [if_neg (fun z => h z.symm)]
    dsimp only
    refine wpAny_bind (wpAny_rule (wpAny_bind (wpAny_isSame_ref_other h (inst_cls I).1 (inst_cls J).1 (by rw [(inst_cls I).2]; intro z; cases z) (wpAny_pure hq))))
theorem rc_ne (hu : A.units + 1 < cLine) (X : K.In s.heap) (I : PySem.W.InstAt s.heap x ox C od) (J : PySem.W.InstAt s.heap y oy C oe) (q : EqObj K C) {Q : Value → Shared → Prop} (hq : Q (.bool (!decide (x = y))) s) :
    wpAny (model prog w) A (richCompare .NotEq (.ref x) (.ref y)) Q E s := by
  simp only [richCompare, cmpInfo_NotEq, oneThing_ref]
  refine wpAny_holding (wpAny_bind (wpAny_cRoomFor (Nat.lt_of_succ_lt hu) ?_))
  refine wpAny_bind (I.type.here ?_)
  refine wpAny_bind (J.type.here ?_)
  rw [if_neg (by simp)]
  refine wpAny_bind (wpAny_pure ?_)
  rw [if_neg Bool.false_ne_true]
  refine wpAny_bind (try_ne hu X I J q ?_)
  by_cases h : x = y
  · rw [if_pos h]
    rw [decide_eq_true h] at hq
    exact wpAny_pure hq
  · rw [if_neg h]
    rw [decide_eq_false h] at hq
    dsimp only
    rw [if_pos (by rfl)]
    refine wpAny_bind (try_ne hu X J I q ?_)
    rw [if_neg (fun z => h z.symm)]
    dsimp only
    refine wpAny_bind (wpAny_rule (wpAny_bind (wpAny_isSame_ref_other h (inst_cls I).1 (inst_cls J).1 (by rw [(inst_cls I).2]; intro z; cases z) (wpAny_pure hq))))
end
end BkI
namespace Bk
open PySem PySem.Spec PyProof.Rows L2
/-- x == y, x != y of two instances of one class -/
def rEqO (C : Addr) (neg : Bool) : R2 := fun x y H Q => ∃ a dx fs b dy gs, x = .ref a ∧ y = .ref b ∧ H a = some (.ins C dx fs) ∧ H b = some (.ins C dy gs) ∧ Q (.bl (decide (a = b) != neg)) H
section
variable {X : Cx} {k : Nat} {C : Addr}
theorem op_eqO (q : BkI.EqObj X.K C) (hr : Room k X.A) : OpR X (compareOp .Eq) (rEqO C false) := by
  intro pins s σ H x y v u Q I rx ry h
  obtain ⟨a, dx, fs, b, dy, gs, rfl, rfl, ha, hb, h⟩ := h
  cases (show v = Value.ref a from rx)
  cases (show u = Value.ref b from ry)
  obtain ⟨_, _, J1⟩ := at_ins I ha
  obtain ⟨_, _, J2⟩ := at_ins I hb
  refine BkI.rc_eq (by have := hr.units; omega) I.kIn J1 J2 q ⟨.bl (decide (a = b)), H, I, rfl, ?_⟩
  rw [show (decide (a = b) != false) = decide (a = b) by cases decide (a = b) <;> rfl] at h
  exact h
theorem op_neO (q : BkI.EqObj X.K C) (hr : Room k X.A) : OpR X (compareOp .NotEq) (rEqO C true) := by
  intro pins s σ H x y v u Q I rx ry h
  obtain ⟨a, dx, fs, b, dy, gs, rfl, rfl, ha, hb, h⟩ := h
  cases (show v = Value.ref a from rx)
  cases (show u = Value.ref b from ry)
  obtain ⟨_, _, J1⟩ := at_ins I ha
  obtain ⟨_, _, J2⟩ := at_ins I hb
  refine BkI.rc_ne (by have := hr.units; omega) I.kIn J1 J2 q ⟨.bl (!decide (a = b)), H, I, rfl, ?_⟩
  rw [show (decide (a = b) != true) = !decide (a = b) by cases decide (a = b) <;> rfl] at h
  exact h
/-- two lists of unlike lengths -/
def rEqLen (K : PySem.W.Frag) : R2 := fun x y H Q => ∃ a b xs ys, x = .ref a ∧ y = .ref b ∧ SqL K H a xs ∧ SqL K H b ys ∧ xs.length ≠ ys.length ∧ Q (.bl false) H
theorem op_eqLen (hr : Room k X.A) : OpR X (compareOp .Eq) (rEqLen X.K) := by
  intro pins s σ H x y v u Q I rx ry h
  obtain ⟨a, b, xs, ys, rfl, rfl, ha, hb, hne, h⟩ := h
  cases (show v = Value.ref a from rx)
  cases (show u = Value.ref b from ry)
  obtain ⟨its, r1, p1, _⟩ := I.list ha
  obtain ⟨jts, r2, p2, _⟩ := I.list hb
  refine PySem.SeqAt.eq_list_lengthsAt p1.isList p2.isList ?_ (by have := hr.units; omega) ⟨.bl false, H, I, rfl, h⟩
  rw [List.size_toArray, List.size_toArray, ← r1.length, ← r2.length]
  simpa using hne
end
end Bk

set_option Elab.async false
set_option linter.all false
set_option maxRecDepth 100000
set_option maxHeartbeats 4000000
namespace BkI
open PySem PySem.Spec PyProof.Rows
theorem meets_bool_own {prog : Program} {w : World} (x : Addr) :
    MeetsIn prog w (Builtin.«bool.__new__» ⟨[.type "bool", .ref x], []⟩) (fun A R s => wpAny (model prog w) A.in1 (truthy (.ref x)) (fun b s' => R (.ok (.ret (.bool b))) s') (fun e s' => R (.error e) s') s) :=
  .of_wp fun A R s h => by
    have f1 := F.conv_sub_bool
    obtain ⟨hp, g, d, tk, os⟩ := s
    have step : ∀ {Q : Bool → Shared → Prop}, (∀ b s', R (.ok (.ret (.bool b))) s' → Q b s') → wpAny (model prog w) A.in1 (truthy (.ref x)) Q (fun e s' => R (.error e) s') ⟨hp, g, d, tk, os⟩ := fun q => wpAny_mono h (fun b s' r => q b s' r) fun _ _ z => z
    repeat (any_goals (first | assumption | (with_reducible refine step fun b s' r => ?_) | wp_step))
    all_goals exact ⟨_, rfl, r⟩
end BkI
namespace Bk
open PySem PySem.Spec PyProof.Rows L2
/-- bool(o), by the class's own __bool__ -/
def rBoolO (C : Addr) (sp : Sp) : List V → Hp → VK → Prop := fun xs H Q => ∃ a dx fs, xs = [.ref a] ∧ H a = some (.ins C dx fs) ∧ sp [.ref a] H (fun v H' => ∃ b : Bool, v = .bl b ∧ Q (.bl b) H') E0
theorem call_boolO {X : Cx} {k : Nat} {C f : Addr} {ps : List Str} {sp : Sp} (m : Meth X.K C "__bool__" f) (G : Ok X.prog X.w X.K X.mg X.base k f ps sp) (hr : Room (k + 2) X.A) : CallR X (.type "bool") (rBoolO C sp) := by
  intro pins s σ H xs us Q I r h
  obtain ⟨a, dx, fs, rfl, ha, h⟩ := h
  obtain ⟨u, rfl, ru⟩ := vals1 r
  cases (show u = Value.ref a from ru)
  obtain ⟨ox, od, J⟩ := at_ins I ha
  obtain ⟨_, hF⟩ := I.fr
  refine callType_newIn F.called_bool F.newNe_bool (F.typeCall_bool_1 _) (F.newCall_bool_1 _) (fun obj => F.args_object_init_2 obj _) F.entry_bool_new (BkI.meets_bool_own a) ?_
  refine PySem.W.truthy_K hF I.ok.mod.kin J m.at_ m.fn (thn (run_own G (Room.in1 (Room.in1 hr)) rfl I (.cons (rrf _) .nil) h) fun r s' (z : EP X _ _ _ r s') => ?_)
  obtain ⟨w', H', I', rw', b, rfl, q⟩ := z
  cases (show r = Value.bool b from rw')
  exact ⟨rfl, .bl b, H', I', rfl, q⟩
end Bk
namespace Bk
open PySem PySem.Spec PyProof.Rows L2
/-- str(o), by the class's own __str__ -/
def rStrO (C : Addr) (sp : Sp) : List V → Hp → VK → Prop := fun xs H Q => ∃ a dx fs, xs = [.ref a] ∧ H a = some (.ins C dx fs) ∧ sp [.ref a] H (fun v H' => ∃ b : Str, v = .str b ∧ Q (.str b) H') E0
theorem call_strO {X : Cx} {k : Nat} {C f : Addr} {ps : List Str} {sp : Sp} (m : Meth X.K C "__str__" f) (G : Ok X.prog X.w X.K X.mg X.base k f ps sp) (hr : Room (k + 2) X.A) : CallR X (.type "str") (rStrO C sp) := by
  intro pins s σ H xs us Q I r h
  obtain ⟨a, dx, fs, rfl, ha, h⟩ := h
  obtain ⟨u, rfl, ru⟩ := vals1 r
  cases (show u = Value.ref a from ru)
  obtain ⟨ox, od, J⟩ := at_ins I ha
  refine PySem.W.kso_call (Room.in1 (Room.in1 hr)).units0 I.kIn J m.at_ m.fn (thn (run_own G (Room.in1 (Room.in1 hr)) rfl I (.cons (rrf _) .nil) h) fun r s' (z : EP X _ _ _ r s') => ?_)
  obtain ⟨w', H', I', rw', b, rfl, q⟩ := z
  obtain ⟨t, rfl⟩ := (show ∃ t, r = Value.str b t from rw')
  exact ⟨.str b, H', I', ⟨_, rfl⟩, q⟩
end Bk

set_option Elab.async false
set_option linter.all false
set_option maxRecDepth 100000
set_option maxHeartbeats 4000000
/-! Own layer 9: a def with defaults, called with all of its parameters or without those that have a default. -/
namespace Bk
open PySem PySem.Spec PyProof.Rows L2
/-- as Ok; dvs: what the defaults are -/
structure OkW (P : Program) (w : World) (K : PySem.W.Frag) (mg : Str → Option Value) (base : Heap) (k : Nat) (f : Addr) (ps : List Str) (dvs : List V) (sp : Sp) : Prop where
  ex : ∃ fd, FnOk P w K mg base CX0 k f fd ps sp ∧ Binds K fd ps [] ∧ PySem.W.keepIn K (.ref f) = true ∧ PySem.W.fnIn K f = true ∧ ∃ ds, Vals dvs ds ∧ Binds K fd ps ds
theorem OkW.ok {P : Program} {w : World} {K : PySem.W.Frag} {mg : Str → Option Value} {base : Heap} {k : Nat} {f : Addr} {ps : List Str} {dvs : List V} {sp : Sp} (o : OkW P w K mg base k f ps dvs sp) : Ok P w K mg base k f ps sp :=
  let ⟨fd, a, b, c, d, _⟩ := o.ex
  ⟨fd, a, b, c, d⟩
theorem fd_okW {P : Program} {w : World} {K : PySem.W.Frag} {mg : Str → Option Value} {base : Heap} {x qual : Str} {params : Arguments} {body : List Stmt} {scope : Scope} {dvs : List V} {f : Addr} {N ps : List Str} {k : Nat} {sp : Sp}
    (F : ∃ fd, FunD K x qual params body scope dvs [] f fd) (hd : dvs ≠ []) (n : Nat) (hn : n + dvs.length = ps.length) (S : FnScope N ps scope) (len : ∀ vs H Q E, sp vs H Q E → vs.length = ps.length)
    (hb : ∀ (T : Addr) (kV doc pm : Value) (an : Option Addr) (cdv ct : Value) (us its : List Value), us.length = ps.length → its.length = dvs.length →
      ∃ k, bindArgs (PySem.W.fnOf x qual params body scope (.ref T) kV doc pm an cdv ct) ⟨us, []⟩ = seqItems? (.ref T) >>= k ∧ k (some its.toArray) = pure (ps.zip us))
    (hb0 : ∀ (T : Addr) (kV doc pm : Value) (an : Option Addr) (cdv ct : Value) (us its : List Value), us.length = n → its.length = dvs.length →
      ∃ k, bindArgs (PySem.W.fnOf x qual params body scope (.ref T) kV doc pm an cdv ct) ⟨us, []⟩ = seqItems? (.ref T) >>= k ∧ k (some its.toArray) = pure (ps.zip (us ++ its)))
    (hbody : ∀ (cdv : Value) (A : Around) (outer : List Env) (s : Shared) (H : Hp) (vs : List V) (Q : VK) (E : XK), Room k (A.deeper (envOfC qual scope s.heap.objs.size f cdv)) → sp vs H Q E →
      ∃ t, PSs (cxOf CX0 P w K mg base N qual scope f cdv A outer s H E).nox body t ∧ t { nx := fun _ H' => Q .non H', rt := Q } (start N vs) H) : OkW P w K mg base (k + 1) f ps dvs sp := by
  obtain ⟨fd, F⟩ := F
  obtain ⟨ds, v, b⟩ := F.binds1 (ps := ps) ps.length dvs.length hd (by omega) fun T kV doc pm an cdv ct us its h1 h2 => by
    obtain ⟨k, e1, e2⟩ := hb T kV doc pm an cdv ct us its h1 h2
    refine ⟨k, e1, ?_⟩
    rw [e2, ← h2, List.drop_length, List.append_nil]
  rw [List.drop_length] at v
  cases v
  obtain ⟨ds0, v0, b0⟩ := F.binds1 (ps := ps) n 0 hd (by omega) fun T kV doc pm an cdv ct us its h1 h2 => by
    obtain ⟨k, e1, e2⟩ := hb0 T kV doc pm an cdv ct us its h1 h2
    refine ⟨k, e1, ?_⟩
    rw [e2, List.drop_zero]
  rw [List.drop_zero] at v0
  exact ⟨fd, F.ok S len fun cdv A outer s H vs Q E hr h => let ⟨t, a, b⟩ := hbody cdv A outer s H vs Q E hr h; ⟨t, a.nox, b⟩, b, F.kp, fnIn_of F, ds0, v0, b0⟩
end Bk

set_option Elab.async false
set_option linter.all false
set_option maxRecDepth 100000
set_option maxHeartbeats 4000000
/-! Own layer 10: d.items() and sorted(d.items()) of a dict from ints to ints. -/
namespace Bk
open PySem PySem.Spec PyProof.Rows L2 L2.DX
/-- a dict's entry, both ints -/
abbrev entI (e : Int × Int) : Key × V := (Sum.inl e.1, V.int e.2)
theorem isPair_inj {h : Heap} {v : Value} {x y x' y' : Int} (p : Srt.IsPair h v x y) (q : Srt.IsPair h v x' y') : (x, y) = (x', y') := by
  obtain ⟨a, o, t, u, n, rfl, ho, hc, hd⟩ := p
  obtain ⟨a', o', t', u', n', e, ho', hc', hd'⟩ := q
  cases e
  rw [ho] at ho'
  cases ho'
  rw [hd] at hd'
  cases hd'
  rfl
noncomputable def pairOf (h : Heap) (v : Value) : Int × Int := Classical.epsilon fun p : Int × Int => Srt.IsPair h v p.1 p.2
theorem pairOf_eq {h : Heap} {v : Value} {x y : Int} (p : Srt.IsPair h v x y) : pairOf h v = (x, y) := by
  have q : Srt.IsPair h v (pairOf h v).1 (pairOf h v).2 := Classical.epsilon_spec (p := fun p : Int × Int => Srt.IsPair h v p.1 p.2) ⟨(x, y), p⟩
  exact isPair_inj q p
section
variable {X : Cx}
def rItemsK : V → List V → Hp → VK → Prop := fun x xs H Q => ∃ (a : Addr) (kvs : List (Key × V)), x = .ref a ∧ xs = [] ∧ H a = some (.dK kvs) ∧ ∀ p, H p = none → Q (.ref p) (upd H p (itemsO p a))
theorem mt_itemsK : MtR X "dict.items" rItemsK := by
  intro pins s σ H x xs v us Q I rx rxs h
  obtain ⟨a, kvs, rfl, rfl, ha, q⟩ := h
  cases rx
  cases rxs
  obtain ⟨z, hd, vs, rel, o, es, ep, ho, hx, hdat, _⟩ := dk_of I.hok ha
  refine DT.callItems (es := es) (ep := ep) hd ⟨o, ho, hx, hdat⟩ ?_
  have hf : H s.heap.objs.size = none := I.hok.fresh (Nat.le_refl _)
  exact ⟨.ref s.heap.objs.size, upd H s.heap.objs.size (itemsO s.heap.objs.size a), I.laid (t' := s.toks) (fun b u e => Heap.get?_push_of_some _ e) (Nat.le_refl _) (itemsO_ok (Heap.get?_push_size _ rfl)), rfl, q _ hf⟩
/-- sorted(d.items()), keys and values ints -/
def rSortItK : List V → Hp → VK → Prop := fun vs H Q => ∃ (p a : Addr) (ks : List (Int × Int)), vs = [.ref p] ∧ H p = some (itemsO p a) ∧ H a = some (.dK (ks.map entI)) ∧
  ∀ (H' : Hp) (l : Addr) (ps : List (Addr × Int × Int)), (∀ b o, H b = some o → H' b = some o) → (ps.map (·.2)).Perm ks → (ps.map (·.2)).Pairwise (fun e f => SrtO.lexB f e = false) → H l = none → H' l = some (.lst (ps.map fun z => V.ref z.1)) →
    (∀ z ∈ ps, H z.1 = none ∧ H' z.1 = some (.tup [.int z.2.1, .int z.2.2])) → Q (.ref l) H'
theorem cr_sortedItK (hc : X.calm = true) : CallR X (.builtin "sorted") rSortItK := by
  intro pins s σ H xs us Q I r h
  obtain ⟨p, a, ks, rfl, hp, ha, q⟩ := h
  obtain rfl := Vals.ref1 r
  have view : s.heap.IsItemsView p a := (show ObjOk X.prog X.w H s.heap p (itemsO p a) from I.hok p _ hp).1
  obtain ⟨z, hd, vs, rel, o, es, ep, ho, hx, hdat, hkeys, hprs, hn⟩ := dk_of I.hok ha
  have l1 : (ks.map entI).length = vs.length := Paired.length rel
  have l2 : es.size = vs.length := by
    have e := hprs.length
    simpa using e
  rw [List.length_map] at l1 z
  have hh : X.A.handled = none := I.ok.hd hc
  refine DT.sortedI (es := es) (ep := ep) hh view ⟨o, ho, hx, hdat⟩ (by omega) fun h' tk as hk hlt hl hG => ?_
  have lak : as.length = ks.length := by omega
  have nd : as.Nodup := List.Pairwise.imp (fun h => Nat.ne_of_lt h) hG.rise
  have pr : ∀ (j : Nat) (b : Addr), as[j]? = some b → ∃ (e : Int × Int) (t1 t2 : Tok), ks[j]? = some e ∧ h'.get? b = some { cls := .type "tuple", data := .seq #[Value.int e.1 t1, Value.int e.2 t2] } := by
    intro j b hj
    obtain ⟨en, he, hg⟩ := hG.pairs j b hj
    have jl : j < ks.length := by
      have := (List.getElem?_eq_some_iff.mp hj).1
      omega
    have hkj : ks[j]? = some ks[j] := List.getElem?_eq_getElem jl
    obtain ⟨y, g1, g2, g3⟩ := LiI.paired_get rel (i := j) (x := entI ks[j]) (by rw [List.getElem?_map, hkj] <;> rfl)
    obtain ⟨k, v⟩ := y
    obtain ⟨hkey, hval⟩ := hprs.get? (e := en) (by simpa using he) g1
    have rk : RelV (kV (Sum.inl ks[j].1)) en.key := by
      have g2' : Sum.inl ks[j].1 = k := g2
      rw [g2']
      exact relV_key (show keyIs k en.key = true from hkey)
    obtain ⟨t1, e1⟩ := rk
    have g3' : RelV (V.int ks[j].2) v := g3
    obtain ⟨t2, e2⟩ := g3'
    refine ⟨ks[j], t1, t2, hkj, ?_⟩
    rw [hg, hval, e2, e1]
  have hob : (h'.push { cls := .type "list", data := .seq (as.map Value.ref).toArray }).get? h'.objs.size = some (seqObj "list" (as.map Value.ref).toArray 0) := Heap.get?_push_size _ rfl
  have kb : ∀ b o, s.heap.get? b = some o → (h'.push { cls := .type "list", data := .seq (as.map Value.ref).toArray }).get? b = some o := fun b o e => Heap.get?_push_of_some _ (hk b o e)
  have ne0 : ∀ b o, h'.get? b = some o → b ≠ h'.objs.size := fun b o e => Nat.ne_of_lt (Heap.lt_size e)
  generalize hh2 : h'.push { cls := .type "list", data := .seq (as.map Value.ref).toArray } = h2 at hob kb ⊢
  have ka : ∀ b o, h'.get? b = some o → h2.get? b = some o := fun b o e => by rw [← hh2]; exact Heap.get?_push_of_some _ e
  have ip : ∀ (j : Nat) (b : Addr) (e : Int × Int), as[j]? = some b → ks[j]? = some e → Srt.IsPair h2 (.ref b) e.1 e.2 := by
    intro j b e hj he
    obtain ⟨e', t1, t2, he', hg⟩ := pr j b hj
    obtain rfl : e' = e := Option.some.inj (he'.symm.trans he)
    exact ⟨b, _, t1, t2, 0, rfl, ka _ _ hg, rfl, rfl⟩
  have kf : ∀ (j : Nat) (b : Addr) (e : Int × Int), as[j]? = some b → ks[j]? = some e → pairOf h2 (.ref b) = e := fun j b e hj he => pairOf_eq (ip j b e hj he)
  have at_ : ∀ v ∈ as.map Value.ref, Srt.IsPair h2 v (pairOf h2 v).1 (pairOf h2 v).2 := by
    intro v hv'
    obtain ⟨b, hb, rfl⟩ := List.mem_map.mp hv'
    obtain ⟨j, hj⟩ := List.mem_iff_getElem?.mp hb
    obtain ⟨e, _, _, he, _⟩ := pr j b hj
    rw [kf j b e hj he]
    exact ip j b e hj he
  refine wpAny_call_entry PyProof.Rows.slot_list_sort ⟨_, hob, rfl⟩ PyProof.Rows.entry_list_sort
    (SrtO.list_sort_ord (s := { s with heap := h2, toks := tk }) (SrtO.swo_lex (pairOf h2)) hob (by rw [List.length_map]; omega) (fun h2' => ?_) fun out o1 o2 => ⟨.none, rfl, ?_⟩) (PyProof.Rows.args_list_sort _)
  · refine SrtO.pairs_sortableO (s := { s with heap := h2, toks := tk }) (by omega) at_ fun o e => ?_
    have e' : some o = some (seqObj "list" (as.map Value.ref).toArray 0) := e.symm.trans hob
    cases e'
    intro c
    exact absurd (Value.type.inj c) (by decide)
  · show EP X pins σ Q (.ref h'.objs.size) { s with heap := sortedHeap h2 h'.objs.size (as.map Value.ref) out.toArray, toks := tk }
    have m1 : (as.zip ks).map (fun z : Addr × Int × Int => Value.ref z.1) = as.map Value.ref := by
      have e := List.map_fst_zip (l₁ := as) (l₂ := ks) (by rw [lak]; exact Nat.le_refl _)
      have e2 := congrArg (List.map Value.ref) e
      rw [List.map_map] at e2
      exact e2
    obtain ⟨zs, pz, ez⟩ := perm_lift (fun z : Addr × Int × Int => Value.ref z.1) o2.perm (as.zip ks) m1
    have idx : ∀ z ∈ zs, ∃ j : Nat, as[j]? = some z.1 ∧ ks[j]? = some z.2 := by
      intro z' hz'
      obtain ⟨j, hj⟩ := List.mem_iff_getElem?.mp (pz.mem_iff.mp hz')
      exact ⟨j, List.getElem?_zip_eq_some.mp hj⟩
    have hperm : (zs.map (·.2)).Perm ks := by
      have e := pz.map (·.2)
      have m2 : (as.zip ks).map (·.2) = ks := List.map_snd_zip (by rw [lak]; exact Nat.le_refl _)
      rw [m2] at e
      exact e
    have hsort : (zs.map (·.2)).Pairwise (fun e f => SrtO.lexB f e = false) := by
      have o1' : out.Pairwise (fun x y => SrtO.lexB (pairOf h2 y) (pairOf h2 x) = false) := o1
      rw [← ez, List.pairwise_map] at o1'
      rw [List.pairwise_map]
      refine List.Pairwise.imp_of_mem (fun {x y} hx hy h => ?_) o1'
      obtain ⟨j, j1, j2⟩ := idx x hx
      obtain ⟨i, i1, i2⟩ := idx y hy
      rw [kf j _ _ j1 j2, kf i _ _ i1 i2] at h
      exact h
    have kF : ∀ b o, b ≠ h'.objs.size → h2.get? b = some o → (sortedHeap h2 h'.objs.size (as.map Value.ref) out.toArray).get? b = some o := fun b o hb e => (PyProof.Rows.sortedHeap_old hb (Heap.lt_size e)).trans e
    have kS : ∀ b o, s.heap.get? b = some o → (sortedHeap h2 h'.objs.size (as.map Value.ref) out.toArray).get? b = some o := fun b o e => kF b o (ne0 _ _ (hk b o e)) (kb b o e)
    obtain ⟨eF, heF⟩ := PyProof.Rows.sortedHeap_at (vs := as.map Value.ref) (out := out.toArray) hob
    have I1 : Inv X pins σ H { s with heap := sortedHeap h2 h'.objs.size (as.map Value.ref) out.toArray, toks := tk } := I.kept (t' := tk) kS
    have hn0 : H h'.objs.size = none := I.hok.fresh (Nat.le_of_lt hlt)
    have hlen : (zs.map fun z => V.ref z.1).length ≤ sizeLine := by
      have e := hperm.length_eq
      rw [List.length_map] at e
      rw [List.length_map]
      omega
    have rv : Vals (zs.map fun z => V.ref z.1) out := by
      rw [← ez]
      exact vals_maps (fun z : Addr × Int × Int => V.ref z.1) (fun z => Value.ref z.1) zs fun _ _ => rfl
    have I2 : Inv X pins σ (upd H h'.objs.size (.lst (zs.map fun z => V.ref z.1))) { s with heap := sortedHeap h2 h'.objs.size (as.map Value.ref) out.toArray, toks := tk } :=
      I1.take (h' := sortedHeap h2 h'.objs.size (as.map Value.ref) out.toArray) (t' := tk) (fun b ob _ e => e) (I.fpOk (Nat.le_of_lt hlt) hn0) ⟨hlen, out, eF, rv, heF⟩
    obtain ⟨H2, I3, g, qt⟩ := takeT (P := fun b vs => ∃ (j : Nat) (e : Int × Int), as[j]? = some b ∧ ks[j]? = some e ∧ vs = [.int e.1, .int e.2]) I as _ I2 nd fun b hb => by
      obtain ⟨j, hj⟩ := List.mem_iff_getElem?.mp hb
      obtain ⟨e, t1, t2, he, hg⟩ := pr j b hj
      have hbl : s.heap.objs.size ≤ b := Nat.le_of_lt (hG.above b hb)
      refine ⟨hbl, ?_, [.int e.1, .int e.2], ⟨j, e, hj, he, rfl⟩, fun H3 => ⟨(by rw [sizeLine_eq]; show 2 ≤ 16777216; omega), [Value.int e.1 t1, Value.int e.2 t2], .cons ⟨t1, rfl⟩ (.cons ⟨t2, rfl⟩ .nil), ⟨_, kF _ _ (ne0 _ _ hg) (ka _ _ hg), rfl, 0, rfl⟩⟩⟩
      rw [upd_ne (ne0 _ _ hg)]
      exact I.hok.fresh hbl
    have gr : ∀ b o, H b = some o → H2 b = some o := fun b o e => g b o (by rw [upd_ne (ne_of_none e hn0)]; exact e)
    refine ⟨.ref h'.objs.size, H2, I3, rfl, q H2 h'.objs.size zs gr hperm hsort hn0 (g _ _ upd_same) fun z' hz' => ?_⟩
    obtain ⟨i, i1, i2⟩ := idx z' hz'
    obtain ⟨vs, ⟨j, e, j1, j2, ev⟩, hH⟩ := qt z'.1 (List.mem_of_getElem? i1)
    have eij : i = j := (List.getElem?_inj (List.getElem?_eq_some_iff.mp i1).1 nd).mp (i1.trans j1.symm)
    subst eij
    have ee : e = z'.2 := Option.some.inj (j2.symm.trans i2)
    rw [ev, ee] at hH
    exact ⟨I.hok.fresh (Nat.le_of_lt (hG.above _ (List.mem_of_getElem? i1))), hH⟩
end
end Bk

set_option Elab.async false
set_option linter.all false
set_option maxRecDepth 100000
set_option maxHeartbeats 4000000
/-! Own layer 11: plain tuples (known to have no attributes of their own), dict() of a tuple of pairs. -/
namespace Bk
open PySem PySem.Spec PyProof.Rows L2
/-- the tuple at a is xs, and known to the object -/
def PlT (K : PySem.W.Frag) (H : Hp) (a : Addr) (xs : List V) : Prop :=
  (∃ o : Obj, H a = some (.frz o (.tup xs)) ∧ o.cls = .type "tuple" ∧ o.dict = none) ∨
    ∃ (o : Obj) (its : Array Value) (n : Nat), K.lookup a = some o ∧ o.cls = .type "tuple" ∧ o.dict = none ∧ o.data = .seq its n ∧ its.size ≤ sizeLine ∧ Vals xs its.toList
theorem PlT.sqt {K : PySem.W.Frag} {H : Hp} {a : Addr} {xs : List V} (h : PlT K H a xs) : SqT K H a xs := by
  rcases h with ⟨o, e, _⟩ | ⟨o, its, n, e, hc, _, hd, hz, r⟩
  · exact .inl (.inr ⟨o, e⟩)
  · exact .inr ⟨o, its, n, e, hc, hd, hz, r⟩
theorem PlT.mono {K : PySem.W.Frag} {H H' : Hp} {a : Addr} {xs : List V} (h : PlT K H a xs) (k : ∀ o u, H a = some (.frz o u) → H' a = some (.frz o u)) : PlT K H' a xs :=
  h.imp (fun ⟨o, e, r⟩ => ⟨o, k _ _ e, r⟩) id
theorem plt_new {K : PySem.W.Frag} {H : Hp} {a : Addr} {xs : List V} {o : Obj} (hc : o.cls = .type "tuple") (hd : o.dict = none) : PlT K (upd H a (.frz o (.tup xs))) a xs :=
  .inl ⟨o, upd_same, hc, hd⟩
section
variable {X : Cx}
theorem Inv.plain {pins : List (Addr × Obj)} {σ : L2.St} {H : Hp} {s : Shared} {a : Addr} {xs : List V} (I : L2.Inv X pins σ H s) (h : PlT X.K H a xs) : ∃ its : List Value, Vals xs its ∧ PlainSeq "tuple" s.heap a its.toArray ∧ xs.length ≤ sizeLine := by
  rcases h with ⟨o, e, hc, hd⟩ | ⟨o, its, n, e, hc, hd, hdat, hz, r⟩
  · obtain ⟨ho, z, its, r, o', ho', hc', n, hd'⟩ := (show ObjOk X.prog X.w H s.heap a (.frz o (.tup xs)) from I.hok a _ e)
    have eo : o = o' := Option.some.inj (ho.symm.trans ho')
    subst eo
    exact ⟨its, r, ⟨o, n, ho, hc, hd, hd'⟩, z⟩
  · refine ⟨its.toList, r, ⟨o, n, I.kIn a o e, hc, hd, by simpa using hdat⟩, ?_⟩
    have e := r.length
    simp only [Array.length_toList] at e
    omega
/-- tuple(x) of a list: a new plain tuple -/
def kTupP (K : PySem.W.Frag) (x : V) (H : Hp) (Q : VK) : Prop :=
  ∃ p xs, x = .ref p ∧ SqL K H p xs ∧ ∀ q o, H q = none → o.cls = .type "tuple" → o.dict = none → Q (.ref q) (upd H q (.frz o (.tup xs)))
theorem rl_tupleP (pins : List (Addr × Obj)) (s : Shared) (σ : L2.St) (H : Hp) (x : V) (v : Value) (Q : VK) (I : L2.Inv X pins σ H s) (r : RelV x v) (h : kTupP X.K x H Q) :
    wpAny (model X.prog X.w) X.A (call (.type "tuple") [v]) (EP X pins σ Q) X.xe s := by
  obtain ⟨p, xs, rfl, hs, q⟩ := h
  obtain rfl : v = .ref p := r
  obtain ⟨its, rv, pl, hz⟩ := I.list hs
  refine call_tuple_list pl.isList (fun h' hk => ?_) (by rw [List.size_toArray, ← rv.length]; exact hz)
  have I1 : L2.Inv X pins σ H { s with heap := h' } := I.kept (t' := s.toks) hk
  have I2 : L2.Inv X pins σ (upd H h'.objs.size (.frz { cls := .type "tuple", data := .seq its.toArray } (.tup xs))) { s with heap := h'.push { cls := .type "tuple", data := .seq its.toArray } } :=
    I1.laid (t' := s.toks) (fun b o e => Heap.get?_push_of_some _ e) (Nat.le_refl _) (show ObjOk X.prog X.w _ _ _ (.frz _ (.tup xs)) from ⟨Heap.get?_push_size _ rfl, hz, its, rv, IsTup.new _ _⟩)
  exact ⟨.ref h'.objs.size, _, I2, rfl, q _ _ (I1.hok.fresh (Nat.le_refl _)) rfl rfl⟩
theorem pe_tupleP {a : Expr} {ta : TE} {p pos : Pos} (hg : Gl X "tuple") (hm : X.mg "tuple" = none) (ha : PE X a ta) (na : starEach [a] X.env = (false, eval a X.env) :: starEach [] X.env := by rfl) :
    PE X (.Call (.Name "tuple" p) [a] [] pos) (tThen ta (kTupP X.K)) := by
  refine ⟨fun pins s σ H Q I h => ?_⟩
  exact Call_ (ld_blt I hg hm boot_tuple (PyProof.Rows.callWith_type1 (one_arg ha I h (fun v s2 x H2 I2 r q => rl_tupleP pins s2 σ H2 x v Q I2 r q) na) na))
/-- a tuple of written items -/
def tTupP (t : TA) : TE := fun σ H Q => t σ H fun xs H1 => xs.length ≤ sizeLine ∧ ∀ p o, H1 p = none → o.cls = .type "tuple" → o.dict = none → Q (.ref p) (upd H1 p (.frz o (.tup xs)))
theorem pe_tupP {es : List Expr} {t : TA} {pos : Pos} {x1} (h : PA X es t) : PE X (.Tuple es x1 pos) (tTupP t) := by
  refine ⟨fun pins s σ H Q I hq => ?_⟩
  refine wpAny_Tuple_spliced (thn (h.run pos pins s σ H _ I hq) fun us s1 ⟨xs, H1, I1, r, z, q⟩ => ⟨by rw [← r.length]; exact z, ?_⟩)
  have hf : H1 s1.heap.objs.size = none := I1.hok.fresh (Nat.le_refl _)
  refine ⟨.ref s1.heap.objs.size, upd H1 s1.heap.objs.size (.frz { cls := .type "tuple", data := .seq us.toArray } (.tup xs)), I1.laid (t' := s1.toks) (fun b u e => Heap.get?_push_of_some _ e) (Nat.le_refl _) ?_, rfl, q _ _ hf rfl rfl⟩
  exact ⟨Heap.get?_push_size _ rfl, z, us, r, ⟨_, Heap.get?_push_size _ rfl, rfl, _, rfl⟩⟩
theorem pairs_of2 {pins : List (Addr × Obj)} {σ : L2.St} {H : Hp} {s : Shared} (I : L2.Inv X pins σ H s) : ∀ {ps : List Addr} {kvs : List (Key × V)}, Paired (fun p kv => SqT X.K H p [kV kv.1, kv.2]) ps kvs →
    ∃ (prs : List (Key × Value)) (us : List (Value × Value)), KV kvs prs ∧ prs.length = us.length ∧ us.length = ps.length ∧ ∀ (j : Nat) (u v : Value), us[j]? = some (u, v) → ∃ (b : Addr) (k : Key), ps[j]? = some b ∧ IsTup s.heap b #[u, v] ∧ prs[j]? = some (k, v) ∧ keyIs k u = true
  | _, _, .nil => ⟨[], [], .nil, rfl, rfl, fun j u v e => by simp at e⟩
  | _, _, .cons (a := p) (b := kv) h t => by
    obtain ⟨prs, us, r, h1, h2, hp⟩ := pairs_of2 I t
    obtain ⟨its, rv, ht, _⟩ := I.tuple h
    obtain ⟨u, y, ei, ru, ry⟩ := vals2 rv
    subst ei
    refine ⟨(kv.1, y) :: prs, (u, y) :: us, .cons ⟨rfl, ry⟩ r, by simp [h1], by simp [h2], fun j u' v' e => ?_⟩
    cases j with
    | zero =>
      have e' : (u, y) = (u', v') := Option.some.inj e
      cases e'
      exact ⟨p, kv.1, rfl, ht, rfl, kV_is (P := X.prog) (w := X.w) ru⟩
    | succ j =>
      obtain ⟨b, k, e1, e2, e3, e4⟩ := hp j u' v' (by simpa using e)
      exact ⟨b, k, by simpa using e1, e2, by simpa using e3, e4⟩
/-- dict(t) of a plain tuple of pairs -/
theorem call_dictT (hcalm : X.calm = true) : CallR X (.type "dict") (fun xs H Q => ∃ (a : Addr) (ps : List Addr) (kvs : List (Key × V)), xs = [.ref a] ∧ PlT X.K H a (ps.map V.ref) ∧ Paired (fun p kv => SqT X.K H p [kV kv.1, kv.2]) ps kvs ∧
    ∀ p, H p = none → Q (.ref p) (upd H p (.dK (mergeK [] kvs)))) := by
  intro pins s σ H xs us Q I r q
  obtain ⟨a, ps, kvs, ex, hq, hp, q⟩ := q
  subst ex
  obtain ⟨u, eu, rx⟩ := vals1 r
  subst eu
  cases rx
  obtain ⟨its, rv, pl, hz⟩ := Inv.plain I hq
  have ei := refs_at rv
  subst ei
  rw [List.length_map] at hz
  obtain ⟨prs, us, rel, l1, l2, hpr⟩ := pairs_of2 I hp
  refine PySem.call_dict_pairs (knd := mixKind X.prog X.w) (kvs := prs) (PairArg.tuple (prog := X.prog) (w := X.w) a (ps.map Value.ref).toArray (fun j => (ps[j]?).getD 0) us) (I.ok.hd hcalm) ⟨pl, by simp [l2], fun j k v e => ?_⟩ ⟨l1, fun j u v e => ?_⟩ (by omega) fun h' tk hd' k => ?_
  · obtain ⟨b, key, e1, e2, _⟩ := hpr j k v e
    have e0 : (ps[j]?).getD 0 = b := by rw [e1] <;> rfl
    show (ps.map Value.ref).toArray[j]? = some (.ref ((ps[j]?).getD 0)) ∧ PairAt s.heap ((ps[j]?).getD 0) k v
    rw [e0]
    exact ⟨by simp [e1], .inl e2⟩
  · obtain ⟨b, key, _, _, e3, e4⟩ := hpr j u v e
    exact ⟨key, e3, e4⟩
  · have hm : (s.heap.objs.size == sysModules) = false := beq_eq_false_iff_ne.mpr (Nat.ne_of_gt I.big)
    have hlen : (mergeK [] kvs).length ≤ sizeLine := by
      refine Nat.le_trans (length_mergeK kvs []) ?_
      rw [List.length_nil, Nat.zero_add, rel.length, l1, l2]
      exact hz
    have k' : ∀ b o, s.heap.get? b = some o → h'.get? b = some o := fun b o e => k b o (by simp) e
    exact ⟨.ref s.heap.objs.size, upd H s.heap.objs.size (.dK (mergeK [] kvs)), I.laid (t' := tk) k' (Nat.le_refl _) (show ObjOk X.prog X.w _ _ _ (.dK (mergeK [] kvs)) from ⟨hlen, hm, merged [] prs, KV.merge rel .nil, hd'⟩), rfl, q _ (I.hok.fresh (Nat.le_refl _))⟩
end
end Bk

set_option Elab.async false
set_option linter.all false
set_option maxRecDepth 100000
set_option maxHeartbeats 4000000
/-! Own layer 12: {k: v for x in a for y in b}; {**a, **b, **c}; calls by keywords alone. -/
namespace Bk
open PySem PySem.Spec PyProof.Rows L2
abbrev dc2 (kx vx t0 i0 t1 i1 : Expr) (sc : Scope) (ps : Pos) : Expr := .DictComp kx vx [⟨t0, i0, [], 0⟩, ⟨t1, i1, [], 0⟩] sc ps
theorem dcTurn0 (kx vx t0 i0 t1 i1 : Expr) (sc : Scope) (ps : Pos) (it acc : Value) (env : Env) :
    compTurn (dc2 kx vx t0 i0 t1 i1 sc ps) 0 it acc env = (do
      standAt i0.pos
      match ← pyNext it with
      | none => pure (.done .next)
      | some v =>
        letOwnedTupleGo t0 it v
        assign t0 env v
        let mut ok := true
        for c in ([] : List Expr) do
          if ok then ok ← isTrue c env (eval c env)
        if ok then
          let x ← eval i1 env
          standAt i1.pos
          let x ← foldedSetIterable i1 env x
          let _ ← runOwn (.compStart (dc2 kx vx t0 i0 t1 i1 sc ps) 1 (← holding [x] (pyIter x)) acc env) env
        again (.compLoop (dc2 kx vx t0 i0 t1 i1 sc ps) 0 it acc env)) := by rfl
theorem dcTurn1 (kx vx t0 i0 t1 i1 : Expr) (sc : Scope) (ps : Pos) (it : Value) (D : Addr) (env : Env) :
    compTurn (dc2 kx vx t0 i0 t1 i1 sc ps) 1 it (.ref D) env = (do
      standAt i1.pos
      match ← pyNext it with
      | none => pure (.done .next)
      | some v =>
        letOwnedTupleGo t1 it v
        assign t1 env v
        let mut ok := true
        for c in ([] : List Expr) do
          if ok then ok ← isTrue c env (eval c env)
        if ok then
          (do
            let a ← eval kx env
            let b ← holding [a] (eval vx env)
            standAt { kx.pos with endLine := vx.pos.endLine, endCol := vx.pos.endCol }
            holding [a, b] (dictSet D a b))
        again (.compLoop (dc2 kx vx t0 i0 t1 i1 sc ps) 1 it (.ref D) env)) := by rfl
section
variable {P : Program} {w : World} {A : Around} {R : Result → Shared → Prop} {s : Shared} {kx vx t0 i0 t1 i1 : Expr} {sc : Scope} {ps : Pos} {it acc : Value} {env : Env} {D : Addr}
theorem dcLoop0 (hs : ∀ x, foldedSetIterable i1 env x = pure x) (I : Nat → Shared → Prop)
    (turn : ∀ n s, I n s → wpAny (model P w) A (pyNext it) (fun r sa => match r with
      | none => R (.ok .next) sa
      | some v => wpAny (model P w) A (letOwnedTupleGo t0 it v) (fun _ sb => wpAny (model P w) A (assign t0 env v) (fun _ sc' => wpAny (model P w) A (eval i1 env) (fun x sd => wpAny (model P w) A (pyIter x) (fun jt se =>
          codeAny (model P w) A (.compStart (dc2 kx vx t0 i0 t1 i1 sc ps) 1 jt acc env) (fun r sz => match r with
            | .ok _ => ∃ m, m < n ∧ I m sz
            | .error _ => False) se) (notedBy (model P w) A env fun e sz => R (.error e) sz) sd) (notedBy (model P w) A env fun e sz => R (.error e) sz) sc') (notedBy (model P w) A env fun e sz => R (.error e) sz) sb) (notedBy (model P w) A env fun e sz => R (.error e) sz) sa) (notedBy (model P w) A env fun e sz => R (.error e) sz) s)
    (n : Nat) (h : I n s) : codeAny (model P w) A (.compLoop (dc2 kx vx t0 i0 t1 i1 sc ps) 0 it acc env) R s := by
  refine codeAny_loop rfl I (fun n s hI => ?_) n h
  show wpAny _ A ((compTurn (dc2 kx vx t0 i0 t1 i1 sc ps) 0 it acc env).onRaise (fun x => do noteFrame x env; theTreesLotGoes x)) _ _ s
  refine wpAny_noted ?_
  rw [dcTurn0]
  refine wpAny_bind (wpAny_standAt (wpAny_bind (wpAny_mono (turn n s hI) (fun r sa ha => ?_) fun _ _ z => z)))
  cases r with
  | none => exact wpAny_pure ha
  | some v =>
    refine wpAny_bind (wpAny_mono ha (fun _ sb hb => ?_) fun _ _ z => z)
    refine wpAny_bind (wpAny_mono hb (fun _ sc' hc => ?_) fun _ _ z => z)
    dsimp only
    rw [List.forIn_nil]
    refine wpAny_bind (wpAny_pure ?_)
    rw [if_pos rfl]
    refine wpAny_bind (wpAny_mono hc (fun x sd hd => ?_) fun _ _ z => z)
    refine wpAny_bind (wpAny_standAt (wpAny_bind (wpAny_of_eq (hs x) (wpAny_bind (wpAny_holding (wpAny_mono hd (fun jt se he => ?_) fun _ _ z => z))))))
    refine wpAny_bind (wpAny_runOwn ?_)
    rw [Around.mark_none]
    refine codeAny_mono he fun r sz hr => ?_
    cases r with
    | error e => exact hr.elim
    | ok f =>
      first
        | exact wpAny_pure ⟨rfl, hr⟩
        | exact wpAny_bind (wpAny_pure (wpAny_pure ⟨rfl, hr⟩))
theorem dcLoop1 (I : Nat → Shared → Prop)
    (turn : ∀ n s, I n s → wpAny (model P w) A (pyNext it) (fun r sa => match r with
      | none => R (.ok .next) sa
      | some v => wpAny (model P w) A (letOwnedTupleGo t1 it v) (fun _ sb => wpAny (model P w) A (assign t1 env v) (fun _ sc' => wpAny (model P w) A (eval kx env) (fun a sd => wpAny (model P w) A (eval vx env) (fun b se =>
          wpAny (model P w) A (dictSet D a b) (fun _ sz => ∃ m, m < n ∧ I m sz) (notedBy (model P w) A env fun e sz => R (.error e) sz) se) (notedBy (model P w) A env fun e sz => R (.error e) sz) sd) (notedBy (model P w) A env fun e sz => R (.error e) sz) sc') (notedBy (model P w) A env fun e sz => R (.error e) sz) sb) (notedBy (model P w) A env fun e sz => R (.error e) sz) sa) (notedBy (model P w) A env fun e sz => R (.error e) sz) s)
    (n : Nat) (h : I n s) : codeAny (model P w) A (.compLoop (dc2 kx vx t0 i0 t1 i1 sc ps) 1 it (.ref D) env) R s := by
  refine codeAny_loop rfl I (fun n s hI => ?_) n h
  show wpAny _ A ((compTurn (dc2 kx vx t0 i0 t1 i1 sc ps) 1 it (.ref D) env).onRaise (fun x => do noteFrame x env; theTreesLotGoes x)) _ _ s
  refine wpAny_noted ?_
  rw [dcTurn1]
  refine wpAny_bind (wpAny_standAt (wpAny_bind (wpAny_mono (turn n s hI) (fun r sa ha => ?_) fun _ _ z => z)))
  cases r with
  | none => exact wpAny_pure ha
  | some v =>
    refine wpAny_bind (wpAny_mono ha (fun _ sb hb => ?_) fun _ _ z => z)
    refine wpAny_bind (wpAny_mono hb (fun _ sc' hc => ?_) fun _ _ z => z)
    dsimp only
    rw [List.forIn_nil]
    refine wpAny_bind (wpAny_pure ?_)
    rw [if_pos rfl]
    exact wpAny_bind (wpAny_bind (wpAny_mono hc (fun a sd hd => wpAny_bind (wpAny_holding (wpAny_mono hd (fun b se he => wpAny_bind (wpAny_standAt (wpAny_holding (wpAny_mono he (fun _ sz hz => wpAny_pure ⟨rfl, hz⟩) fun _ _ z => z)))) fun _ _ z => z))) fun _ _ z => z))
theorem dcStart1 (h0 : codeAny (model P w) A (.compLoop (dc2 kx vx t0 i0 t1 i1 sc ps) 1 it acc env) R s)
    (h : wpAny (model P w) A (pyIter it) (fun jt sz => codeAny (model P w) A (.compLoop (dc2 kx vx t0 i0 t1 i1 sc ps) 1 jt acc env) R sz) (notedBy (model P w) A env fun x sz => R (.error x) sz) s) :
    codeAny (model P w) A (.compStart (dc2 kx vx t0 i0 t1 i1 sc ps) 1 it acc env) R s := by
  refine codeAny_of_tree ?_
  show wpAny _ _ ((compStart (dc2 kx vx t0 i0 t1 i1 sc ps) 1 it acc env).onRaise (fun x => do noteFrame x env; standAt theWindowsPlace)) _ _ s
  refine wpAny_notedAt ?_
  unfold compStart
  show wpAny _ _ (ask >>= _) _ _ s
  refine wpAny_bind (wpAny_askSetting (wpAny_ite ?_))
  split
  · first
      | exact wpAny_pure (And.intro rfl h0)
      | exact wpAny_bind (wpAny_pure (wpAny_pure (And.intro rfl h0)))
  · refine wpAny_bind (wpAny_rule ?_)
    first
      | exact wpAny_bind (wpAny_standAt (wpAny_bind (wpAny_mono h (fun jt sz q => wpAny_pure (And.intro rfl q)) fun _ _ x => x)))
      | (show wpAny _ _ (standAt i1.pos >>= _) _ _ s; exact wpAny_bind (wpAny_standAt (wpAny_bind (wpAny_mono h (fun jt sz q => wpAny_pure (And.intro rfl q)) fun _ _ x => x))))
end
section
variable {X : Cx}
/-- {kx: vx for t0 in i0 for t1 in i1}: vs the block's names, us those of the second target -/
def tDc2 (wi : TI) (g : TG) (wi1 : TI) (g1 : TG) (tk tv : TE) (vs us : List Nat) : TE := fun σ H Q => wi σ H fun J H1 => ∀ D, H1 D = none → ∃ W : Nat → Nat → Hp → Prop, (∃ m, W 0 m (upd H1 D (.dK []))) ∧ ∀ i m H, W i m H →
  (J.stop i H ∧ Q (.ref D) H) ∨ (J.go i H ∧ ∃ Nx : Hp → Prop, (∀ H', Nx H' → ∃ m', m' < m ∧ W (i + 1) m' H') ∧ ∀ x H', J.yld i H x H' → g x (wipe σ vs) H' fun σ2 H3 => wipe σ2 vs = wipe σ vs ∧
    wi1 σ2 H3 fun J1 H4 => ∃ V1 : Nat → Nat → Hp → Prop, (∃ m, V1 0 m H4) ∧ ∀ j k H, V1 j k H →
      (J1.stop j H ∧ Nx H) ∨ (J1.go j H ∧ ∃ Ny : Hp → Prop, (∀ H', Ny H' → ∃ k', k' < k ∧ V1 (j + 1) k' H') ∧ ∀ x H', J1.yld j H x H' → g1 x (wipe σ2 us) H' fun σ3 H5 => wipe σ3 us = wipe σ2 us ∧
        tk σ3 H5 fun y H6 => tv σ3 H6 fun z H7 => ∃ kvs k, y = kV k ∧ H7 D = some (.dK kvs) ∧ kvs.length < sizeLine ∧ Ny (upd H7 D (.dK (putK kvs k z)))))
theorem dc2_core {pins : List (Addr × Obj)} {s : Shared} {σ : L2.St} {H : Hp} {Q : VK} {kx vx t0 i0 t1 i1 : Expr} {sc : Scope} {own : List (Str × Nat)} {us : List Nat} {ps pos' : Pos} {wi wi1 : TI} {g g1 : TG} {tk tv : TE} {use : Option (Value → Sem Unit)} {Qf : Value → Shared → Prop} (hc : X.calm = true) (hN : X.N.Nodup) (I : L2.Inv X pins σ H s) (hi : PI X t0 i0 wi) (ok : BlkOk X.N X.env.scope sc own) (hv : ∀ i ∈ us, i ∈ own.map (·.2))
    (hg : ∀ (s : Shared) (H : Hp) (C : Addr) (cl : List (Str × Addr)) (fp : List Addr), PG (X.blk s H sc (compEnvC sc cl C X.env) fp) t0 g)
    (hi1 : ∀ (s : Shared) (H : Hp) (C : Addr) (cl : List (Str × Addr)) (fp : List Addr), PI (X.blk s H sc (compEnvC sc cl C X.env) fp) t1 i1 wi1)
    (hg1 : ∀ (s : Shared) (H : Hp) (C : Addr) (cl : List (Str × Addr)) (fp : List Addr), PG (X.blk s H sc (compEnvC sc cl C X.env) fp) t1 g1)
    (hk : ∀ (s : Shared) (H : Hp) (C : Addr) (cl : List (Str × Addr)) (fp : List Addr), PE (X.blk s H sc (compEnvC sc cl C X.env) fp) kx tk)
    (he : ∀ (s : Shared) (H : Hp) (C : Addr) (cl : List (Str × Addr)) (fp : List Addr), PE (X.blk s H sc (compEnvC sc cl C X.env) fp) vx tv)
    (hs : ∀ x, foldedSetIterable i0 X.env x = pure x) (hs1 : ∀ env x, foldedSetIterable i1 env x = pure x) (h : tDc2 wi g wi1 g1 tk tv (own.map (·.2)) us σ H Q)
    (hRR : ∀ D C s' m H', L2.Inv X pins σ H' s' → Q (.ref D) H' → s'.heap.Ns C m → FpOk X pins H' C → compPost (model X.prog X.w) X.A X.xe use Qf (.ref D) C (.ok .next) s') :
    wpAny (model X.prog X.w) X.A (comprehension (dc2 kx vx t0 i0 t1 i1 sc ps) sc X.env pos' newDict false (eval i0 X.env) use) Qf X.xe s := by
  have hfree : ∀ y ∈ sc.names, y.2 = .free → ∃ c, X.env.cells.lookup y.1 = some c := fun y hy e => (ok.free y hy e).elim (fun k => I.ok.has _ (.inl k)) fun k => I.ok.has _ (.inr k)
  refine wpAny_comprehension_free (use := use) rfl hs (closure_ok hfree) ok.kind (fun y hy e => by rw [ok.uniq y hy, e]) (thn (hi.run pins s σ H _ I h) fun xv s1 hx => thn hx fun itv s2 h2 => ?_)
  obtain ⟨it, fp, tn, J, H2, e, I2, T, st2, f2, q⟩ := h2
  subst e
  refine wpAny_newObj_type (newEnv_comp ?_)
  have hDn : H2 s2.heap.objs.size = none := I2.hok.fresh (Nat.le_refl _)
  have sz : ∀ b ∈ fp, b < s2.heap.objs.size := fun b hb => let ⟨o, e, _⟩ := T.obj _ _ st2 b hb; Heap.lt_size e
  have I3 : L2.Inv X pins σ (upd H2 s2.heap.objs.size (.dK [])) { s2 with heap := s2.heap.push { cls := .type "dict", data := .dict #[] } } :=
    I2.laid (t' := s2.toks) (fun _ _ e => Heap.get?_push_of_some _ e) (Nat.le_refl _) (dk_empty s2.heap I2.big)
  generalize hD : s2.heap.objs.size = D at hDn sz I3 ⊢
  obtain ⟨W, ⟨m0, w0⟩, turn⟩ := q D hDn
  have st3 : tn 0 (s2.heap.push { cls := .type "dict", data := .dict #[] }) := T.keep _ _ _ st2 fun b _ o e => Heap.get?_push_of_some _ e
  have z3 : (s2.heap.push { cls := .type "dict", data := .dict #[] }).objs.size = D + 1 := by rw [Heap.size_push, hD]
  generalize hs3 : ({ s2 with heap := s2.heap.push { cls := .type "dict", data := .dict #[] } } : Shared) = s3 at I3
  have h3 : s3.heap = s2.heap.push { cls := .type "dict", data := .dict #[] } := by rw [← hs3]
  rw [← h3] at st3 z3
  generalize hH3 : upd H2 D (.dK []) = H3 at I3 w0
  have f3 : ∀ b ∈ fp, FpOk X pins H3 b ∧ b < s3.heap.objs.size := fun b hb => by
    have hlt := sz b hb
    refine ⟨⟨?_, (f2 b hb).2⟩, by rw [z3]; exact Nat.lt_succ_of_lt hlt⟩
    rw [← hH3, upd_ne (Nat.ne_of_lt hlt)]
    exact (f2 b hb).1
  have I4 := block_start I3 ok hN f3
  have pg := hg s3 H3 s3.heap.objs.size (cellsFrom (s3.heap.objs.size + 1) sc.names (cloFrom X.env.cells sc.names [])) fp
  have pk := hk s3 H3 s3.heap.objs.size (cellsFrom (s3.heap.objs.size + 1) sc.names (cloFrom X.env.cells sc.names [])) fp
  have pe := he s3 H3 s3.heap.objs.size (cellsFrom (s3.heap.objs.size + 1) sc.names (cloFrom X.env.cells sc.names [])) fp
  have pi1 := hi1 s3 H3 s3.heap.objs.size (cellsFrom (s3.heap.objs.size + 1) sc.names (cloFrom X.env.cells sc.names [])) fp
  have pg1 := hg1 s3 H3 s3.heap.objs.size (cellsFrom (s3.heap.objs.size + 1) sc.names (cloFrom X.env.cells sc.names [])) fp
  have goal : codeAny (model X.prog X.w) X.A (.compStart (dc2 kx vx t0 i0 t1 i1 sc ps) 0 (.ref it) (.ref D) (compEnvC sc (cellsFrom (s3.heap.objs.size + 1) sc.names (cloFrom X.env.cells sc.names [])) s3.heap.objs.size X.env)) (compPost (model X.prog X.w) X.A X.xe use Qf (.ref D) s3.heap.objs.size) { s3 with heap := pushCells (s3.heap.push { cls := .type "dict", data := .dict #[] }) sc.names } := by
    have nfp : ∀ b ∈ fp, H3 b = none := fun b hb => (f3 b hb).1.1
    generalize hce : compEnvC sc (cellsFrom (s3.heap.objs.size + 1) sc.names (cloFrom X.env.cells sc.names [])) s3.heap.objs.size X.env = ce at I4 pg pk pe pi1 pg1 ⊢
    have cL : ce.locals = s3.heap.objs.size := by subst hce; rfl
    generalize hs4 : ({ s3 with heap := pushCells (s3.heap.push { cls := .type "dict", data := .dict #[] }) sc.names } : Shared) = s4 at I4 ⊢
    have st4 : tn 0 s4.heap := T.keep _ _ _ st3 fun b _ o e => by rw [← hs4]; exact pushCells_keeps _ _ _ _ (Heap.get?_push_of_some _ e)
    have stat : ∀ {σ' : L2.St} {H' : Hp} {s' : Shared}, L2.Inv (X.blk s3 H3 sc ce fp) [] σ' H' s' → (∀ b ∈ fp, H' b = none) → ∀ b ∈ fp, FpOk (X.blk s3 H3 sc ce fp) [] H' b := fun J' hn b hb =>
      ⟨hn b hb, (J'.ok.exf b hb).1, J'.ok.exfs b hb, .inl hb, fun x c e => (J'.ok.exf b hb).2 x c e, fun p hp => absurd (show p ∈ ([] : List (Addr × Obj)) ++ [] from hp) (by simp)⟩
    have loop : codeAny (model X.prog X.w) X.A (.compLoop (dc2 kx vx t0 i0 t1 i1 sc ps) 0 (.ref it) (.ref D) ce) (compPost (model X.prog X.w) X.A X.xe use Qf (.ref D) s3.heap.objs.size) s4 := by
      refine dcLoop0 (hs1 ce) (fun n s' => ∃ i H', L2.Inv (X.blk s3 H3 sc ce fp) [] (wipe σ (own.map (·.2))) H' s' ∧ tn i s'.heap ∧ (∀ b ∈ fp, H' b = none) ∧ W i n H') ?_ m0 ⟨0, H3, I4, st4, nfp, w0⟩
      rintro n s5 ⟨i, H5, I5, st5, n5, w5⟩
      rcases turn i n H5 w5 with ⟨stop, qq⟩ | ⟨go, Nx, hNx, step⟩
      · refine thnF (T.done (X.blk s3 H3 sc ce fp) rfl rfl rfl hc i [] s5 _ H5 (fun _ _ => False) I5 (stat I5 n5) st5 stop) fun r s6 ⟨hr, I6⟩ => ?_
        subst hr
        have I7 : L2.Inv X pins σ H5 s6 := I3.call' (ch := fp) I6.os I6.base I6.hok I6.bare fun b hb => ⟨(f3 b hb).1.2.2.2.1, (f3 b hb).1.2.1, (f3 b hb).1.2.2.2.2.1, (f3 b hb).1.2.2.2.2.2⟩
        have nC : H5 s3.heap.objs.size = none := by
          have z : H5 ce.locals = none := I6.free
          rw [cL] at z
          exact z
        obtain ⟨m, hn, _⟩ := I6.loc
        have hn : s6.heap.Ns ce.locals m := hn
        rw [cL] at hn
        exact hRR D s3.heap.objs.size s6 m H5 I7 qq hn (I3.fpOk (Nat.le_refl _) nC)
      · refine thnF (T.item (X.blk s3 H3 sc ce fp) rfl rfl rfl hc i [] s5 _ H5 (fun _ _ => False) I5 (stat I5 n5) st5 go) fun r s6 ⟨u, hr, h6⟩ => ?_
        subst hr
        refine thnF h6 fun _ s7 ⟨x, H7, I7, r7, y7, st7, n7⟩ => ?_
        refine thnF (pg.run _ s7 _ H7 x u _ (I7.pinned (stat I7 n7) (T.obj _ _ st7)) r7 (step x H7 y7)) fun _ s8 ⟨σ8, H8, I8, hw8, q8⟩ => ?_
        have fin : ∀ {σ9 : L2.St} {s' : Shared} {H' : Hp}, L2.Inv (X.blk s3 H3 sc ce fp) ([] ++ pinsAt fp s7.heap) σ9 H' s' → (wipe σ (own.map (·.2))).length = σ9.length → (∀ (j : Nat) v, (wipe σ (own.map (·.2)))[j]? = some (some v) → σ9[j]? = some (some v)) → Nx H' →
            ∃ m, m < n ∧ ∃ i H', L2.Inv (X.blk s3 H3 sc ce fp) [] (wipe σ (own.map (·.2))) H' s' ∧ tn i s'.heap ∧ (∀ b ∈ fp, H' b = none) ∧ W i m H' := fun {σ9 s' H'} J' hl hk nx => by
          obtain ⟨m', hm, w'⟩ := hNx H' nx
          have pin : ∀ b ∈ fp, ∀ o, s7.heap.get? b = some o → s'.heap.get? b = some o ∧ H' b = none := fun b hb o e =>
            let z := J'.pin (b, o) (List.mem_append_right _ (List.mem_append_right _ (mem_pinsAt hb e)))
            ⟨z.1, z.2.1⟩
          refine ⟨m', hm, i + 1, H', (J'.unpinned (pins := [])).weak hl hk, T.keep _ _ _ st7 fun b hb o e => (pin b hb o e).1, fun b hb => ?_, w'⟩
          obtain ⟨o, e, _⟩ := T.obj _ _ st7 b hb
          exact (pin b hb o e).2
        have hl8 : (wipe σ (own.map (·.2))).length = σ8.length := by rw [← hw8, wipe_length]
        have hk9 : ∀ (j : Nat) v, (wipe σ (own.map (·.2)))[j]? = some (some v) → (wipe σ8 us)[j]? = some (some v) := fun j v e => by
          rw [← hw8] at e
          obtain ⟨e1, e2⟩ := wipe_some e
          rw [wipe_out fun z => e2 (hv j z)]
          exact e1
        refine thnF (pi1.run _ s8 σ8 H8 _ I8 q8) fun xv sa hx => thnF hx fun itv sb hb2 => ?_
        obtain ⟨it1, fp1, tn1, J1, Hb, e1, Ib, T1, stb, fb, V1, ⟨m1, w1⟩, turn1⟩ := hb2
        subst e1
        have stat1 : ∀ {H' : Hp}, (∀ b ∈ fp1, H' b = none) → ∀ b ∈ fp1, FpOk (X.blk s3 H3 sc ce fp) ([] ++ pinsAt fp s7.heap) H' b := fun hn b hb => ⟨hn b hb, (fb b hb).2⟩
        have loop1 : codeAny (model X.prog X.w) X.A (.compLoop (dc2 kx vx t0 i0 t1 i1 sc ps) 1 (.ref it1) (.ref D) ce)
            (fun r s' => match r with
              | .ok _ => ∃ m, m < n ∧ ∃ i H', L2.Inv (X.blk s3 H3 sc ce fp) [] (wipe σ (own.map (·.2))) H' s' ∧ tn i s'.heap ∧ (∀ b ∈ fp, H' b = none) ∧ W i m H'
              | .error _ => False) sb := by
          refine dcLoop1 (fun k s' => ∃ j H', L2.Inv (X.blk s3 H3 sc ce fp) ([] ++ pinsAt fp s7.heap) (wipe σ8 us) H' s' ∧ tn1 j s'.heap ∧ (∀ b ∈ fp1, H' b = none) ∧ V1 j k H') ?_ m1 ⟨0, Hb, Ib.weak (wipe_length _ _) (fun j v e => (wipe_some e).1), stb, fun b hb => (fb b hb).1, w1⟩
          rintro k sd ⟨j, Hd, Id, std, nd, wd⟩
          rcases turn1 j k Hd wd with ⟨stop1, nx1⟩ | ⟨go1, Ny, hNy, step1⟩
          · refine thnF (T1.done (X.blk s3 H3 sc ce fp) rfl rfl rfl hc j _ sd (wipe σ8 us) Hd (fun _ _ => False) Id (stat1 nd) std stop1) fun r se ⟨hr, Ie⟩ => ?_
            subst hr
            exact fin Ie (hl8.trans (wipe_length σ8 us).symm) hk9 nx1
          · refine thnF (T1.item (X.blk s3 H3 sc ce fp) rfl rfl rfl hc j _ sd (wipe σ8 us) Hd (fun _ _ => False) Id (stat1 nd) std go1) fun r se ⟨u1, hr, he'⟩ => ?_
            subst hr
            refine thnF he' fun _ sf ⟨x1, Hf, If, rf, yf, stf, nf⟩ => ?_
            refine thnF (pg1.run _ sf (wipe σ8 us) Hf x1 u1 _ (If.pinned (stat1 nf) (T1.obj _ _ stf)) rf (step1 x1 Hf yf)) fun _ sg ⟨σg, Hg, Ig, hwg, qg⟩ => ?_
            refine thnF (pk.run _ sg σg Hg _ Ig qg) fun a sh ⟨yk, Hh, Ih, rh, qh⟩ => ?_
            refine thnF (pe.run _ sh σg Hh _ Ih qh) fun b si ⟨yv, Hi, Ii, ri, kvs, key, ek, hDi, hzi, nx⟩ => ?_
            subst ek
            refine d_dictSet (X := X.blk s3 H3 sc ce fp) Ii hDi hzi rh ri fun sj Ij => ?_
            obtain ⟨m', hm, w'⟩ := hNy _ nx
            have pin : ∀ b ∈ fp1, ∀ o, sf.heap.get? b = some o → sj.heap.get? b = some o ∧ (upd Hi D (.dK (putK kvs key yv))) b = none := fun b hb o e =>
              let z := Ij.pin (b, o) (List.mem_append_right _ (List.mem_append_right _ (mem_pinsAt hb e)))
              ⟨z.1, z.2.1⟩
            refine ⟨m', hm, j + 1, _, Ij.unpinned.weak (by rw [← hwg, wipe_length]) (fun j v e => by rw [← hwg] at e; exact (wipe_some e).1), T1.keep _ _ _ stf fun b hb o e => (pin b hb o e).1, fun b hb => ?_, w'⟩
            obtain ⟨o, e, _⟩ := T1.obj _ _ stf b hb
            exact (pin b hb o e).2
        exact dcStart1 loop1 (T1.self X.A 0 _ _ _ stb loop1)
    exact codeAny_compStart_dict loop (T.self X.A 0 _ _ _ st4 loop)
  exact goal
theorem pe_dc2 {kx vx t0 i0 t1 i1 : Expr} {sc : Scope} {own : List (Str × Nat)} {us : List Nat} {ps : Pos} {wi wi1 : TI} {g g1 : TG} {tk tv : TE} (hc : X.calm = true) (hN : X.N.Nodup) (hi : PI X t0 i0 wi) (ok : BlkOk X.N X.env.scope sc own) (hv : ∀ i ∈ us, i ∈ own.map (·.2))
    (hg : ∀ (s : Shared) (H : Hp) (C : Addr) (cl : List (Str × Addr)) (fp : List Addr), PG (X.blk s H sc (compEnvC sc cl C X.env) fp) t0 g)
    (hi1 : ∀ (s : Shared) (H : Hp) (C : Addr) (cl : List (Str × Addr)) (fp : List Addr), PI (X.blk s H sc (compEnvC sc cl C X.env) fp) t1 i1 wi1)
    (hg1 : ∀ (s : Shared) (H : Hp) (C : Addr) (cl : List (Str × Addr)) (fp : List Addr), PG (X.blk s H sc (compEnvC sc cl C X.env) fp) t1 g1)
    (hk : ∀ (s : Shared) (H : Hp) (C : Addr) (cl : List (Str × Addr)) (fp : List Addr), PE (X.blk s H sc (compEnvC sc cl C X.env) fp) kx tk)
    (he : ∀ (s : Shared) (H : Hp) (C : Addr) (cl : List (Str × Addr)) (fp : List Addr), PE (X.blk s H sc (compEnvC sc cl C X.env) fp) vx tv)
    (hs : ∀ x, foldedSetIterable i0 X.env x = pure x := by intro _; rfl) (hs1 : ∀ env x, foldedSetIterable i1 env x = pure x := by intro _ _; rfl) :
    PE X (dc2 kx vx t0 i0 t1 i1 sc ps) (tDc2 wi g wi1 g1 tk tv (own.map (·.2)) us) := by
  refine ⟨fun pins s σ H Q I h => ?_⟩
  unfold dc2
  rw [arm_eval_DictComp]
  refine dc2_core hc hN I hi ok hv hg hi1 hg1 hk he hs hs1 h fun D C s' m H' I' q hn f => ⟨m, hn, fun h'' sb => ?_⟩
  obtain ⟨g0, g1, g2, g3, g4, g5⟩ := f
  exact ⟨.ref D, H', I'.turned (t' := s'.toks) (fun b o hb e => (sb.2 b hb).trans e) g0 g1 g3 g4 g5, rfl, q⟩
/-- y = {..} -/
theorem ps_setDc2 {i : Nat} {y : Str} {py : Pos} {kx vx t0 i0 t1 i1 : Expr} {sc : Scope} {own : List (Str × Nat)} {us : List Nat} {ps sp : Pos} {wi wi1 : TI} {g g1 : TG} {tk tv : TE} (hc : X.calm = true) (hN : X.N.Nodup) (hy : X.N[i]? = some y) (hyl : X.env.scope.names.lookup y = some .local)
    (hsw : swapsWith (dc2 kx vx t0 i0 t1 i1 sc ps) (some (.Name y py)) sp.line X.env = pure true) (hi : PI X t0 i0 wi) (ok : BlkOk X.N X.env.scope sc own) (hv : ∀ i ∈ us, i ∈ own.map (·.2))
    (hg : ∀ (s : Shared) (H : Hp) (C : Addr) (cl : List (Str × Addr)) (fp : List Addr), PG (X.blk s H sc (compEnvC sc cl C X.env) fp) t0 g)
    (hi1 : ∀ (s : Shared) (H : Hp) (C : Addr) (cl : List (Str × Addr)) (fp : List Addr), PI (X.blk s H sc (compEnvC sc cl C X.env) fp) t1 i1 wi1)
    (hg1 : ∀ (s : Shared) (H : Hp) (C : Addr) (cl : List (Str × Addr)) (fp : List Addr), PG (X.blk s H sc (compEnvC sc cl C X.env) fp) t1 g1)
    (hk : ∀ (s : Shared) (H : Hp) (C : Addr) (cl : List (Str × Addr)) (fp : List Addr), PE (X.blk s H sc (compEnvC sc cl C X.env) fp) kx tk)
    (he : ∀ (s : Shared) (H : Hp) (C : Addr) (cl : List (Str × Addr)) (fp : List Addr), PE (X.blk s H sc (compEnvC sc cl C X.env) fp) vx tv)
    (hs : ∀ x, foldedSetIterable i0 X.env x = pure x := by intro _; rfl) (hs1 : ∀ env x, foldedSetIterable i1 env x = pure x := by intro _ _; rfl) :
    PS X (.Assign [.Name y py] (dc2 kx vx t0 i0 t1 i1 sc ps) sp) (tAsg (tDc2 wi g wi1 g1 tk tv (own.map (·.2)) us) (gName i)) := by
  refine ⟨fun pins s σ H D I h => ?_⟩
  rw [exec_Assign_Name_used _ _ _ _ hsw]
  refine wpAny_bind (wpAny_standAt (wpAny_bind ?_))
  show wpAny _ X.A (do let _ ← comprehension (dc2 kx vx t0 i0 t1 i1 sc ps) sc X.env (firstIterPos [⟨t0, i0, [], 0⟩, ⟨t1, i1, [], 0⟩] ps) newDict false (eval i0 X.env) (some (assign (.Name y py) X.env))) _ _ s
  have h : tDc2 wi g wi1 g1 tk tv (own.map (·.2)) us σ H (fun x H1 => gName i x σ H1 D.nx) := h
  refine wpAny_bind (thn (dc2_core (Qf := fun _ s' => SP X pins D .next s') hc hN I hi ok hv hg hi1 hg1 hk he hs hs1 h fun L C s' m H' I' q hn f => ?_) fun _ s' hq => wpAny_pure (wpAny_pure hq))
  show wpAny _ _ (assign (.Name y py) X.env (.ref L)) _ _ _
  refine wpAny_assign_Name (store_ok2 (v := V.ref L) I' hN hy (.inl hyl) rfl (fun s2 I2 ⟨a, sb, ha⟩ => ?_) (.inr hyl))
  obtain ⟨f0, f1, f2, f3, f4, f5⟩ := f
  have hne : C ≠ a := ha.elim (fun z => by rw [z]; exact f1) fun z e => f4 y a z e.symm
  refine ⟨m, hn.sameBut sb hne, fun h3 sb3 => ?_⟩
  exact ⟨_, H', I2.turned (t' := s2.toks) (fun b o hb e => (sb3.2 b hb).trans e) f0 f1 f3 f4 f5, q⟩
/-! ### {**a, **b, **c} -/
theorem merge_step {pins : List (Addr × Obj)} {σ : L2.St} {H : Hp} {s : Shared} {p d : Addr} {kvs acc : List (Key × V)} {Q : Unit → Shared → Prop} {E : Value → Shared → Prop} (I : L2.Inv X pins σ H s) (ed : H d = some (.dK kvs)) (ep : H p = some (.dK acc)) (hne : p ≠ d)
    (hz : acc.length + kvs.length ≤ sizeLine) (q : ∀ s', L2.Inv X pins σ (upd H p (.dK (mergeK acc kvs))) s' → Q () s') : wpAny (model X.prog X.w) X.A (mergeMapping p (.ref d) false) Q E s := by
  obtain ⟨z, hd, vs, rel, dd⟩ := dk_of I.hok ed
  obtain ⟨_, hp, vs0, r0, pp⟩ := dk_of I.hok ep
  have l1 := rel.length
  have l2 := r0.length
  refine BkD.mergeK_pairs (knd := mixKind X.prog X.w) hne hd pp dd (fun h' dd' hs => q _ ?_) (by omega)
  have he : ∃ q, h'.get? p = some q := let ⟨q, _, _, hq, _⟩ := dd'; ⟨q, hq⟩
  exact d_write I (by rw [ep]; exact True.intro) hs he (dk_new (Nat.le_trans (length_mergeK kvs acc) hz) hp (KV.merge rel r0) dd')
/-- into p, one behind another -/
def tStars (p : Addr) : List TE → TE
  | [] => fun _ H Q => Q (.ref p) H
  | t :: ts => fun σ H Q => t σ H fun x H1 => ∃ d kvs acc, x = .ref d ∧ H1 d = some (.dK kvs) ∧ H1 p = some (.dK acc) ∧ p ≠ d ∧ acc.length + kvs.length ≤ sizeLine ∧ tStars p ts σ (upd H1 p (.dK (mergeK acc kvs))) Q
theorem pe_star3 {m1 m2 m3 : Expr} {pos : Pos} {ta tb tc : TE} (h1 : PE X m1 ta) (h2 : PE X m2 tb) (h3 : PE X m3 tc) : PE X (.Dict [none, none, none] [m1, m2, m3] pos) (fun σ H Q => ∀ p, H p = none → tStars p [ta, tb, tc] σ (upd H p (.dK [])) Q) := by
  refine ⟨fun pins s σ H Q I h => ?_⟩
  have hq := h _ (I.hok.fresh (Nat.le_refl s.heap.objs.size))
  have I1 := I.laid (a := s.heap.objs.size) (o := .dK []) (h' := s.heap.push { cls := .type "dict", data := .dict #[] }) (t' := s.toks) (fun _ _ q => Heap.get?_push_of_some _ q) (Nat.le_refl _) (dk_empty s.heap I.big)
  rw [arm_eval_Dict]
  refine wpAny_bind (wpAny_standAt ?_)
  show wpAny _ _ (dictDisplay [(none, do let x ← eval m1 X.env; standAt pos; pure x), (none, do let x ← eval m2 X.env; standAt pos; pure x), (none, do let x ← eval m3 X.env; standAt pos; pure x)]) _ _ _
  unfold dictDisplay
  dsimp only
  refine wpAny_bind ?_
  rw [List.forIn_cons]
  refine wpAny_bind ?_
  dsimp only
  refine wpAny_bind ?_
  rw [if_pos List.isEmpty_nil]
  refine wpAny_pure ?_
  dsimp only
  refine wpAny_bind (wpAny_alloc ?_)
  refine wpAny_bind (wpAny_holding (wpAny_bind (thn (h1.run pins _ σ _ _ I1 hq) fun u s1 ⟨x, H1, I2, rx, d, kvs, acc, ex, ed, ep, hne, hz, q⟩ => wpAny_bind (wpAny_standAt (wpAny_pure ?_)))))
  subst ex
  obtain rfl : u = Value.ref d := rx
  refine wpAny_bind (wpAny_onRaise (wpAny_tryCatch (wpAny_onRaise (wpAny_holding (merge_step I2 ed ep hne hz fun s2 I3 => ?_)))))
  refine wpAny_pure ?_
  dsimp only
  clear ed ep hne hz
  rw [List.forIn_cons]
  refine wpAny_bind ?_
  dsimp only
  refine wpAny_bind ?_
  rw [if_pos List.isEmpty_nil]
  refine wpAny_pure ?_
  dsimp only
  refine wpAny_bind (wpAny_pure ?_)
  refine wpAny_bind (wpAny_holding (wpAny_bind (thn (h2.run pins _ σ _ _ I3 q) fun u s3 ⟨x, H3, I4, rx, d', kvs', acc', ex, ed, ep, hne, hz, q⟩ => wpAny_bind (wpAny_standAt (wpAny_pure ?_)))))
  subst ex
  obtain rfl : u = Value.ref d' := rx
  refine wpAny_bind (wpAny_onRaise (wpAny_tryCatch (wpAny_onRaise (wpAny_holding (merge_step I4 ed ep hne hz fun s4 I5 => ?_)))))
  refine wpAny_pure ?_
  dsimp only
  clear ed ep hne hz
  rw [List.forIn_cons]
  refine wpAny_bind ?_
  dsimp only
  refine wpAny_bind ?_
  rw [if_pos List.isEmpty_nil]
  refine wpAny_pure ?_
  dsimp only
  refine wpAny_bind (wpAny_pure ?_)
  refine wpAny_bind (wpAny_holding (wpAny_bind (thn (h3.run pins _ σ _ _ I5 q) fun u s5 ⟨x, H5, I6, rx, d'', kvs'', acc'', ex, ed, ep, hne, hz, q⟩ => wpAny_bind (wpAny_standAt (wpAny_pure ?_)))))
  subst ex
  obtain rfl : u = Value.ref d'' := rx
  refine wpAny_bind (wpAny_onRaise (wpAny_tryCatch (wpAny_onRaise (wpAny_holding (merge_step I6 ed ep hne hz fun s6 I7 => ?_)))))
  refine wpAny_pure ?_
  dsimp only
  rw [List.forIn_nil]
  refine wpAny_pure ?_
  dsimp only
  refine wpAny_bind ?_
  rw [if_pos List.isEmpty_nil]
  refine wpAny_pure ?_
  dsimp only
  exact wpAny_pure ⟨.ref s.heap.objs.size, _, I7, rfl, q⟩
end
/-! ### calls by keywords alone -/
/-- as Ok; called with all parameters named, in the order ks -/
structure OkK (P : Program) (w : World) (K : PySem.W.Frag) (mg : Str → Option Value) (base : Heap) (k : Nat) (f : Addr) (ps ks : List Str) (g : {α : Type} → List α → List α) (sp : Sp) : Prop where
  ex : ∃ fd, FnOk P w K mg base CX0 k f fd ps sp ∧ Binds K fd ps [] ∧ PySem.W.keepIn K (.ref f) = true ∧ PySem.W.fnIn K f = true ∧ KBn K fd ps 0 ks (fun _ ws => g ws) (fun _ zs => g zs)
theorem OkK.ok {P : Program} {w : World} {K : PySem.W.Frag} {mg : Str → Option Value} {base : Heap} {k : Nat} {f : Addr} {ps ks : List Str} {g : {α : Type} → List α → List α} {sp : Sp} (o : OkK P w K mg base k f ps ks g sp) : Ok P w K mg base k f ps sp :=
  let ⟨fd, a, b, c, d, _⟩ := o.ex
  ⟨fd, a, b, c, d⟩
def swap2 {α : Type} : List α → List α
  | [a, b] => [b, a]
  | l => l
theorem swap2_rel {vs : List V} {us : List Value} (h : Vals vs us) : Vals (swap2 vs) (swap2 us) := by
  cases h with
  | nil => exact .nil
  | cons h1 t => cases t with
    | nil => exact .cons h1 .nil
    | cons h2 t => cases t with
      | nil => exact .cons h2 (.cons h1 .nil)
      | cons h3 t => exact .cons h1 (.cons h2 (.cons h3 t))
theorem fd_okK {P : Program} {w : World} {K : PySem.W.Frag} {mg : Str → Option Value} {base : Heap} {x qual : Str} {params : Arguments} {body : List Stmt} {scope : Scope} {f : Addr} {N ps ks : List Str} {g : {α : Type} → List α → List α} {k : Nat} {sp : Sp}
    (F : ∃ fd, FunD K x qual params body scope [] [] f fd) (S : FnScope N ps scope) (len : ∀ vs H Q E, sp vs H Q E → vs.length = ps.length)
    (hb : ∀ (kV doc pm : Value) (an : Option Addr) (cdv ct : Value) (us : List Value), us.length = ps.length → bindArgs (PySem.W.fnOf x qual params body scope .none kV doc pm an cdv ct) ⟨us, []⟩ = pure (ps.zip us))
    (hrel : ∀ {vs : List V} {us : List Value}, Vals vs us → Vals (g vs) (g us))
    (hbk : ∀ (kV doc pm : Value) (an : Option Addr) (cdv ct : Value) (us : List Value), us.length = ks.length → bindArgs (PySem.W.fnOf x qual params body scope .none kV doc pm an cdv ct) ⟨[], ks.zip us⟩ = pure (ps.zip (g us)))
    (hbody : ∀ (cdv : Value) (A : Around) (outer : List Env) (s : Shared) (H : Hp) (vs : List V) (Q : VK) (E : XK), Room k (A.deeper (envOfC qual scope s.heap.objs.size f cdv)) → sp vs H Q E →
      ∃ t, PSs (cxOf CX0 P w K mg base N qual scope f cdv A outer s H E).nox body t ∧ t { nx := fun _ H' => Q .non H', rt := Q } (start N vs) H) : OkK P w K mg base (k + 1) f ps ks g sp := by
  obtain ⟨fd, F⟩ := F
  refine ⟨fd, F.ok S len fun cdv A outer s H vs Q E hr h => let ⟨t, a, b⟩ := hbody cdv A outer s H vs Q E hr h; ⟨t, a.nox, b⟩, F.bindsN hb, F.kp, fnIn_of F, ⟨fun s us ws X l1 l2 => ?_, fun _ r => hrel r⟩⟩
  obtain ⟨oc, od, dV, kV, doc, pm, an, cdv, ct, osl, rfl, lk, hcd, hD, hK⟩ := F.ex
  obtain rfl : us = [] := List.length_eq_zero_iff.mp l1
  rcases hD with ⟨_, rfl⟩ | ⟨e, _⟩
  · exact .of_eq (hbk kV doc pm an cdv ct ws l2)
  · exact absurd rfl e
/-- f(k = v, ..) -/
def tCallKw (m : Nat) (sp : Sp) (g : List V → List V) (tk : TA) : TE := fun σ H Q => tk σ H fun zs H2 => zs.length = m ∧ sp (g zs) H2 Q E0
theorem pe_callKw {X : Cx} {k : Nat} {f : Addr} {ps ks : List Str} {g : {α : Type} → List α → List α} {sp : Sp} {x : Str} {p pos : Pos} {kws : List Keyword} {tk : TA} (F : OkK X.prog X.w X.K X.mg X.base k f ps ks g sp) (hr : Room k X.A) (hg : Gl X x) (hm : X.mg x = some (.ref f))
    (hkw : PK X kws tk) (hall : (backToKw pos (keywordEach kws X.env)).all (·.1.isSome) = true := by rfl) (hks : (backToKw pos (keywordEach kws X.env)).filterMap (·.1) = ks := by rfl)
    (hdb : (x == ("__debug__" : Str)) = false := by decide) (hpl : ((backTo pos (starEach [] X.env)).any (·.1) || (backToKw pos (keywordEach kws X.env)).any (·.1.isNone)) = false := by rfl) :
    PE X (.Call (.Name x p) [] kws pos) (tCallKw ks.length sp g tk) := by
  obtain ⟨fd, F, _, hk, _, hb⟩ := F.ex
  refine ⟨fun pins s σ H Q I h => ?_⟩
  refine wpAny_Call_Name_kw (ld_glob I hg hm ?_ hdb)
  refine PySem.W.callWith_KW0 (h₀ := X.base) I.ok.mod.kin hk hall (thn (hkw.run pos pins s σ H _ I h) fun ws s2 ⟨zs, H2, I2, rz, l2, q2⟩ => ⟨I2.kIn, ?_⟩) hpl
  rw [hks]
  exact run_fnN (us := []) (vs := []) F hr hb pass0 I2 .nil rz rfl l2 q2
end Bk

set_option Elab.async false
set_option linter.all false
set_option maxRecDepth 100000
set_option maxHeartbeats 4000000
/-! Own layer 13: loops over whatever walks a row of values; a dict just made and walked. -/
namespace Bk
open PySem PySem.Spec PyProof.Rows L2
/-- J walks xs wherever G holds, and changes nothing -/
structure ItSeq (J : It) (xs : List V) (G : Hp → Prop) : Prop where
  stop : ∀ H, G H → J.stop xs.length H
  go : ∀ (i : Nat) H, G H → i < xs.length → J.go i H
  yld : ∀ (i : Nat) H x H', G H → J.yld i H x H' → H' = H ∧ xs[i]? = some x
theorem itseq_l {K : PySem.W.Frag} {a : Addr} {xs : List V} : ItSeq (Itl K a) xs (fun H => SqL K H a xs) :=
  ⟨fun H q => ⟨xs, q, Nat.le_refl _⟩, fun i H q h => ⟨xs, xs[i], q, by simp [h]⟩, fun i H x H' q ⟨e, y⟩ => ⟨e, y xs q⟩⟩
theorem itseq_t {K : PySem.W.Frag} {a : Addr} {xs : List V} : ItSeq (Itt K a) xs (fun H => SqT K H a xs) :=
  ⟨fun H q => ⟨xs, q, Nat.le_refl _⟩, fun i H q h => ⟨xs, xs[i], q, by simp [h]⟩, fun i H x H' q ⟨e, y⟩ => ⟨e, y xs q⟩⟩
theorem itseq_k {d : Addr} {o : Obj} {kvs : List (Key × V)} : ItSeq (Itk d o kvs) (kvs.map fun kv => kV kv.1) (fun H => H d = some (.frz o (.dK kvs))) :=
  ⟨fun H q => ⟨q, by rw [List.length_map]; exact Nat.le_refl _⟩, fun i H q h => ⟨q, by rwa [List.length_map] at h⟩, fun i H x H' q ⟨e, k, v, h, hx⟩ => ⟨e, by rw [List.getElem?_map, h, hx]; rfl⟩⟩
theorem itseq_d {d : Addr} {o : Obj} {kvs : List (Key × V)} : ItSeq (Itd d o kvs) (kvs.map fun kv => kv.2) (fun H => H d = some (.frz o (.dK kvs))) :=
  ⟨fun H q => ⟨q, by rw [List.length_map]; exact Nat.le_refl _⟩, fun i H q h => ⟨q, by rwa [List.length_map] at h⟩, fun i H x H' q ⟨e, k, h⟩ => ⟨e, by rw [List.getElem?_map, h]; rfl⟩⟩
/-- a for over it -/
theorem for_seq {J : It} {xs : List V} {G : Hp → Prop} (S : ItSeq J xs G) {g : TG} {tb : TS} {D : Ends} {σ : L2.St} {H : Hp} (Pv : Nat → L2.St → Hp → Prop) (h0 : Pv 0 σ H) (hl : ∀ i σ H, i ≤ xs.length → Pv i σ H → G H)
    (hs : ∀ i x σ H, xs[i]? = some x → Pv i σ H → g x σ H fun σ2 H2 => tb { D with nx := Pv (i + 1), ct := Pv (i + 1), bk := D.nx } σ2 H2) (hd : ∀ σ H, Pv xs.length σ H → D.nx σ H) :
    ∃ W : Nat → Nat → L2.St → Hp → Prop, (∃ m, W 0 m σ H) ∧ ∀ i m σ H, W i m σ H →
      (J.stop i H ∧ D.nx σ H) ∨ (J.go i H ∧ ∃ N : L2.St → Hp → Prop, (∀ σ' H', N σ' H' → ∃ m', m' < m ∧ W (i + 1) m' σ' H') ∧ ∀ x H', J.yld i H x H' → g x σ H' fun σ2 H2 => tb { D with nx := N, ct := N, bk := D.nx } σ2 H2) := by
  refine ⟨fun i m σ H => m = xs.length - i ∧ i ≤ xs.length ∧ Pv i σ H, ⟨xs.length, by simp, Nat.zero_le _, h0⟩, ?_⟩
  rintro i m σ H ⟨rfl, hi, p⟩
  have q := hl i σ H hi p
  by_cases hlt : i < xs.length
  · refine .inr ⟨S.go i H q hlt, Pv (i + 1), fun σ' H' p' => ⟨xs.length - (i + 1), by omega, rfl, hlt, p'⟩, fun x H' y => ?_⟩
    obtain ⟨e, yy⟩ := S.yld i H x H' q y
    subst e
    exact hs i x σ _ yy p
  · obtain rfl : i = xs.length := by omega
    exact .inl ⟨S.stop H q, hd σ H p⟩
/-- a list comprehension over it -/
theorem lc_seq {J : It} {xs : List V} {G : Hp → Prop} (S : ItSeq J xs G) {g : TG} {tt : TT} {te : TE} {vs : List Nat} {σ : L2.St} {H1 : Hp} {D : Addr} {Qd : Hp → Prop} (Pv : Nat → Hp → Prop) (h0 : Pv 0 (upd H1 D (.lst []))) (hl : ∀ i H, i ≤ xs.length → Pv i H → G H)
    (hs : ∀ i x H, xs[i]? = some x → Pv i H → g x (wipe σ vs) H fun σ2 H2 => wipe σ2 vs = wipe σ vs ∧ tt σ2 H2 fun b H3 =>
      if b = true then te σ2 H3 fun y H4 => ∃ acc, H4 D = some (.lst acc) ∧ acc.length < sizeLine ∧ Pv (i + 1) (upd H4 D (.lst (acc ++ [y]))) else Pv (i + 1) H3) (hd : ∀ H, Pv xs.length H → Qd H) :
    ∃ W : Nat → Nat → Hp → Prop, (∃ m, W 0 m (upd H1 D (.lst []))) ∧ ∀ i m H, W i m H →
      (J.stop i H ∧ Qd H) ∨ (J.go i H ∧ ∃ Nx : Hp → Prop, (∀ H', Nx H' → ∃ m', m' < m ∧ W (i + 1) m' H') ∧ ∀ x H', J.yld i H x H' → g x (wipe σ vs) H' fun σ2 H2 => wipe σ2 vs = wipe σ vs ∧ tt σ2 H2 fun b H3 =>
        if b = true then te σ2 H3 fun y H4 => ∃ acc, H4 D = some (.lst acc) ∧ acc.length < sizeLine ∧ Nx (upd H4 D (.lst (acc ++ [y]))) else Nx H3) := by
  refine ⟨fun i m H => m = xs.length - i ∧ i ≤ xs.length ∧ Pv i H, ⟨xs.length, by simp, Nat.zero_le _, h0⟩, ?_⟩
  rintro i m H ⟨rfl, hi, p⟩
  have q := hl i H hi p
  by_cases hlt : i < xs.length
  · refine .inr ⟨S.go i H q hlt, Pv (i + 1), fun H' p' => ⟨xs.length - (i + 1), by omega, rfl, hlt, p'⟩, fun x H' y => ?_⟩
    obtain ⟨e, yy⟩ := S.yld i H x H' q y
    subst e
    exact hs i x _ yy p
  · obtain rfl : i = xs.length := by omega
    exact .inl ⟨S.stop H q, hd H p⟩
/-- {k: v for x in xs for y in ys} -/
theorem dc2_seq {J : It} {xs : List V} {G : Hp → Prop} (S : ItSeq J xs G) {g g1 : TG} {wi1 : TI} {tk tv : TE} {vs us : List Nat} {σ : L2.St} {H1 : Hp} {D : Addr} {Qd : Hp → Prop} (Pv : Nat → Hp → Prop) (h0 : Pv 0 (upd H1 D (.dK []))) (hl : ∀ i H, i ≤ xs.length → Pv i H → G H)
    (hs : ∀ i x H, xs[i]? = some x → Pv i H → g x (wipe σ vs) H fun σ2 H3 => wipe σ2 vs = wipe σ vs ∧ wi1 σ2 H3 fun J1 H4 => ∃ (ys : List V) (G1 : Hp → Prop) (Pw : Nat → Hp → Prop), ItSeq J1 ys G1 ∧ Pw 0 H4 ∧ (∀ j H, j ≤ ys.length → Pw j H → G1 H) ∧
      (∀ j y H, ys[j]? = some y → Pw j H → g1 y (wipe σ2 us) H fun σ3 H5 => wipe σ3 us = wipe σ2 us ∧ tk σ3 H5 fun y H6 => tv σ3 H6 fun z H7 => ∃ kvs k, y = kV k ∧ H7 D = some (.dK kvs) ∧ kvs.length < sizeLine ∧ Pw (j + 1) (upd H7 D (.dK (putK kvs k z)))) ∧
      ∀ H, Pw ys.length H → Pv (i + 1) H) (hd : ∀ H, Pv xs.length H → Qd H)
    (mono : ∀ {σ H} {R R' : It → Hp → Prop}, wi1 σ H R → (∀ J H', R J H' → R' J H') → wi1 σ H R') (gmono : ∀ {x σ H} {Q Q' : L2.St → Hp → Prop}, g x σ H Q → (∀ σ' H', Q σ' H' → Q' σ' H') → g x σ H Q') :
    ∃ W : Nat → Nat → Hp → Prop, (∃ m, W 0 m (upd H1 D (.dK []))) ∧ ∀ i m H, W i m H →
      (J.stop i H ∧ Qd H) ∨ (J.go i H ∧ ∃ Nx : Hp → Prop, (∀ H', Nx H' → ∃ m', m' < m ∧ W (i + 1) m' H') ∧ ∀ x H', J.yld i H x H' → g x (wipe σ vs) H' fun σ2 H3 => wipe σ2 vs = wipe σ vs ∧
        wi1 σ2 H3 fun J1 H4 => ∃ V1 : Nat → Nat → Hp → Prop, (∃ m, V1 0 m H4) ∧ ∀ j k H, V1 j k H →
          (J1.stop j H ∧ Nx H) ∨ (J1.go j H ∧ ∃ Ny : Hp → Prop, (∀ H', Ny H' → ∃ k', k' < k ∧ V1 (j + 1) k' H') ∧ ∀ x H', J1.yld j H x H' → g1 x (wipe σ2 us) H' fun σ3 H5 => wipe σ3 us = wipe σ2 us ∧
            tk σ3 H5 fun y H6 => tv σ3 H6 fun z H7 => ∃ kvs k, y = kV k ∧ H7 D = some (.dK kvs) ∧ kvs.length < sizeLine ∧ Ny (upd H7 D (.dK (putK kvs k z))))) := by
  refine ⟨fun i m H => m = xs.length - i ∧ i ≤ xs.length ∧ Pv i H, ⟨xs.length, by simp, Nat.zero_le _, h0⟩, ?_⟩
  rintro i m H ⟨rfl, hi, p⟩
  have q := hl i H hi p
  by_cases hlt : i < xs.length
  · refine .inr ⟨S.go i H q hlt, Pv (i + 1), fun H' p' => ⟨xs.length - (i + 1), by omega, rfl, hlt, p'⟩, fun x H' y => ?_⟩
    obtain ⟨e, yy⟩ := S.yld i H x H' q y
    subst e
    refine gmono (hs i x _ yy p) fun σ2 H3 ⟨w, h⟩ => ⟨w, mono h fun J1 H4 ⟨ys, G1, Pw, S1, p0, pl, ps, pe⟩ => ?_⟩
    refine ⟨fun j k H => k = ys.length - j ∧ j ≤ ys.length ∧ Pw j H, ⟨ys.length, by simp, Nat.zero_le _, p0⟩, ?_⟩
    rintro j k H5 ⟨rfl, hj, pw⟩
    have q1 := pl j H5 hj pw
    by_cases hlt1 : j < ys.length
    · refine .inr ⟨S1.go j H5 q1 hlt1, Pw (j + 1), fun H' p' => ⟨ys.length - (j + 1), by omega, rfl, hlt1, p'⟩, fun x H' y => ?_⟩
      obtain ⟨e, yy⟩ := S1.yld j H5 x H' q1 y
      subst e
      exact ps j x _ yy pw
    · obtain rfl : j = ys.length := by omega
      exact .inl ⟨S1.stop H5 q1, pe H5 pw⟩
  · obtain rfl : i = xs.length := by omega
    exact .inl ⟨S.stop H q, hd H p⟩
theorem gName_mono {i : Nat} {x : V} {σ : L2.St} {H : Hp} {Q Q' : L2.St → Hp → Prop} (h : gName i x σ H Q) (k : ∀ σ' H', Q σ' H' → Q' σ' H') : gName i x σ H Q' := k _ _ h
section
variable {X : Cx}
/-- over a list or a tuple -/
def iLT (K : PySem.W.Frag) (tl : TE) : TI := fun σ H R => tl σ H fun x H1 => ∃ a xs, x = .ref a ∧ ((SqL K H1 a xs ∧ R (Itl K a) H1) ∨ (SqT K H1 a xs ∧ R (Itt K a) H1))
theorem pi_lt {tg l : Expr} {tl : TE} (hl : PE X l tl) : PI X tg l (iLT X.K tl) := by
  refine ⟨fun pins s σ H R I h => ?_⟩
  refine thn (hl.run pins s σ H _ I h) fun v s1 ⟨x, H1, I1, r1, a, xs, ex, q⟩ => ?_
  subst ex
  cases r1
  have fin : ∀ b ∈ [s1.heap.objs.size], FpOk X pins H1 b := fun b hb => by
    have e : b = s1.heap.objs.size := by simpa using hb
    subst e
    exact I1.fpOk (Nat.le_refl _) (I1.hok.fresh (Nat.le_refl _))
  rcases q with ⟨hq, q⟩ | ⟨hq, q⟩
  · obtain ⟨its, rv, p, hz⟩ := I1.list hq
    exact wpAny_pyIter_list p.isList ⟨s1.heap.objs.size, [s1.heap.objs.size], _, _, H1, rfl, I1.kept (t' := s1.toks) fun b o e => Heap.get?_push_of_some _ e, turn_list a _, ⟨_, Heap.get?_push_size _ rfl, rfl, rfl⟩, fin, q⟩
  · obtain ⟨its, rv, p, hz⟩ := I1.tuple hq
    exact wpAny_pyIter_tuple (show s1.heap.IsTuple a its.toArray from p) ⟨s1.heap.objs.size, [s1.heap.objs.size], _, _, H1, rfl, I1.kept (t' := s1.toks) fun b o e => Heap.get?_push_of_some _ e, turn_tuple a _, ⟨_, Heap.get?_push_size _ rfl, rfl, rfl⟩, fin, q⟩
/-- what was just made is locked for good -/
def tFrz (t : TE) : TE := fun σ H Q => t σ H fun x H1 => ∃ d u, x = .ref d ∧ H1 d = some u ∧ Mut (some u) ∧ ∀ od, Q x (upd H1 d (.frz od u))
theorem pe_frz {e : Expr} {t : TE} (h : PE X e t) : PE X e (tFrz t) := by
  refine ⟨fun pins s σ H Q I hw => ?_⟩
  refine thn (h.run pins s σ H _ I hw) fun v s1 ⟨x, H1, I1, r, d, u, ex, hd, mu, q⟩ => ?_
  obtain ⟨od, I2⟩ := I1.lock hd mu
  exact ⟨x, _, I2, r, q od⟩
/-- for k, v in d.items(): the target takes a new pair -/
theorem for_items {d : Addr} {o : Obj} {kvs : List (Key × V)} {g : TG} {tb : TS} {D : Ends} {σ : L2.St} {H : Hp} (Pv : Nat → L2.St → Hp → Prop) (h0 : Pv 0 σ H) (hl : ∀ i σ H, i ≤ kvs.length → Pv i σ H → H d = some (.frz o (.dK kvs)))
    (hs : ∀ i k v T σ H, kvs[i]? = some (k, v) → Pv i σ H → H T = none → g (.ref T) σ (upd H T (.tup [kV k, v])) fun σ2 H2 => tb { D with nx := Pv (i + 1), ct := Pv (i + 1), bk := D.nx } σ2 H2) (hd : ∀ σ H, Pv kvs.length σ H → D.nx σ H) :
    ∃ W : Nat → Nat → L2.St → Hp → Prop, (∃ m, W 0 m σ H) ∧ ∀ i m σ H, W i m σ H →
      ((Iti d o kvs).stop i H ∧ D.nx σ H) ∨ ((Iti d o kvs).go i H ∧ ∃ N : L2.St → Hp → Prop, (∀ σ' H', N σ' H' → ∃ m', m' < m ∧ W (i + 1) m' σ' H') ∧ ∀ x H', (Iti d o kvs).yld i H x H' → g x σ H' fun σ2 H2 => tb { D with nx := N, ct := N, bk := D.nx } σ2 H2) := by
  refine ⟨fun i m σ H => m = kvs.length - i ∧ i ≤ kvs.length ∧ Pv i σ H, ⟨kvs.length, by simp, Nat.zero_le _, h0⟩, ?_⟩
  rintro i m σ H ⟨rfl, hi, p⟩
  have q := hl i σ H hi p
  by_cases hlt : i < kvs.length
  · refine .inr ⟨⟨q, hlt⟩, Pv (i + 1), fun σ' H' p' => ⟨kvs.length - (i + 1), by omega, rfl, hlt, p'⟩, fun x H' y => ?_⟩
    obtain ⟨T, k, v, hk, rfl, hT, rfl⟩ := y
    exact hs i k v T σ H hk p hT
  · obtain rfl : i = kvs.length := by omega
    exact .inl ⟨⟨q, Nat.le_refl _⟩, hd σ H p⟩
end
/-! ### within a comprehension's block: the rules say K itself -/
section
variable {X : Cx} {K0 : PySem.W.Frag}
theorem opK {f : Value → Value → Sem Value} {r : PySem.W.Frag → R2} (h : OpR X f (r X.K)) (hK : X.K = K0 := by rfl) : OpR X f (r K0) := hK ▸ h
theorem callK {f : Value} {r : PySem.W.Frag → List V → Hp → VK → Prop} (h : CallR X f (r X.K)) (hK : X.K = K0 := by rfl) : CallR X f (r K0) := hK ▸ h
theorem ixK {r : PySem.W.Frag → R2} (h : IxR X (r X.K)) (hK : X.K = K0 := by rfl) : IxR X (r K0) := hK ▸ h
theorem slK {r : PySem.W.Frag → V → Option Int → Option Int → Hp → VK → Prop} (h : SlR X (r X.K)) (hK : X.K = K0 := by rfl) : SlR X (r K0) := hK ▸ h
theorem fldK {e : Expr} {ta : TE} {f : Str} {pos : Pos} (he : PE X e ta) (hb : attributeBase e f X.env (eval e X.env) = eval e X.env) (hK : X.K = K0 := by rfl) : PE X (.Attribute e f pos) (tFld K0 ta f) := hK ▸ pe_fld he hb
theorem piListK {tg l : Expr} {tl : TE} (hl : PE X l tl) (hK : X.K = K0 := by rfl) : PI X tg l (iList K0 tl) := hK ▸ pi_list hl
theorem piTupK {tg l : Expr} {tl : TE} (hl : PE X l tl) (hK : X.K = K0 := by rfl) : PI X tg l (iTup K0 tl) := hK ▸ pi_tup hl
theorem piLtK {tg l : Expr} {tl : TE} (hl : PE X l tl) (hK : X.K = K0 := by rfl) : PI X tg l (iLT K0 tl) := hK ▸ pi_lt hl
def rLenQ (K : PySem.W.Frag) : List V → Hp → VK → Prop := fun xs H Q => ∃ p ys, xs = [.ref p] ∧ (SqL K H p ys ∨ SqT K H p ys) ∧ Q (.int ys.length) H
theorem call_lenS : CallR X (.builtin "len") (rLenQ X.K) := call_len_seq
end
theorem sw_trueD {kx vx : Expr} {gs : List Comprehension} {scope : Scope} {pos py : Pos} {y : Str} {l : Nat} {env : Env} (hk : env.scope.kind = .function) (hy : env.scope.names.lookup y = some .local) (hl : (py.line == pos.line) = true)
    (ha : (scope.names.any fun (n, k) => n == y && (k == .local || k == .cell)) = false) : swapsWith (.DictComp kx vx gs scope pos) (some (.Name y py)) l env = pure true := by
  have ky : env.kindOf y = some .local := hy
  have hb : env.blockKind = .function := by unfold Env.blockKind; rw [hk]; rfl
  unfold swapsWith
  simp only [hb, ky, ha, Expr.pos, hl]
  rfl
end Bk

set_option Elab.async false
set_option linter.all false
set_option maxRecDepth 100000
set_option maxHeartbeats 0
namespace K81
open PySem PySem.Spec PyProof.Rows L2
def top (i : Nat) : Stmt := PySem.Challenge.pw_unitpairs_k81_whole_helping_rests.main.body.getD i (.Pass ⟨0, 0, 0, 0⟩)
abbrev s_is_integer : Stmt := top 18
abbrev s_is_between : Stmt := top 19
abbrev s_check_number : Stmt := top 20
abbrev s_gcd : Stmt := top 22
abbrev s_is_prime : Stmt := top 27
abbrev s_factors_of : Stmt := top 28
abbrev s_is_factor : Stmt := top 29
abbrev s_check_factors : Stmt := top 30
abbrev s_value_of : Stmt := top 31
abbrev s_number_with : Stmt := top 35
abbrev s_check_value : Stmt := top 36
abbrev s_is_share : Stmt := top 39
abbrev s_check_rule : Stmt := top 42
abbrev s_units : Stmt := top 44
abbrev s_powers : Stmt := top 45
abbrev s_added : Stmt := top 46
abbrev s_counts_of : Stmt := top 47
abbrev s_spares : Stmt := top 48
abbrev s_core_factors : Stmt := top 49
abbrev s_check_pair : Stmt := top 51
abbrev s_powers_of : Stmt := top 53
abbrev s_spread : Stmt := top 54
abbrev s_reach_of : Stmt := top 55
abbrev s_goes_by : Stmt := top 56
abbrev s_with_one : Stmt := top 58
abbrev s_helping_rests : Stmt := top 59
abbrev s_goes : Stmt := top 61
abbrev s_ulaw_mill : Stmt := top 63
abbrev s_ulaw_grain : Stmt := top 64
abbrev s_ulaw_measure : Stmt := top 65
abbrev s_ulaw_spec : Stmt := top 66
abbrev s_ulaw_made : Stmt := top 67
abbrev s_ulaw_split : Stmt := top 68
abbrev s_ulaw_great : Stmt := top 69
abbrev s_ulaw_shared : Stmt := top 70
abbrev s_ulaw_core : Stmt := top 71
abbrev s_ulaw_power : Stmt := top 72
abbrev s_ulaw_reach : Stmt := top 73
abbrev s_ulaw_units : Stmt := top 74
abbrev s_ulaw_counts : Stmt := top 75
abbrev s_ulaw_ranges : Stmt := top 76
abbrev s_ulaw_goes : Stmt := top 77
abbrev s_ulaw_prime : Stmt := top 78
abbrev s_ulaw_right : Stmt := top 79
abbrev s_law : Stmt := top 80
abbrev s_Rule_uuinit__ : Stmt := inClass (top 40) 0
abbrev s_Number_uuinit__ : Stmt := inClass (top 37) 0
abbrev s_Number_shared : Stmt := inClass (top 37) 6
abbrev s_Number_times : Stmt := inClass (top 37) 7
abbrev s_Core_uuinit__ : Stmt := inClass (top 50) 0
/-! facts by name -/
def fa0 : List He.Fa := [.glo "is_integer", .glo "is_between", .glo "check_number", .glo "gcd", .glo "is_prime", .glo "factors_of", .glo "is_factor", .glo "check_factors", .glo "value_of", .glo "number_with", .glo "check_value", .glo "is_share", .glo "check_rule", .glo "units", .glo "powers", .glo "added", .glo "counts_of", .glo "spares", .glo "core_factors", .glo "check_pair", .glo "powers_of", .glo "spread", .glo "reach_of", .glo "goes_by", .glo "with_one", .glo "helping_rests", .glo "goes", .glo "_law_mill", .glo "_law_grain", .glo "_law_measure"]
def fa1 : List He.Fa := [.glo "_law_spec", .glo "_law_made", .glo "_law_split", .glo "_law_great", .glo "_law_shared", .glo "_law_core", .glo "_law_power", .glo "_law_reach", .glo "_law_units", .glo "_law_counts", .glo "_law_ranges", .glo "_law_goes", .glo "_law_prime", .glo "_law_right", .glo "law", .glo "Rule", .cls "Rule", .noat "Rule" "parts", .noat "Rule" "first", .noat "Rule" "second", .noat "Rule" "moduli", .mkr "Rule", .glo "Number", .cls "Number", .noat "Number" "factors", .noat "Number" "value", .mkr "Number", .meth "Number" "shared", .meth "Number" "times", .glo "Core"]
def fa2 : List He.Fa := [.cls "Core", .noat "Core" "rule", .noat "Core" "modulus", .noat "Core" "factors", .noat "Core" "spans", .mkr "Core", .free "isinstance", .free "int", .free "bool", .free "len", .free "range", .free "tuple", .free "sorted", .free "enumerate", .free "abs", .free "min", .free "max", .free "divmod", .free "repr", .free "all", .free "any", .free "dict", .free "list", .int "MOST_PARTS" (12), .int "MOST_SHARE" (12), .int "MOST_PRIME" (1000000), .int "MOST_PRIMES" (12), .int "MOST_EXPONENT" (1000000000000000000000000000000), .int "MOST_VALUE" (1000000000000000000000000000000), .int "MOST_SMALL" (1000000)]
def fa3 : List He.Fa := [.int "LONG_EXPONENT" (100)]
def fa : List He.Fa := fa0 ++ fa1 ++ fa2 ++ fa3
def d_is_integer : He.DefD := ⟨("is_integer", none), "is_integer", "is_integer", defArgs s_is_integer, defBody s_is_integer, defScope s_is_integer, [], []⟩
def d_is_between : He.DefD := ⟨("is_between", none), "is_between", "is_between", defArgs s_is_between, defBody s_is_between, defScope s_is_between, [], []⟩
def d_check_number : He.DefD := ⟨("check_number", none), "check_number", "check_number", defArgs s_check_number, defBody s_check_number, defScope s_check_number, [], []⟩
def d_gcd : He.DefD := ⟨("gcd", none), "gcd", "gcd", defArgs s_gcd, defBody s_gcd, defScope s_gcd, [], []⟩
def d_is_prime : He.DefD := ⟨("is_prime", none), "is_prime", "is_prime", defArgs s_is_prime, defBody s_is_prime, defScope s_is_prime, [], []⟩
def d_factors_of : He.DefD := ⟨("factors_of", none), "factors_of", "factors_of", defArgs s_factors_of, defBody s_factors_of, defScope s_factors_of, [], []⟩
def d_is_factor : He.DefD := ⟨("is_factor", none), "is_factor", "is_factor", defArgs s_is_factor, defBody s_is_factor, defScope s_is_factor, [], []⟩
def d_check_factors : He.DefD := ⟨("check_factors", none), "check_factors", "check_factors", defArgs s_check_factors, defBody s_check_factors, defScope s_check_factors, [], []⟩
def d_value_of : He.DefD := ⟨("value_of", none), "value_of", "value_of", defArgs s_value_of, defBody s_value_of, defScope s_value_of, [], []⟩
def d_number_with : He.DefD := ⟨("number_with", none), "number_with", "number_with", defArgs s_number_with, defBody s_number_with, defScope s_number_with, [], []⟩
def d_check_value : He.DefD := ⟨("check_value", none), "check_value", "check_value", defArgs s_check_value, defBody s_check_value, defScope s_check_value, [], []⟩
def d_is_share : He.DefD := ⟨("is_share", none), "is_share", "is_share", defArgs s_is_share, defBody s_is_share, defScope s_is_share, [], []⟩
def d_check_rule : He.DefD := ⟨("check_rule", none), "check_rule", "check_rule", defArgs s_check_rule, defBody s_check_rule, defScope s_check_rule, [], []⟩
def d_units : He.DefD := ⟨("units", none), "units", "units", defArgs s_units, defBody s_units, defScope s_units, [], []⟩
def d_powers : He.DefD := ⟨("powers", none), "powers", "powers", defArgs s_powers, defBody s_powers, defScope s_powers, [], []⟩
def d_added : He.DefD := ⟨("added", none), "added", "added", defArgs s_added, defBody s_added, defScope s_added, [], []⟩
def d_counts_of : He.DefD := ⟨("counts_of", none), "counts_of", "counts_of", defArgs s_counts_of, defBody s_counts_of, defScope s_counts_of, [], []⟩
def d_spares : He.DefD := ⟨("spares", none), "spares", "spares", defArgs s_spares, defBody s_spares, defScope s_spares, [], []⟩
def d_core_factors : He.DefD := ⟨("core_factors", none), "core_factors", "core_factors", defArgs s_core_factors, defBody s_core_factors, defScope s_core_factors, [], []⟩
def d_check_pair : He.DefD := ⟨("check_pair", none), "check_pair", "check_pair", defArgs s_check_pair, defBody s_check_pair, defScope s_check_pair, [], []⟩
def d_powers_of : He.DefD := ⟨("powers_of", none), "powers_of", "powers_of", defArgs s_powers_of, defBody s_powers_of, defScope s_powers_of, [], []⟩
def d_spread : He.DefD := ⟨("spread", none), "spread", "spread", defArgs s_spread, defBody s_spread, defScope s_spread, [], []⟩
def d_reach_of : He.DefD := ⟨("reach_of", none), "reach_of", "reach_of", defArgs s_reach_of, defBody s_reach_of, defScope s_reach_of, [], []⟩
def d_goes_by : He.DefD := ⟨("goes_by", none), "goes_by", "goes_by", defArgs s_goes_by, defBody s_goes_by, defScope s_goes_by, [], []⟩
def d_with_one : He.DefD := ⟨("with_one", none), "with_one", "with_one", defArgs s_with_one, defBody s_with_one, defScope s_with_one, [], []⟩
def d_helping_rests : He.DefD := ⟨("helping_rests", none), "helping_rests", "helping_rests", defArgs s_helping_rests, defBody s_helping_rests, defScope s_helping_rests, [], []⟩
def d_goes : He.DefD := ⟨("goes", none), "goes", "goes", defArgs s_goes, defBody s_goes, defScope s_goes, [], []⟩
def d_ulaw_mill : He.DefD := ⟨("_law_mill", none), "_law_mill", "_law_mill", defArgs s_ulaw_mill, defBody s_ulaw_mill, defScope s_ulaw_mill, [], []⟩
def d_ulaw_grain : He.DefD := ⟨("_law_grain", none), "_law_grain", "_law_grain", defArgs s_ulaw_grain, defBody s_ulaw_grain, defScope s_ulaw_grain, [], []⟩
def d_ulaw_measure : He.DefD := ⟨("_law_measure", none), "_law_measure", "_law_measure", defArgs s_ulaw_measure, defBody s_ulaw_measure, defScope s_ulaw_measure, [], []⟩
def d_ulaw_spec : He.DefD := ⟨("_law_spec", none), "_law_spec", "_law_spec", defArgs s_ulaw_spec, defBody s_ulaw_spec, defScope s_ulaw_spec, [], []⟩
def d_ulaw_made : He.DefD := ⟨("_law_made", none), "_law_made", "_law_made", defArgs s_ulaw_made, defBody s_ulaw_made, defScope s_ulaw_made, [], []⟩
def d_ulaw_split : He.DefD := ⟨("_law_split", none), "_law_split", "_law_split", defArgs s_ulaw_split, defBody s_ulaw_split, defScope s_ulaw_split, [], []⟩
def d_ulaw_great : He.DefD := ⟨("_law_great", none), "_law_great", "_law_great", defArgs s_ulaw_great, defBody s_ulaw_great, defScope s_ulaw_great, [], []⟩
def d_ulaw_shared : He.DefD := ⟨("_law_shared", none), "_law_shared", "_law_shared", defArgs s_ulaw_shared, defBody s_ulaw_shared, defScope s_ulaw_shared, [], []⟩
def d_ulaw_core : He.DefD := ⟨("_law_core", none), "_law_core", "_law_core", defArgs s_ulaw_core, defBody s_ulaw_core, defScope s_ulaw_core, [], []⟩
def d_ulaw_power : He.DefD := ⟨("_law_power", none), "_law_power", "_law_power", defArgs s_ulaw_power, defBody s_ulaw_power, defScope s_ulaw_power, [], []⟩
def d_ulaw_reach : He.DefD := ⟨("_law_reach", none), "_law_reach", "_law_reach", defArgs s_ulaw_reach, defBody s_ulaw_reach, defScope s_ulaw_reach, [], []⟩
def d_ulaw_units : He.DefD := ⟨("_law_units", none), "_law_units", "_law_units", defArgs s_ulaw_units, defBody s_ulaw_units, defScope s_ulaw_units, [], []⟩
def d_ulaw_counts : He.DefD := ⟨("_law_counts", none), "_law_counts", "_law_counts", defArgs s_ulaw_counts, defBody s_ulaw_counts, defScope s_ulaw_counts, [], []⟩
def d_ulaw_ranges : He.DefD := ⟨("_law_ranges", none), "_law_ranges", "_law_ranges", defArgs s_ulaw_ranges, defBody s_ulaw_ranges, defScope s_ulaw_ranges, [], []⟩
def d_ulaw_goes : He.DefD := ⟨("_law_goes", none), "_law_goes", "_law_goes", defArgs s_ulaw_goes, defBody s_ulaw_goes, defScope s_ulaw_goes, [], []⟩
def d_ulaw_prime : He.DefD := ⟨("_law_prime", none), "_law_prime", "_law_prime", defArgs s_ulaw_prime, defBody s_ulaw_prime, defScope s_ulaw_prime, [], []⟩
def d_ulaw_right : He.DefD := ⟨("_law_right", none), "_law_right", "_law_right", defArgs s_ulaw_right, defBody s_ulaw_right, defScope s_ulaw_right, [], []⟩
def d_law : He.DefD := ⟨("law", none), "law", "law", defArgs s_law, defBody s_law, defScope s_law, [], []⟩
def d_Rule_uuinit__ : He.DefD := ⟨("Rule", some "__init__"), "__init__", "Rule.__init__", defArgs s_Rule_uuinit__, defBody s_Rule_uuinit__, defScope s_Rule_uuinit__, [.int (1), .int (1)], []⟩
def d_Number_uuinit__ : He.DefD := ⟨("Number", some "__init__"), "__init__", "Number.__init__", defArgs s_Number_uuinit__, defBody s_Number_uuinit__, defScope s_Number_uuinit__, [.adr (He.dflAt ("Number", some "__init__") 0)], []⟩
def d_Number_shared : He.DefD := ⟨("Number", some "shared"), "shared", "Number.shared", defArgs s_Number_shared, defBody s_Number_shared, defScope s_Number_shared, [], []⟩
def d_Number_times : He.DefD := ⟨("Number", some "times"), "times", "Number.times", defArgs s_Number_times, defBody s_Number_times, defScope s_Number_times, [], []⟩
def d_Core_uuinit__ : He.DefD := ⟨("Core", some "__init__"), "__init__", "Core.__init__", defArgs s_Core_uuinit__, defBody s_Core_uuinit__, defScope s_Core_uuinit__, [], []⟩
def fn0 : List He.DefD := [d_is_integer, d_is_between, d_check_number, d_gcd, d_is_prime, d_factors_of, d_is_factor, d_check_factors, d_value_of, d_number_with, d_check_value, d_is_share, d_check_rule, d_units, d_powers, d_added, d_counts_of, d_spares, d_core_factors, d_check_pair, d_powers_of, d_spread, d_reach_of, d_goes_by, d_with_one, d_helping_rests, d_goes, d_ulaw_mill, d_ulaw_grain, d_ulaw_measure]
def fn1 : List He.DefD := [d_ulaw_spec, d_ulaw_made, d_ulaw_split, d_ulaw_great, d_ulaw_shared, d_ulaw_core, d_ulaw_power, d_ulaw_reach, d_ulaw_units, d_ulaw_counts, d_ulaw_ranges, d_ulaw_goes, d_ulaw_prime, d_ulaw_right, d_law, d_Rule_uuinit__, d_Number_uuinit__, d_Number_shared, d_Number_times, d_Core_uuinit__]
def fn : List He.DefD := fn0 ++ fn1
/-! a property's getter: found by the class's name for it -/
structure PropD where
  cls : Str
  attr : Str
  qual : Str
  st : Stmt
def getr (K : PySem.W.Frag) (C m : Str) : Addr := match PySem.W.recIn K (He.ma K (He.ga K C) m) "property" with
  | some (.ref g :: _) => g
  | _ => 0
def fnA (K : PySem.W.Frag) (a : Addr) : He.FnW := match K.lookup a with
  | some ⟨_, _, .func fd, _⟩ => some (fd.name, fd.qualname, fd.params, fd.body, fd.scope, fd.globals, fd.closure, fd.builtins)
  | _ => none
def PropD.val (d : PropD) : He.FnW := some (d.attr, d.qual, defArgs d.st, .stmts (defBody d.st), defScope d.st, mainGlobals, [], builtinsNs)
def propRec (K : PySem.W.Frag) (C m : Str) : Bool := match PySem.W.recIn K (He.ma K (He.ga K C) m) "property" with
  | some (.ref g :: _) => decide (g = getr K C m)
  | _ => false
def PropD.ok (K : PySem.W.Frag) (d : PropD) : Bool := He.eqO (PySem.W.findIn K (.ref (He.ga K d.cls)) d.attr) (some (some (.ref (He.ma K (He.ga K d.cls) d.attr)))) &&
  (He.eqO (PySem.W.specialIn K (.ref (He.ma K (He.ga K d.cls) d.attr)) "__get__") (some (some (.builtin "property.__get__"))) && (decide (PySem.W.takesIn K (.ref (He.ma K (He.ga K d.cls) d.attr)) = some true) &&
  (propRec K d.cls d.attr && (match K.lookup (getr K d.cls d.attr) with
    | some ⟨_, _, .func fd, _⟩ => PySem.W.codeIn K fd.code d.qual && decide (fd.defaults = .none)
    | _ => false))))
structure PropF (K : PySem.W.Frag) (C m qual : Str) (st : Stmt) : Prop where
  p : L2.PropOf K (He.ga K C) m (He.ma K (He.ga K C) m) (getr K C m)
  f : ∃ oc od osl kV doc pm an cdv ct, K.lookup (getr K C m) = some ⟨oc, od, .func (PySem.W.fnOf m qual (defArgs st) (defBody st) (defScope st) .none kV doc pm an cdv ct), osl⟩ ∧ PySem.W.codeIn K cdv qual = true
theorem propRec_ok {K : PySem.W.Frag} {C m : Str} (h : propRec K C m = true) : ∃ rest, PySem.W.recIn K (He.ma K (He.ga K C) m) "property" = some (.ref (getr K C m) :: rest) := by
  unfold propRec at h
  cases q : PySem.W.recIn K (He.ma K (He.ga K C) m) "property" with
  | none => rw [q] at h; cases h
  | some l =>
    rw [q] at h
    cases l with
    | nil => cases h
    | cons a r =>
      cases a with
      | ref g => exact ⟨r, by rw [show g = getr K C m from of_decide_eq_true h]⟩
      | _ => cases h
theorem PropD.prop {K : PySem.W.Frag} {d : PropD} (e : fnA K (getr K d.cls d.attr) = d.val) (c : d.ok K = true) : PropF K d.cls d.attr d.qual d.st := by
  obtain ⟨c1, c⟩ := He.ba c
  obtain ⟨c2, c⟩ := He.ba c
  obtain ⟨c3, c⟩ := He.ba c
  obtain ⟨c4, c5⟩ := He.ba c
  refine ⟨⟨He.eqO_ok c1, He.eqO_ok c2, of_decide_eq_true c3, propRec_ok c4⟩, ?_⟩
  unfold fnA at e
  cases q : K.lookup (getr K d.cls d.attr) with
  | none => rw [q] at c5; cases c5
  | some o =>
    obtain ⟨oc, od, dt, osl⟩ := o
    rw [q] at c5 e
    cases dt with
    | func fd =>
      obtain ⟨n1, n2, n3, n4, n5, n6, n7, n8, n9, n10, n11, n12, n13, n14, n15⟩ := fd
      have e2 : (some (n1, n2, n3, n4, n5, n6, n7, n15) : He.FnW) = some (d.attr, d.qual, defArgs d.st, .stmts (defBody d.st), defScope d.st, mainGlobals, [], builtinsNs) := e
      simp only [Option.some.injEq, Prod.mk.injEq] at e2
      obtain ⟨h1, h2, h3, h4, h5, h6, h7, h8⟩ := e2
      subst h1 h2 h3 h4 h5 h6 h7 h8
      obtain ⟨k1, k2⟩ := He.ba c5
      have k3 : n8 = Value.none := of_decide_eq_true k2
      subst k3
      exact ⟨oc, od, osl, n9, n10, n11, n12, n13, n14, rfl, k1⟩
    | _ => cases c5
def nms0 : List Str := ["is_integer", "is_between", "check_number", "gcd", "is_prime", "factors_of", "is_factor", "check_factors", "value_of", "number_with", "check_value", "is_share", "check_rule", "units", "powers", "added", "counts_of", "spares", "core_factors", "check_pair", "powers_of", "spread", "reach_of", "goes_by", "with_one", "helping_rests", "goes", "_law_mill", "_law_grain", "_law_measure"]
def nms1 : List Str := ["_law_spec", "_law_made", "_law_split", "_law_great", "_law_shared", "_law_core", "_law_power", "_law_reach", "_law_units", "_law_counts", "_law_ranges", "_law_goes", "_law_prime", "_law_right", "law", "Rule", "Number", "Core"]
def nms : List Str := nms0 ++ nms1
def pr : List PropD := []
def e_isi_Rule (K : PySem.W.Frag) : Bool := He.eqO (PySem.W.findIn K (.ref (He.ga K "Rule")) "__class__") (some (some (.builtin "object.__class__"))) && (He.eqO (PySem.W.specialIn K (.builtin "object.__class__") "__get__") (some (some (.builtin "getset_descriptor.__get__"))) && (decide (PySem.W.takesIn K (.builtin "object.__class__") = some true) && decide (PySem.W.mroIn K (He.ga K "Rule") (.type "object") = some true)))
def e_isi_Number (K : PySem.W.Frag) : Bool := He.eqO (PySem.W.findIn K (.ref (He.ga K "Number")) "__class__") (some (some (.builtin "object.__class__"))) && (He.eqO (PySem.W.specialIn K (.builtin "object.__class__") "__get__") (some (some (.builtin "getset_descriptor.__get__"))) && (decide (PySem.W.takesIn K (.builtin "object.__class__") = some true) && decide (PySem.W.mroIn K (He.ga K "Number") (.type "object") = some true)))
def e_tup0_Number (K : PySem.W.Frag) : Bool := match K.lookup (He.dflAt ("Number", some "__init__") 0 K) with
  | some ⟨.type "tuple", none, .seq its _, _⟩ => decide (its = #[])
  | _ => false
def ex : List (PySem.W.Frag → Bool) := [e_isi_Rule, e_isi_Number, e_tup0_Number]
abbrev AlP : Type := He.AlD × Bool × List He.FnW
def obsP (K : PySem.W.Frag) : AlP := (He.obsD fa fn K, (pr.all fun d => d.ok K) && ex.all fun f => f K, pr.map fun d => fnA K (getr K d.cls d.attr))
def valP : AlP := (He.valD fn, true, pr.map PropD.val)
def SaysP (K : PySem.W.Frag) : Prop := obsP K = valP
def dflR (g : Addr → Option Obj) (v : Value) : List Addr := (He.refV v).flatMap fun t => t :: (match g t with
  | some ⟨_, _, .seq its _, _⟩ => its.toList.flatMap He.refV
  | _ => [])
def fnR (g : Addr → Option Obj) (a : Addr) : List Addr := match g a with
  | some ⟨_, _, .func fd, _⟩ => a :: (He.refV fd.code ++ dflR g fd.defaults)
  | _ => [a]
def memR (g : Addr → Option Obj) (a : Addr) : List Addr := match g a with
  | some ⟨_, _, .func fd, _⟩ => a :: (He.refV fd.code ++ dflR g fd.defaults)
  | some ⟨_, _, .fields vs, _⟩ => a :: (vs.toList.flatMap He.refV).flatMap (fnR g)
  | _ => [a]
def clsR (g : Addr → Option Obj) (a : Addr) : List Addr := match g a with
  | some ⟨_, _, .func fd, _⟩ => a :: (He.refV fd.code ++ dflR g fd.defaults)
  | some ⟨_, _, .cls cd, _⟩ => a :: cd.ns :: (match g cd.ns with
    | some ⟨_, _, .dict es _, _⟩ => (es.toList.flatMap fun e => He.refV e.val).flatMap (memR g)
    | _ => [])
  | _ => [a]
def asP (g : Addr → Option Obj) : List Addr := mainGlobals :: nms.flatMap fun x => match PySem.W.nsIn (He.frG g [mainGlobals]) mainGlobals x with
  | some (some (.ref a)) => clsR g a
  | _ => []
def obsPG (_n : Nat) (g : Addr → Option Obj) : AlP := obsP (He.frG g (asP g))
def hookP (n : Nat) : PySem.W.Hook where
  α := AlP
  obs := fun s => obsPG n s.heap.get?
  val := fun _ => valP
  says := fun _ h => ∃ K : PySem.W.Frag, K.In h ∧ SaysP K
  of := fun _ _ e => ⟨_, He.frG_in, e⟩
  keeps := fun _ _ _ ⟨K, hK, c⟩ k => ⟨K, PySem.W.Frag.In.keeps hK k, c⟩
theorem obsPG_eq {n : Nat} {g : Addr → Option Obj} {s : Shared} (h : ∀ a, g a = s.heap.get? a) : obsPG n g = (hookP n).obs s := by
  have e : g = s.heap.get? := funext h
  rw [e] <;> rfl
section
variable {K : PySem.W.Frag}
theorem SaysP.d (c : SaysP K) : He.SaysD fa fn K := congrArg (fun z : AlP => z.1) c
theorem SaysP.fact (c : SaysP K) (i : Nat) {f : He.Fa} (h : fa[i]? = some f := by rfl) : f.ok K = true := c.d.fact i h
theorem SaysP.def_ (c : SaysP K) (i : Nat) {d : He.DefD} (h : fn[i]? = some d := by rfl) : ∃ fd, FunD K d.name d.qual d.params d.body d.scope (d.dvs K) (d.kws K) (He.fAd K d.at_) fd := c.d.def_ i h
theorem SaysP.prop (c : SaysP K) (i : Nat) {d : PropD} (h : pr[i]? = some d := by rfl) : PropF K d.cls d.attr d.qual d.st := by
  have c0 : ((pr.all fun d => d.ok K) && ex.all fun f => f K) = true := congrArg (fun z : AlP => z.2.1) c
  have c1 : pr.all (fun d => d.ok K) = true := (He.ba c0).1
  have e : pr.map (fun d => fnA K (getr K d.cls d.attr)) = pr.map PropD.val := congrArg (fun z : AlP => z.2.2) c
  have e2 : (pr.map fun d => fnA K (getr K d.cls d.attr))[i]? = (pr.map PropD.val)[i]? := by rw [e]
  rw [List.getElem?_map, List.getElem?_map, h] at e2
  exact PropD.prop (Option.some.inj e2) (List.all_eq_true.mp c1 d (List.mem_of_getElem? h))
theorem SaysP.more (c : SaysP K) (i : Nat) {f : PySem.W.Frag → Bool} (h : ex[i]? = some f := by rfl) : f K = true := by
  have c0 : ((pr.all fun d => d.ok K) && ex.all fun f => f K) = true := congrArg (fun z : AlP => z.2.1) c
  exact List.all_eq_true.mp (He.ba c0).2 f (List.mem_of_getElem? h)
end
/-- what the walk asks of the top -/
structure Txt (K : PySem.W.Frag) (mg : Str → Option Value) : Prop where
  says : SaysP K
  glo : ∀ x : Str, (He.Fa.glo x).ok K = true → mg x = some (.ref (He.ga K x))
  free : ∀ x : Str, (He.Fa.free x).ok K = true → mg x = none
  int : ∀ (x : Str) (i : Int), (He.Fa.int x i).ok K = true → ∃ t, mg x = some (.int i t)
  str : ∀ x z : Str, (He.Fa.str x z).ok K = true → ∃ t, mg x = some (.str z t)
theorem Txt.of {K : PySem.W.Frag} {h : Heap} {mg : Str → Option Value} (X : K.In h) (G : h.Ns mainGlobals mg) (c : SaysP K) : Txt K mg :=
  ⟨c, fun _ q => He.glo_ok X G q, fun _ q => He.free_ok X G q, fun _ _ q => He.int_ok X G q, fun _ _ q => He.str_ok X G q⟩
section
variable {K : PySem.W.Frag} {mg : Str → Option Value}
theorem Txt.g_is_integer (T : Txt K mg) : mg "is_integer" = some (.ref (He.ga K "is_integer")) := T.glo _ (T.says.fact (f := .glo "is_integer") 0)
theorem Txt.g_is_between (T : Txt K mg) : mg "is_between" = some (.ref (He.ga K "is_between")) := T.glo _ (T.says.fact (f := .glo "is_between") 1)
theorem Txt.g_check_number (T : Txt K mg) : mg "check_number" = some (.ref (He.ga K "check_number")) := T.glo _ (T.says.fact (f := .glo "check_number") 2)
theorem Txt.g_gcd (T : Txt K mg) : mg "gcd" = some (.ref (He.ga K "gcd")) := T.glo _ (T.says.fact (f := .glo "gcd") 3)
theorem Txt.g_is_prime (T : Txt K mg) : mg "is_prime" = some (.ref (He.ga K "is_prime")) := T.glo _ (T.says.fact (f := .glo "is_prime") 4)
theorem Txt.g_factors_of (T : Txt K mg) : mg "factors_of" = some (.ref (He.ga K "factors_of")) := T.glo _ (T.says.fact (f := .glo "factors_of") 5)
theorem Txt.g_is_factor (T : Txt K mg) : mg "is_factor" = some (.ref (He.ga K "is_factor")) := T.glo _ (T.says.fact (f := .glo "is_factor") 6)
theorem Txt.g_check_factors (T : Txt K mg) : mg "check_factors" = some (.ref (He.ga K "check_factors")) := T.glo _ (T.says.fact (f := .glo "check_factors") 7)
theorem Txt.g_value_of (T : Txt K mg) : mg "value_of" = some (.ref (He.ga K "value_of")) := T.glo _ (T.says.fact (f := .glo "value_of") 8)
theorem Txt.g_number_with (T : Txt K mg) : mg "number_with" = some (.ref (He.ga K "number_with")) := T.glo _ (T.says.fact (f := .glo "number_with") 9)
theorem Txt.g_check_value (T : Txt K mg) : mg "check_value" = some (.ref (He.ga K "check_value")) := T.glo _ (T.says.fact (f := .glo "check_value") 10)
theorem Txt.g_is_share (T : Txt K mg) : mg "is_share" = some (.ref (He.ga K "is_share")) := T.glo _ (T.says.fact (f := .glo "is_share") 11)
theorem Txt.g_check_rule (T : Txt K mg) : mg "check_rule" = some (.ref (He.ga K "check_rule")) := T.glo _ (T.says.fact (f := .glo "check_rule") 12)
theorem Txt.g_units (T : Txt K mg) : mg "units" = some (.ref (He.ga K "units")) := T.glo _ (T.says.fact (f := .glo "units") 13)
theorem Txt.g_powers (T : Txt K mg) : mg "powers" = some (.ref (He.ga K "powers")) := T.glo _ (T.says.fact (f := .glo "powers") 14)
theorem Txt.g_added (T : Txt K mg) : mg "added" = some (.ref (He.ga K "added")) := T.glo _ (T.says.fact (f := .glo "added") 15)
theorem Txt.g_counts_of (T : Txt K mg) : mg "counts_of" = some (.ref (He.ga K "counts_of")) := T.glo _ (T.says.fact (f := .glo "counts_of") 16)
theorem Txt.g_spares (T : Txt K mg) : mg "spares" = some (.ref (He.ga K "spares")) := T.glo _ (T.says.fact (f := .glo "spares") 17)
theorem Txt.g_core_factors (T : Txt K mg) : mg "core_factors" = some (.ref (He.ga K "core_factors")) := T.glo _ (T.says.fact (f := .glo "core_factors") 18)
theorem Txt.g_check_pair (T : Txt K mg) : mg "check_pair" = some (.ref (He.ga K "check_pair")) := T.glo _ (T.says.fact (f := .glo "check_pair") 19)
theorem Txt.g_powers_of (T : Txt K mg) : mg "powers_of" = some (.ref (He.ga K "powers_of")) := T.glo _ (T.says.fact (f := .glo "powers_of") 20)
theorem Txt.g_spread (T : Txt K mg) : mg "spread" = some (.ref (He.ga K "spread")) := T.glo _ (T.says.fact (f := .glo "spread") 21)
theorem Txt.g_reach_of (T : Txt K mg) : mg "reach_of" = some (.ref (He.ga K "reach_of")) := T.glo _ (T.says.fact (f := .glo "reach_of") 22)
theorem Txt.g_goes_by (T : Txt K mg) : mg "goes_by" = some (.ref (He.ga K "goes_by")) := T.glo _ (T.says.fact (f := .glo "goes_by") 23)
theorem Txt.g_with_one (T : Txt K mg) : mg "with_one" = some (.ref (He.ga K "with_one")) := T.glo _ (T.says.fact (f := .glo "with_one") 24)
theorem Txt.g_helping_rests (T : Txt K mg) : mg "helping_rests" = some (.ref (He.ga K "helping_rests")) := T.glo _ (T.says.fact (f := .glo "helping_rests") 25)
theorem Txt.g_goes (T : Txt K mg) : mg "goes" = some (.ref (He.ga K "goes")) := T.glo _ (T.says.fact (f := .glo "goes") 26)
theorem Txt.g_ulaw_mill (T : Txt K mg) : mg "_law_mill" = some (.ref (He.ga K "_law_mill")) := T.glo _ (T.says.fact (f := .glo "_law_mill") 27)
theorem Txt.g_ulaw_grain (T : Txt K mg) : mg "_law_grain" = some (.ref (He.ga K "_law_grain")) := T.glo _ (T.says.fact (f := .glo "_law_grain") 28)
theorem Txt.g_ulaw_measure (T : Txt K mg) : mg "_law_measure" = some (.ref (He.ga K "_law_measure")) := T.glo _ (T.says.fact (f := .glo "_law_measure") 29)
theorem Txt.g_ulaw_spec (T : Txt K mg) : mg "_law_spec" = some (.ref (He.ga K "_law_spec")) := T.glo _ (T.says.fact (f := .glo "_law_spec") 30)
theorem Txt.g_ulaw_made (T : Txt K mg) : mg "_law_made" = some (.ref (He.ga K "_law_made")) := T.glo _ (T.says.fact (f := .glo "_law_made") 31)
theorem Txt.g_ulaw_split (T : Txt K mg) : mg "_law_split" = some (.ref (He.ga K "_law_split")) := T.glo _ (T.says.fact (f := .glo "_law_split") 32)
theorem Txt.g_ulaw_great (T : Txt K mg) : mg "_law_great" = some (.ref (He.ga K "_law_great")) := T.glo _ (T.says.fact (f := .glo "_law_great") 33)
theorem Txt.g_ulaw_shared (T : Txt K mg) : mg "_law_shared" = some (.ref (He.ga K "_law_shared")) := T.glo _ (T.says.fact (f := .glo "_law_shared") 34)
theorem Txt.g_ulaw_core (T : Txt K mg) : mg "_law_core" = some (.ref (He.ga K "_law_core")) := T.glo _ (T.says.fact (f := .glo "_law_core") 35)
theorem Txt.g_ulaw_power (T : Txt K mg) : mg "_law_power" = some (.ref (He.ga K "_law_power")) := T.glo _ (T.says.fact (f := .glo "_law_power") 36)
theorem Txt.g_ulaw_reach (T : Txt K mg) : mg "_law_reach" = some (.ref (He.ga K "_law_reach")) := T.glo _ (T.says.fact (f := .glo "_law_reach") 37)
theorem Txt.g_ulaw_units (T : Txt K mg) : mg "_law_units" = some (.ref (He.ga K "_law_units")) := T.glo _ (T.says.fact (f := .glo "_law_units") 38)
theorem Txt.g_ulaw_counts (T : Txt K mg) : mg "_law_counts" = some (.ref (He.ga K "_law_counts")) := T.glo _ (T.says.fact (f := .glo "_law_counts") 39)
theorem Txt.g_ulaw_ranges (T : Txt K mg) : mg "_law_ranges" = some (.ref (He.ga K "_law_ranges")) := T.glo _ (T.says.fact (f := .glo "_law_ranges") 40)
theorem Txt.g_ulaw_goes (T : Txt K mg) : mg "_law_goes" = some (.ref (He.ga K "_law_goes")) := T.glo _ (T.says.fact (f := .glo "_law_goes") 41)
theorem Txt.g_ulaw_prime (T : Txt K mg) : mg "_law_prime" = some (.ref (He.ga K "_law_prime")) := T.glo _ (T.says.fact (f := .glo "_law_prime") 42)
theorem Txt.g_ulaw_right (T : Txt K mg) : mg "_law_right" = some (.ref (He.ga K "_law_right")) := T.glo _ (T.says.fact (f := .glo "_law_right") 43)
theorem Txt.g_law (T : Txt K mg) : mg "law" = some (.ref (He.ga K "law")) := T.glo _ (T.says.fact (f := .glo "law") 44)
theorem Txt.g_Rule (T : Txt K mg) : mg "Rule" = some (.ref (He.ga K "Rule")) := T.glo _ (T.says.fact (f := .glo "Rule") 45)
theorem Txt.c_Rule (T : Txt K mg) : Cls K (He.ga K "Rule") := He.cls_ok (T.says.fact (f := .cls "Rule") 46)
theorem Txt.n_Rule_parts (T : Txt K mg) : NoAttr K (He.ga K "Rule") "parts" := He.noat_ok (T.says.fact (f := .noat "Rule" "parts") 47)
theorem Txt.n_Rule_first (T : Txt K mg) : NoAttr K (He.ga K "Rule") "first" := He.noat_ok (T.says.fact (f := .noat "Rule" "first") 48)
theorem Txt.n_Rule_second (T : Txt K mg) : NoAttr K (He.ga K "Rule") "second" := He.noat_ok (T.says.fact (f := .noat "Rule" "second") 49)
theorem Txt.n_Rule_moduli (T : Txt K mg) : NoAttr K (He.ga K "Rule") "moduli" := He.noat_ok (T.says.fact (f := .noat "Rule" "moduli") 50)
theorem Txt.mk_Rule (T : Txt K mg) : Mk K (He.ga K "Rule") (He.ma K (He.ga K "Rule") "__init__") := He.mkr_ok (T.says.fact (f := .mkr "Rule") 51)
theorem Txt.g_Number (T : Txt K mg) : mg "Number" = some (.ref (He.ga K "Number")) := T.glo _ (T.says.fact (f := .glo "Number") 52)
theorem Txt.c_Number (T : Txt K mg) : Cls K (He.ga K "Number") := He.cls_ok (T.says.fact (f := .cls "Number") 53)
theorem Txt.n_Number_factors (T : Txt K mg) : NoAttr K (He.ga K "Number") "factors" := He.noat_ok (T.says.fact (f := .noat "Number" "factors") 54)
theorem Txt.n_Number_value (T : Txt K mg) : NoAttr K (He.ga K "Number") "value" := He.noat_ok (T.says.fact (f := .noat "Number" "value") 55)
theorem Txt.mk_Number (T : Txt K mg) : Mk K (He.ga K "Number") (He.ma K (He.ga K "Number") "__init__") := He.mkr_ok (T.says.fact (f := .mkr "Number") 56)
theorem Txt.m_Number_shared (T : Txt K mg) : Meth K (He.ga K "Number") "shared" (He.ma K (He.ga K "Number") "shared") := He.meth_ok (T.says.fact (f := .meth "Number" "shared") 57)
theorem Txt.m_Number_times (T : Txt K mg) : Meth K (He.ga K "Number") "times" (He.ma K (He.ga K "Number") "times") := He.meth_ok (T.says.fact (f := .meth "Number" "times") 58)
theorem Txt.g_Core (T : Txt K mg) : mg "Core" = some (.ref (He.ga K "Core")) := T.glo _ (T.says.fact (f := .glo "Core") 59)
theorem Txt.c_Core (T : Txt K mg) : Cls K (He.ga K "Core") := He.cls_ok (T.says.fact (f := .cls "Core") 60)
theorem Txt.n_Core_rule (T : Txt K mg) : NoAttr K (He.ga K "Core") "rule" := He.noat_ok (T.says.fact (f := .noat "Core" "rule") 61)
theorem Txt.n_Core_modulus (T : Txt K mg) : NoAttr K (He.ga K "Core") "modulus" := He.noat_ok (T.says.fact (f := .noat "Core" "modulus") 62)
theorem Txt.n_Core_factors (T : Txt K mg) : NoAttr K (He.ga K "Core") "factors" := He.noat_ok (T.says.fact (f := .noat "Core" "factors") 63)
theorem Txt.n_Core_spans (T : Txt K mg) : NoAttr K (He.ga K "Core") "spans" := He.noat_ok (T.says.fact (f := .noat "Core" "spans") 64)
theorem Txt.mk_Core (T : Txt K mg) : Mk K (He.ga K "Core") (He.ma K (He.ga K "Core") "__init__") := He.mkr_ok (T.says.fact (f := .mkr "Core") 65)
theorem Txt.z_isinstance (T : Txt K mg) : mg "isinstance" = none := T.free _ (T.says.fact (f := .free "isinstance") 66)
theorem Txt.z_int (T : Txt K mg) : mg "int" = none := T.free _ (T.says.fact (f := .free "int") 67)
theorem Txt.z_bool (T : Txt K mg) : mg "bool" = none := T.free _ (T.says.fact (f := .free "bool") 68)
theorem Txt.z_len (T : Txt K mg) : mg "len" = none := T.free _ (T.says.fact (f := .free "len") 69)
theorem Txt.z_range (T : Txt K mg) : mg "range" = none := T.free _ (T.says.fact (f := .free "range") 70)
theorem Txt.z_tuple (T : Txt K mg) : mg "tuple" = none := T.free _ (T.says.fact (f := .free "tuple") 71)
theorem Txt.z_sorted (T : Txt K mg) : mg "sorted" = none := T.free _ (T.says.fact (f := .free "sorted") 72)
theorem Txt.z_enumerate (T : Txt K mg) : mg "enumerate" = none := T.free _ (T.says.fact (f := .free "enumerate") 73)
theorem Txt.z_abs (T : Txt K mg) : mg "abs" = none := T.free _ (T.says.fact (f := .free "abs") 74)
theorem Txt.z_min (T : Txt K mg) : mg "min" = none := T.free _ (T.says.fact (f := .free "min") 75)
theorem Txt.z_max (T : Txt K mg) : mg "max" = none := T.free _ (T.says.fact (f := .free "max") 76)
theorem Txt.z_divmod (T : Txt K mg) : mg "divmod" = none := T.free _ (T.says.fact (f := .free "divmod") 77)
theorem Txt.z_repr (T : Txt K mg) : mg "repr" = none := T.free _ (T.says.fact (f := .free "repr") 78)
theorem Txt.z_all (T : Txt K mg) : mg "all" = none := T.free _ (T.says.fact (f := .free "all") 79)
theorem Txt.z_any (T : Txt K mg) : mg "any" = none := T.free _ (T.says.fact (f := .free "any") 80)
theorem Txt.z_dict (T : Txt K mg) : mg "dict" = none := T.free _ (T.says.fact (f := .free "dict") 81)
theorem Txt.z_list (T : Txt K mg) : mg "list" = none := T.free _ (T.says.fact (f := .free "list") 82)
theorem Txt.i_MOST_PARTS (T : Txt K mg) : ∃ t, mg "MOST_PARTS" = some (.int (12) t) := T.int _ _ (T.says.fact (f := .int "MOST_PARTS" (12)) 83)
theorem Txt.i_MOST_SHARE (T : Txt K mg) : ∃ t, mg "MOST_SHARE" = some (.int (12) t) := T.int _ _ (T.says.fact (f := .int "MOST_SHARE" (12)) 84)
theorem Txt.i_MOST_PRIME (T : Txt K mg) : ∃ t, mg "MOST_PRIME" = some (.int (1000000) t) := T.int _ _ (T.says.fact (f := .int "MOST_PRIME" (1000000)) 85)
theorem Txt.i_MOST_PRIMES (T : Txt K mg) : ∃ t, mg "MOST_PRIMES" = some (.int (12) t) := T.int _ _ (T.says.fact (f := .int "MOST_PRIMES" (12)) 86)
theorem Txt.i_MOST_EXPONENT (T : Txt K mg) : ∃ t, mg "MOST_EXPONENT" = some (.int (1000000000000000000000000000000) t) := T.int _ _ (T.says.fact (f := .int "MOST_EXPONENT" (1000000000000000000000000000000)) 87)
theorem Txt.i_MOST_VALUE (T : Txt K mg) : ∃ t, mg "MOST_VALUE" = some (.int (1000000000000000000000000000000) t) := T.int _ _ (T.says.fact (f := .int "MOST_VALUE" (1000000000000000000000000000000)) 88)
theorem Txt.i_MOST_SMALL (T : Txt K mg) : ∃ t, mg "MOST_SMALL" = some (.int (1000000) t) := T.int _ _ (T.says.fact (f := .int "MOST_SMALL" (1000000)) 89)
theorem Txt.i_LONG_EXPONENT (T : Txt K mg) : ∃ t, mg "LONG_EXPONENT" = some (.int (100) t) := T.int _ _ (T.says.fact (f := .int "LONG_EXPONENT" (100)) 90)
theorem Txt.f_is_integer (T : Txt K mg) : ∃ fd, FunD K "is_integer" "is_integer" (defArgs s_is_integer) (defBody s_is_integer) (defScope s_is_integer) [] [] (He.fAd K ("is_integer", none)) fd := T.says.def_ (d := d_is_integer) 0
theorem Txt.f_is_between (T : Txt K mg) : ∃ fd, FunD K "is_between" "is_between" (defArgs s_is_between) (defBody s_is_between) (defScope s_is_between) [] [] (He.fAd K ("is_between", none)) fd := T.says.def_ (d := d_is_between) 1
theorem Txt.f_check_number (T : Txt K mg) : ∃ fd, FunD K "check_number" "check_number" (defArgs s_check_number) (defBody s_check_number) (defScope s_check_number) [] [] (He.fAd K ("check_number", none)) fd := T.says.def_ (d := d_check_number) 2
theorem Txt.f_gcd (T : Txt K mg) : ∃ fd, FunD K "gcd" "gcd" (defArgs s_gcd) (defBody s_gcd) (defScope s_gcd) [] [] (He.fAd K ("gcd", none)) fd := T.says.def_ (d := d_gcd) 3
theorem Txt.f_is_prime (T : Txt K mg) : ∃ fd, FunD K "is_prime" "is_prime" (defArgs s_is_prime) (defBody s_is_prime) (defScope s_is_prime) [] [] (He.fAd K ("is_prime", none)) fd := T.says.def_ (d := d_is_prime) 4
theorem Txt.f_factors_of (T : Txt K mg) : ∃ fd, FunD K "factors_of" "factors_of" (defArgs s_factors_of) (defBody s_factors_of) (defScope s_factors_of) [] [] (He.fAd K ("factors_of", none)) fd := T.says.def_ (d := d_factors_of) 5
theorem Txt.f_is_factor (T : Txt K mg) : ∃ fd, FunD K "is_factor" "is_factor" (defArgs s_is_factor) (defBody s_is_factor) (defScope s_is_factor) [] [] (He.fAd K ("is_factor", none)) fd := T.says.def_ (d := d_is_factor) 6
theorem Txt.f_check_factors (T : Txt K mg) : ∃ fd, FunD K "check_factors" "check_factors" (defArgs s_check_factors) (defBody s_check_factors) (defScope s_check_factors) [] [] (He.fAd K ("check_factors", none)) fd := T.says.def_ (d := d_check_factors) 7
theorem Txt.f_value_of (T : Txt K mg) : ∃ fd, FunD K "value_of" "value_of" (defArgs s_value_of) (defBody s_value_of) (defScope s_value_of) [] [] (He.fAd K ("value_of", none)) fd := T.says.def_ (d := d_value_of) 8
theorem Txt.f_number_with (T : Txt K mg) : ∃ fd, FunD K "number_with" "number_with" (defArgs s_number_with) (defBody s_number_with) (defScope s_number_with) [] [] (He.fAd K ("number_with", none)) fd := T.says.def_ (d := d_number_with) 9
theorem Txt.f_check_value (T : Txt K mg) : ∃ fd, FunD K "check_value" "check_value" (defArgs s_check_value) (defBody s_check_value) (defScope s_check_value) [] [] (He.fAd K ("check_value", none)) fd := T.says.def_ (d := d_check_value) 10
theorem Txt.f_is_share (T : Txt K mg) : ∃ fd, FunD K "is_share" "is_share" (defArgs s_is_share) (defBody s_is_share) (defScope s_is_share) [] [] (He.fAd K ("is_share", none)) fd := T.says.def_ (d := d_is_share) 11
theorem Txt.f_check_rule (T : Txt K mg) : ∃ fd, FunD K "check_rule" "check_rule" (defArgs s_check_rule) (defBody s_check_rule) (defScope s_check_rule) [] [] (He.fAd K ("check_rule", none)) fd := T.says.def_ (d := d_check_rule) 12
theorem Txt.f_units (T : Txt K mg) : ∃ fd, FunD K "units" "units" (defArgs s_units) (defBody s_units) (defScope s_units) [] [] (He.fAd K ("units", none)) fd := T.says.def_ (d := d_units) 13
theorem Txt.f_powers (T : Txt K mg) : ∃ fd, FunD K "powers" "powers" (defArgs s_powers) (defBody s_powers) (defScope s_powers) [] [] (He.fAd K ("powers", none)) fd := T.says.def_ (d := d_powers) 14
theorem Txt.f_added (T : Txt K mg) : ∃ fd, FunD K "added" "added" (defArgs s_added) (defBody s_added) (defScope s_added) [] [] (He.fAd K ("added", none)) fd := T.says.def_ (d := d_added) 15
theorem Txt.f_counts_of (T : Txt K mg) : ∃ fd, FunD K "counts_of" "counts_of" (defArgs s_counts_of) (defBody s_counts_of) (defScope s_counts_of) [] [] (He.fAd K ("counts_of", none)) fd := T.says.def_ (d := d_counts_of) 16
theorem Txt.f_spares (T : Txt K mg) : ∃ fd, FunD K "spares" "spares" (defArgs s_spares) (defBody s_spares) (defScope s_spares) [] [] (He.fAd K ("spares", none)) fd := T.says.def_ (d := d_spares) 17
theorem Txt.f_core_factors (T : Txt K mg) : ∃ fd, FunD K "core_factors" "core_factors" (defArgs s_core_factors) (defBody s_core_factors) (defScope s_core_factors) [] [] (He.fAd K ("core_factors", none)) fd := T.says.def_ (d := d_core_factors) 18
theorem Txt.f_check_pair (T : Txt K mg) : ∃ fd, FunD K "check_pair" "check_pair" (defArgs s_check_pair) (defBody s_check_pair) (defScope s_check_pair) [] [] (He.fAd K ("check_pair", none)) fd := T.says.def_ (d := d_check_pair) 19
theorem Txt.f_powers_of (T : Txt K mg) : ∃ fd, FunD K "powers_of" "powers_of" (defArgs s_powers_of) (defBody s_powers_of) (defScope s_powers_of) [] [] (He.fAd K ("powers_of", none)) fd := T.says.def_ (d := d_powers_of) 20
theorem Txt.f_spread (T : Txt K mg) : ∃ fd, FunD K "spread" "spread" (defArgs s_spread) (defBody s_spread) (defScope s_spread) [] [] (He.fAd K ("spread", none)) fd := T.says.def_ (d := d_spread) 21
theorem Txt.f_reach_of (T : Txt K mg) : ∃ fd, FunD K "reach_of" "reach_of" (defArgs s_reach_of) (defBody s_reach_of) (defScope s_reach_of) [] [] (He.fAd K ("reach_of", none)) fd := T.says.def_ (d := d_reach_of) 22
theorem Txt.f_goes_by (T : Txt K mg) : ∃ fd, FunD K "goes_by" "goes_by" (defArgs s_goes_by) (defBody s_goes_by) (defScope s_goes_by) [] [] (He.fAd K ("goes_by", none)) fd := T.says.def_ (d := d_goes_by) 23
theorem Txt.f_with_one (T : Txt K mg) : ∃ fd, FunD K "with_one" "with_one" (defArgs s_with_one) (defBody s_with_one) (defScope s_with_one) [] [] (He.fAd K ("with_one", none)) fd := T.says.def_ (d := d_with_one) 24
theorem Txt.f_helping_rests (T : Txt K mg) : ∃ fd, FunD K "helping_rests" "helping_rests" (defArgs s_helping_rests) (defBody s_helping_rests) (defScope s_helping_rests) [] [] (He.fAd K ("helping_rests", none)) fd := T.says.def_ (d := d_helping_rests) 25
theorem Txt.f_goes (T : Txt K mg) : ∃ fd, FunD K "goes" "goes" (defArgs s_goes) (defBody s_goes) (defScope s_goes) [] [] (He.fAd K ("goes", none)) fd := T.says.def_ (d := d_goes) 26
theorem Txt.f_ulaw_mill (T : Txt K mg) : ∃ fd, FunD K "_law_mill" "_law_mill" (defArgs s_ulaw_mill) (defBody s_ulaw_mill) (defScope s_ulaw_mill) [] [] (He.fAd K ("_law_mill", none)) fd := T.says.def_ (d := d_ulaw_mill) 27
theorem Txt.f_ulaw_grain (T : Txt K mg) : ∃ fd, FunD K "_law_grain" "_law_grain" (defArgs s_ulaw_grain) (defBody s_ulaw_grain) (defScope s_ulaw_grain) [] [] (He.fAd K ("_law_grain", none)) fd := T.says.def_ (d := d_ulaw_grain) 28
theorem Txt.f_ulaw_measure (T : Txt K mg) : ∃ fd, FunD K "_law_measure" "_law_measure" (defArgs s_ulaw_measure) (defBody s_ulaw_measure) (defScope s_ulaw_measure) [] [] (He.fAd K ("_law_measure", none)) fd := T.says.def_ (d := d_ulaw_measure) 29
theorem Txt.f_ulaw_spec (T : Txt K mg) : ∃ fd, FunD K "_law_spec" "_law_spec" (defArgs s_ulaw_spec) (defBody s_ulaw_spec) (defScope s_ulaw_spec) [] [] (He.fAd K ("_law_spec", none)) fd := T.says.def_ (d := d_ulaw_spec) 30
theorem Txt.f_ulaw_made (T : Txt K mg) : ∃ fd, FunD K "_law_made" "_law_made" (defArgs s_ulaw_made) (defBody s_ulaw_made) (defScope s_ulaw_made) [] [] (He.fAd K ("_law_made", none)) fd := T.says.def_ (d := d_ulaw_made) 31
theorem Txt.f_ulaw_split (T : Txt K mg) : ∃ fd, FunD K "_law_split" "_law_split" (defArgs s_ulaw_split) (defBody s_ulaw_split) (defScope s_ulaw_split) [] [] (He.fAd K ("_law_split", none)) fd := T.says.def_ (d := d_ulaw_split) 32
theorem Txt.f_ulaw_great (T : Txt K mg) : ∃ fd, FunD K "_law_great" "_law_great" (defArgs s_ulaw_great) (defBody s_ulaw_great) (defScope s_ulaw_great) [] [] (He.fAd K ("_law_great", none)) fd := T.says.def_ (d := d_ulaw_great) 33
theorem Txt.f_ulaw_shared (T : Txt K mg) : ∃ fd, FunD K "_law_shared" "_law_shared" (defArgs s_ulaw_shared) (defBody s_ulaw_shared) (defScope s_ulaw_shared) [] [] (He.fAd K ("_law_shared", none)) fd := T.says.def_ (d := d_ulaw_shared) 34
theorem Txt.f_ulaw_core (T : Txt K mg) : ∃ fd, FunD K "_law_core" "_law_core" (defArgs s_ulaw_core) (defBody s_ulaw_core) (defScope s_ulaw_core) [] [] (He.fAd K ("_law_core", none)) fd := T.says.def_ (d := d_ulaw_core) 35
theorem Txt.f_ulaw_power (T : Txt K mg) : ∃ fd, FunD K "_law_power" "_law_power" (defArgs s_ulaw_power) (defBody s_ulaw_power) (defScope s_ulaw_power) [] [] (He.fAd K ("_law_power", none)) fd := T.says.def_ (d := d_ulaw_power) 36
theorem Txt.f_ulaw_reach (T : Txt K mg) : ∃ fd, FunD K "_law_reach" "_law_reach" (defArgs s_ulaw_reach) (defBody s_ulaw_reach) (defScope s_ulaw_reach) [] [] (He.fAd K ("_law_reach", none)) fd := T.says.def_ (d := d_ulaw_reach) 37
theorem Txt.f_ulaw_units (T : Txt K mg) : ∃ fd, FunD K "_law_units" "_law_units" (defArgs s_ulaw_units) (defBody s_ulaw_units) (defScope s_ulaw_units) [] [] (He.fAd K ("_law_units", none)) fd := T.says.def_ (d := d_ulaw_units) 38
theorem Txt.f_ulaw_counts (T : Txt K mg) : ∃ fd, FunD K "_law_counts" "_law_counts" (defArgs s_ulaw_counts) (defBody s_ulaw_counts) (defScope s_ulaw_counts) [] [] (He.fAd K ("_law_counts", none)) fd := T.says.def_ (d := d_ulaw_counts) 39
theorem Txt.f_ulaw_ranges (T : Txt K mg) : ∃ fd, FunD K "_law_ranges" "_law_ranges" (defArgs s_ulaw_ranges) (defBody s_ulaw_ranges) (defScope s_ulaw_ranges) [] [] (He.fAd K ("_law_ranges", none)) fd := T.says.def_ (d := d_ulaw_ranges) 40
theorem Txt.f_ulaw_goes (T : Txt K mg) : ∃ fd, FunD K "_law_goes" "_law_goes" (defArgs s_ulaw_goes) (defBody s_ulaw_goes) (defScope s_ulaw_goes) [] [] (He.fAd K ("_law_goes", none)) fd := T.says.def_ (d := d_ulaw_goes) 41
theorem Txt.f_ulaw_prime (T : Txt K mg) : ∃ fd, FunD K "_law_prime" "_law_prime" (defArgs s_ulaw_prime) (defBody s_ulaw_prime) (defScope s_ulaw_prime) [] [] (He.fAd K ("_law_prime", none)) fd := T.says.def_ (d := d_ulaw_prime) 42
theorem Txt.f_ulaw_right (T : Txt K mg) : ∃ fd, FunD K "_law_right" "_law_right" (defArgs s_ulaw_right) (defBody s_ulaw_right) (defScope s_ulaw_right) [] [] (He.fAd K ("_law_right", none)) fd := T.says.def_ (d := d_ulaw_right) 43
theorem Txt.f_law (T : Txt K mg) : ∃ fd, FunD K "law" "law" (defArgs s_law) (defBody s_law) (defScope s_law) [] [] (He.fAd K ("law", none)) fd := T.says.def_ (d := d_law) 44
theorem Txt.f_Rule_uuinit__ (T : Txt K mg) : ∃ fd, FunD K "__init__" "Rule.__init__" (defArgs s_Rule_uuinit__) (defBody s_Rule_uuinit__) (defScope s_Rule_uuinit__) [.int (1), .int (1)] [] (He.fAd K ("Rule", some "__init__")) fd := T.says.def_ (d := d_Rule_uuinit__) 45
theorem Txt.f_Number_uuinit__ (T : Txt K mg) : ∃ fd, FunD K "__init__" "Number.__init__" (defArgs s_Number_uuinit__) (defBody s_Number_uuinit__) (defScope s_Number_uuinit__) [.ref (He.dflAt ("Number", some "__init__") 0 K)] [] (He.fAd K ("Number", some "__init__")) fd := T.says.def_ (d := d_Number_uuinit__) 46
theorem Txt.f_Number_shared (T : Txt K mg) : ∃ fd, FunD K "shared" "Number.shared" (defArgs s_Number_shared) (defBody s_Number_shared) (defScope s_Number_shared) [] [] (He.fAd K ("Number", some "shared")) fd := T.says.def_ (d := d_Number_shared) 47
theorem Txt.f_Number_times (T : Txt K mg) : ∃ fd, FunD K "times" "Number.times" (defArgs s_Number_times) (defBody s_Number_times) (defScope s_Number_times) [] [] (He.fAd K ("Number", some "times")) fd := T.says.def_ (d := d_Number_times) 48
theorem Txt.f_Core_uuinit__ (T : Txt K mg) : ∃ fd, FunD K "__init__" "Core.__init__" (defArgs s_Core_uuinit__) (defBody s_Core_uuinit__) (defScope s_Core_uuinit__) [] [] (He.fAd K ("Core", some "__init__")) fd := T.says.def_ (d := d_Core_uuinit__) 49
theorem Txt.x_isi_Rule (T : Txt K mg) : e_isi_Rule K = true := T.says.more 0
theorem Txt.x_isi_Number (T : Txt K mg) : e_isi_Number K = true := T.says.more 1
theorem Txt.x_tup0_Number (T : Txt K mg) : e_tup0_Number K = true := T.says.more 2
theorem Txt.ty_Rule (T : Txt K mg) {H : Hp} {a dx : Addr} {fs : List (Str × V)} (h : H a = some (.ins (He.ga K "Rule") dx fs)) : TyOf K H (.ref a) (.ref (He.ga K "Rule")) := by
  obtain ⟨c1, c⟩ := He.ba T.x_isi_Rule
  obtain ⟨c2, c⟩ := He.ba c
  obtain ⟨c3, c4⟩ := He.ba c
  exact .ins h T.c_Rule (He.eqO_ok c1) (He.eqO_ok c2) (of_decide_eq_true c3) (of_decide_eq_true c4)
theorem Txt.ty_Number (T : Txt K mg) {H : Hp} {a dx : Addr} {fs : List (Str × V)} (h : H a = some (.ins (He.ga K "Number") dx fs)) : TyOf K H (.ref a) (.ref (He.ga K "Number")) := by
  obtain ⟨c1, c⟩ := He.ba T.x_isi_Number
  obtain ⟨c2, c⟩ := He.ba c
  obtain ⟨c3, c4⟩ := He.ba c
  exact .ins h T.c_Number (He.eqO_ok c1) (He.eqO_ok c2) (of_decide_eq_true c3) (of_decide_eq_true c4)
theorem Txt.tup0_Number (T : Txt K mg) : ∃ (o : Obj) (its : Array Value) (n : Nat), K.lookup (He.dflAt ("Number", some "__init__") 0 K) = some o ∧ o.cls = .type "tuple" ∧ o.dict = none ∧ o.data = .seq its n ∧ its.size ≤ sizeLine ∧ Vals [] its.toList := by
  have h := T.x_tup0_Number
  unfold e_tup0_Number at h
  cases e : K.lookup (He.dflAt ("Number", some "__init__") 0 K) with
  | none => rw [e] at h; cases h
  | some o =>
    rw [e] at h
    obtain ⟨oc, od, dt, osl⟩ := o
    split at h
    · rename_i _ its _ _ e2
      obtain rfl := of_decide_eq_true h
      cases e2
      exact ⟨_, #[], _, rfl, rfl, rfl, rfl, Nat.zero_le _, .nil⟩
    · cases h
end
def ls0 : List PySem.Str := ["_wall", "__name__", "BadValue", "InvalidText", "InvalidNumber", "NotARule", "NotANumber", "InvalidFactors", "NoAnswer", "TooMany", "MOST_PARTS", "MOST_SHARE", "MOST_PRIME", "MOST_PRIMES", "MOST_EXPONENT", "MOST_VALUE", "FIGURES", "is_integer", "is_between", "check_number", "decimal", "gcd", "MOST_SMALL", "MOST_MODULUS", "LONG_EXPONENT", "is_prime", "factors_of", "is_factor", "check_factors", "value_of"]
def ls1 : List PySem.Str := ["power_rest", "read_factor", "number_of", "number_with", "check_value", "Number", "is_share", "Rule", "rule_of", "check_rule", "units", "powers", "added", "counts_of", "spares", "core_factors", "Core", "check_pair", "powers_of", "spread", "reach_of", "goes_by", "with_one", "helping_rests", "goes", "_law_mill", "_law_grain", "_law_measure", "_law_spec", "_law_made"]
def ls2 : List PySem.Str := ["_law_split", "_law_great", "_law_shared", "_law_core", "_law_power", "_law_reach", "_law_units", "_law_counts", "_law_ranges", "_law_goes", "_law_prime", "_law_right"]
def ls : List PySem.Str := ls0 ++ ls1 ++ ls2
abbrev R : PySem.W.OpenRow := PySem.W.OpenLaw.row PySem.Challenge.rw_unitpairs_k81_whole_helping_rests
abbrev hk : PySem.W.Hook := hookP 5
def ob (s : PySem.W.SharedT) : AlP := obsPG 5 (HandSHeadRun.getT s)
theorem ob_eq (s : PySem.W.SharedT) : ob s = hk.obs s.abs := obsPG_eq (HandSHeadRun.getT_eq s)
theorem run (w : World) : HandSHeadRun.RunEq R (PySem.W.view R.prog [80]) hk ob 20000 ls w := by
  intro os
  kernel_rfl
end K81

set_option Elab.async false
set_option linter.all false
set_option maxRecDepth 100000
set_option maxHeartbeats 4000000
namespace K81
open PySem PySem.Spec PyProof.Rows L2 Bk
section
variable {P : Program} {w : World} {K : PySem.W.Frag} {mg : Str → Option Value} {base : Heap}

/-! ### is_integer -/
def spIsInt (K : PySem.W.Frag) : Sp := fun vs H Q _ => ∃ x t b1 b2, vs = [x] ∧ TyX K H x t ∧ PySem.W.kitOne K t (.type "int") = some b1 ∧ PySem.W.kitOne K t (.type "bool") = some b2 ∧ Q (.bl (b1 && !b2)) H
theorem sc_is_integer : FnScope ["value"] ["value"] (defScope s_is_integer) := ⟨rfl, rfl, rfl, by decide +kernel, rfl, by decide +kernel, by decide +kernel⟩
theorem ok_is_integer (T : Txt K mg) : Ok P w K mg base 1 (He.ga K "is_integer") ["value"] (spIsInt K) := by
  refine fd_ok T.f_is_integer sc_is_integer (fun vs H Q E h => ?_) (fun _ _ _ _ _ _ us hl => match us, hl with | [_], _ => rfl) (fun cdv A outer s H vs Q E hr h => ?_)
  · obtain ⟨x, t, b1, b2, rfl, _⟩ := h
    rfl
  · obtain ⟨x, t, b1, b2, rfl, ty, k1, k2, q⟩ := h
    refine ⟨_, pss_one (ps_ret (pe_and (pe_callB call_isi rfl T.z_isinstance (by decide +kernel) (pa_cons (pv 0) (pa_cons (pe_bltn rfl T.z_int (by decide +kernel) (v := .ty "int") rfl) pa_nil)))
      (pe_one (pe_not (pe_callB call_isi rfl T.z_isinstance (by decide +kernel) (pa_cons (pv 0) (pa_cons (pe_bltn rfl T.z_bool (by decide +kernel) (v := .ty "bool") rfl) pa_nil))))))), ?_⟩
    refine ⟨_, rfl, _, _, t, _, b1, rfl, .ty _, ty, k1, b1, rfl, ?_⟩
    cases b1 with
    | false => exact iteF q
    | true => exact iteT ⟨_, rfl, _, _, t, _, b2, rfl, .ty _, ty, k2, b2, rfl, q⟩
theorem kit_ii : PySem.W.kitOne K (.type "int") (.type "int") = some true := by rfl
theorem kit_ib : PySem.W.kitOne K (.type "int") (.type "bool") = some false := by rfl
theorem isInt_int (i : Int) (H : Hp) (Q : VK) (E : XK) (q : Q (.bl true) H) : spIsInt K [.int i] H Q E := ⟨_, _, true, false, rfl, .base (.int i), kit_ii, kit_ib, q⟩

/-! ### is_between, of ints -/
def spBetween : Sp := fun vs H Q _ => ∃ i lo hi : Int, vs = [.int i, .int lo, .int hi] ∧ Q (.bl (decide (lo ≤ i) && decide (i ≤ hi))) H
theorem sc_is_between : FnScope ["value", "least", "most"] ["value", "least", "most"] (defScope s_is_between) := ⟨rfl, rfl, rfl, by decide +kernel, rfl, by decide +kernel, by decide +kernel⟩
theorem ok_is_between (T : Txt K mg) : Ok P w K mg base 2 (He.ga K "is_between") ["value", "least", "most"] spBetween := by
  obtain ⟨fd1, F1, b1, k1, _⟩ := (ok_is_integer (P := P) (w := w) (base := base) T).ex
  refine fd_ok T.f_is_between sc_is_between (fun vs H Q E h => ?_) (fun _ _ _ _ _ _ us hl => match us, hl with | [_, _, _], _ => rfl) (fun cdv A outer s H vs Q E hr h => ?_)
  · obtain ⟨i, lo, hi, rfl, _⟩ := h
    rfl
  · obtain ⟨i, lo, hi, rfl, q⟩ := h
    refine ⟨_, pss_one (ps_ret (pe_and (pe_call F1 hr rfl T.g_is_integer k1 b1 .nil pass0 (pa_cons (pv 0) pa_nil)) (pe_one (pe_chain op_le op_le (pv 1) (pv 0) (pv 2))))), ?_⟩
    refine ⟨_, rfl, _, _, true, false, rfl, .base (.int i), kit_ii, kit_ib, true, rfl, iteT ?_⟩
    refine ⟨_, rfl, _, rfl, _, _, rfl, rfl, _, rfl, ?_⟩
    cases e : decide (lo ≤ i) with
    | false =>
      rw [e] at q
      exact iteF q
    | true =>
      rw [e] at q
      exact iteT ⟨_, rfl, _, _, rfl, rfl, q⟩

/-! ### check_number, of an int within the bounds -/
def spCheck : Sp := fun vs H Q _ => ∃ i lo hi : Int, vs = [.int i, .int lo, .int hi] ∧ (lo ≤ i ∧ i ≤ hi) ∧ Q .non H
theorem sc_check_number : FnScope ["value", "least", "most"] ["value", "least", "most"] (defScope s_check_number) := ⟨rfl, rfl, rfl, by decide +kernel, rfl, by decide +kernel, by decide +kernel⟩
theorem ok_check_number (T : Txt K mg) : Ok P w K mg base 3 (He.ga K "check_number") ["value", "least", "most"] spCheck := by
  obtain ⟨fd1, F1, b1, k1, _⟩ := (ok_is_between (P := P) (w := w) (base := base) T).ex
  refine fd_ok T.f_check_number sc_check_number (fun vs H Q E h => ?_) (fun _ _ _ _ _ _ us hl => match us, hl with | [_, _, _], _ => rfl) (fun cdv A outer s H vs Q E hr h => ?_)
  · obtain ⟨i, lo, hi, rfl, _⟩ := h
    rfl
  · obtain ⟨i, lo, hi, rfl, ⟨h1, h2⟩, q⟩ := h
    refine ⟨_, pss_one (ps_if (pt_not (pt_val (pe_call F1 hr rfl T.g_is_between k1 b1 .nil pass0 (pa_cons (pv 0) (pa_cons (pv 1) (pa_cons (pv 2) pa_nil)))))) (pss_one ps_never) pss_nil), ?_⟩
    refine ⟨_, rfl, _, rfl, _, rfl, i, lo, hi, rfl, _, rfl, ?_⟩
    rw [decide_eq_true h1, decide_eq_true h2]
    exact iteF q

/-! ### gcd -/
def spGcd : Sp := fun vs H Q _ => ∃ i j : Nat, vs = [.int i, .int j] ∧ Q (.int (Nat.gcd i j : Nat)) H
theorem sc_gcd : FnScope ["one", "other"] ["one", "other"] (defScope s_gcd) := ⟨rfl, rfl, rfl, by decide +kernel, rfl, by decide +kernel, by decide +kernel⟩
theorem ok_gcd (T : Txt K mg) : Ok P w K mg base 1 (He.ga K "gcd") ["one", "other"] spGcd := by
  refine fd_ok T.f_gcd sc_gcd (fun vs H Q E h => ?_) (fun _ _ _ _ _ _ us hl => match us, hl with | [_, _], _ => rfl) (fun cdv A outer s H vs Q E hr h => ?_)
  · obtain ⟨i, j, rfl, _⟩ := h
    rfl
  · obtain ⟨i, j, rfl, q⟩ := h
    refine ⟨_, pss_cons (ps_while PassesOwn.never (pt_cmpR op_gt (pv 1) pe_int (nomark _))
      (pss_one (ps_par (i := 0) (j := 1) rfl sc_gcd.nd rfl rfl (by decide) rfl rfl (pa_cons (pv 1) (pa_cons (pe_op op_mod (pe_callTy call_int1 rfl T.z_int (by decide +kernel) (pa_cons (pv 0) pa_nil)) (pv 1)) pa_nil)) (by rfl))))
      (pss_one (ps_ret (pv 0))), ?_⟩
    refine ⟨fun m σ H' => ∃ a b : Nat, σ = [some (.int a), some (.int b)] ∧ H' = H ∧ Nat.gcd a b = Nat.gcd i j ∧ m = b, ⟨j, i, j, rfl, rfl, rfl, rfl⟩, ?_⟩
    rintro m σ H1 ⟨a, b, rfl, e1, hg, rfl⟩
    cases e1
    refine ⟨_, rfl, _, _, rfl, rfl, _, rfl, ?_⟩
    refine ite2 (fun hb => ?_) (fun hb => ?_)
    · have hb' : 0 < m := by have := of_decide_eq_true hb; omega
      refine ⟨fun σ H' => ∃ a' b' : Nat, σ = [some (.int a'), some (.int b')] ∧ H' = H ∧ Nat.gcd a' b' = Nat.gcd i j ∧ b' < m, fun σ' H' ⟨a', b', e1, e2, e3, e4⟩ => ⟨b', e4, a', b', e1, e2, e3, rfl⟩, ?_⟩
      refine ⟨_, rfl, _, rfl, .inl ⟨_, rfl, _, rfl, _, _, rfl, rfl, (by omega), ?_⟩⟩
      refine ⟨_, _, rfl, m, a % m, ?_, rfl, ?_, Nat.mod_lt _ hb'⟩
      · show [some (V.int m), some (V.int ((a : Int) % (m : Int)))] = _
        rw [show ((a : Int) % (m : Int)) = ((a % m : Nat) : Int) by omega]
      · rw [← hg, Nat.gcd_comm a m, Nat.gcd_rec m a, Nat.gcd_comm]
    · have hb' : m = 0 := by
        have : ¬ (0 : Int) < (m : Int) := fun z => hb (decide_eq_true z)
        omega
      subst hb'
      refine ⟨_, rfl, ?_⟩
      rw [Nat.gcd_zero_right] at hg
      subst hg
      exact q
end
end K81

set_option Elab.async false
set_option linter.all false
set_option maxRecDepth 100000
set_option maxHeartbeats 4000000
namespace K81
open PySem PySem.Spec PyProof.Rows L2 Bk Evl
section
variable {P : Program} {w : World} {K : PySem.W.Frag} {mg : Str → Option Value} {base : Heap}

/-! ### is_share -/
def shareB (a c : Nat) : Bool := (decide (1 ≤ c) && decide (c ≤ 12)) && decide (Nat.gcd c a = 1)
def spShare : Sp := fun vs H Q _ => ∃ a c : Nat, vs = [.int a, .int c] ∧ Q (.bl (shareB a c)) H
theorem sc_is_share : FnScope ["parts", "value"] ["parts", "value"] (defScope s_is_share) := ⟨rfl, rfl, rfl, by decide +kernel, rfl, by decide +kernel, by decide +kernel⟩
theorem ok_is_share (T : Txt K mg) : Ok P w K mg base 3 (He.ga K "is_share") ["parts", "value"] spShare := by
  obtain ⟨fd1, F1, b1, k1, _⟩ := (ok_is_between (P := P) (w := w) (base := base) T).ex
  obtain ⟨fd2, F2, b2, k2, _⟩ := (ok_gcd (P := P) (w := w) (base := base) T).ex
  obtain ⟨t12, m12⟩ := T.i_MOST_SHARE
  refine fd_ok T.f_is_share sc_is_share (fun vs H Q E h => ?_) (fun _ _ _ _ _ _ us hl => match us, hl with | [_, _], _ => rfl) (fun cdv A outer s H vs Q E hr h => ?_)
  · obtain ⟨a, c, rfl, _⟩ := h
    rfl
  · obtain ⟨a, c, rfl, q⟩ := h
    have hr1 : Room 1 _ := hr.mono (by decide)
    refine ⟨_, pss_one (ps_ret (pe_and (pe_call F1 hr rfl T.g_is_between k1 b1 .nil pass0 (pa_cons (pv 1) (pa_cons pe_int (pa_cons (pe_glob (v := .int 12) rfl m12 ⟨_, rfl⟩) pa_nil))))
      (pe_one (pe_cmpR op_eq (pe_call F2 hr1 rfl T.g_gcd k2 b2 .nil pass0 (pa_cons (pv 1) (pa_cons (pv 0) pa_nil))) pe_int (nomark _))))), ?_⟩
    refine ⟨_, rfl, (c : Int), 1, 12, rfl, _, rfl, ?_⟩
    have e1 : (decide ((1 : Int) ≤ (c : Int)) && decide ((c : Int) ≤ 12)) = (decide (1 ≤ c) && decide (c ≤ 12)) := by
      congr 1 <;> exact decide_eq_decide.mpr (by omega)
    rw [e1]
    unfold shareB at q
    cases e : (decide (1 ≤ c) && decide (c ≤ 12)) with
    | false =>
      rw [e] at q
      exact iteF q
    | true =>
      rw [e] at q
      refine iteT ⟨_, rfl, _, rfl, c, a, rfl, rfl, ?_⟩
      have e2 : decide (V.int ((Nat.gcd c a : Nat) : Int) = V.int 1) = decide (Nat.gcd c a = 1) := decide_eq_decide.mpr ⟨fun z => by injection z with z; omega, fun z => by rw [z]; rfl⟩
      rw [e2]
      exact q

/-! ### a rule -/
def CR (K : PySem.W.Frag) : Addr := He.ga K "Rule"
def rf4 (a b c : Int) (m : Addr) : List (Str × V) := [("parts", V.int a), ("first", V.int b), ("second", V.int c), ("moduli", V.ref m)]
theorem rf4_put (a b c : Int) (m : Addr) : putF "moduli" (.ref m) (putF "second" (.int c) (putF "first" (.int b) (putF "parts" (.int a) []))) = rf4 a b c m := by rfl
theorem rf4_parts (a b c : Int) (m : Addr) : (rf4 a b c m).lookup ("parts" : Str) = some (.int a) := by rfl
theorem rf4_first (a b c : Int) (m : Addr) : (rf4 a b c m).lookup ("first" : Str) = some (.int b) := by rfl
theorem rf4_second (a b c : Int) (m : Addr) : (rf4 a b c m).lookup ("second" : Str) = some (.int c) := by rfl
theorem rf4_moduli (a b c : Int) (m : Addr) : (rf4 a b c m).lookup ("moduli" : Str) = some (.ref m) := by rfl
/-- the divisors of a, ascending -/
def divs (a : Nat) : List V := given a (fun i => decide (a % (i + 1) = 0)) (fun i => V.int (1 + (i : Int)))
structure RuleAt (K : PySem.W.Frag) (H : Hp) (r : Addr) (a b c : Nat) : Prop where
  ex : ∃ dx m, H r = some (.ins (CR K) dx (rf4 a b c m)) ∧ H m = some (.tup (divs a))
def okRule (a b c : Nat) : Prop := (2 ≤ a ∧ a ≤ 12) ∧ shareB a b = true ∧ shareB a c = true
def spRuleInit (K : PySem.W.Frag) : Sp := fun vs H Q _ => ∃ (r dx : Addr) (a b c : Nat), vs = [.ref r, .int a, .int b, .int c] ∧ H r = some (.ins (CR K) dx []) ∧ okRule a b c ∧
  ∀ H', RuleAt K H' r a b c → (∀ x o, H x = some o → x ≠ r → H' x = some o) → Q .non H'
theorem sc_Rule_init : FnScope ["self", "parts", "first", "second", "share", "part"] ["self", "parts", "first", "second"] (defScope s_Rule_uuinit__) := ⟨rfl, rfl, rfl, by decide +kernel, rfl, by decide +kernel, by decide +kernel⟩
theorem ok_Rule_init (T : Txt K mg) : Ok P w K mg base 4 (He.ma K (He.ga K "Rule") "__init__") ["self", "parts", "first", "second"] (spRuleInit K) := by
  obtain ⟨fd1, F1, b1, k1, _⟩ := (ok_check_number (P := P) (w := w) (base := base) T).ex
  obtain ⟨fd2, F2, b2, k2, _⟩ := (ok_is_share (P := P) (w := w) (base := base) T).ex
  obtain ⟨t12, m12⟩ := T.i_MOST_PARTS
  refine fd_okD T.f_Rule_uuinit__ (by simp) sc_Rule_init (fun vs H Q E h => ?_) (fun _ _ _ _ _ _ _ us its hl hi => match us, hl, its, hi with | [_, _, _, _], _, [_, _], _ => ⟨_, rfl, rfl⟩) (fun cdv A outer s H vs Q E hr h => ?_)
  · obtain ⟨r, dx, a, b, c, rfl, _⟩ := h
    rfl
  · obtain ⟨r, dx, a, b, c, rfl, hr0, ⟨⟨ha1, ha2⟩, hb, hc⟩, q⟩ := h
    refine ⟨_, pss_cons (ps_expr (pe_call F1 hr rfl T.g_check_number k1 b1 .nil pass0 (pa_cons (pv 1) (pa_cons pe_int (pa_cons (pe_glob (v := .int 12) rfl m12 ⟨_, rfl⟩) pa_nil)))))
      (pss_cons (ps_for PassesOwn.never rfl (pi_tup (pe_tup (pa_cons (pv 2) (pa_cons (pv 3) pa_nil)))) (pg_name (i := 4) sc_Rule_init.nd rfl (Or.inl rfl))
        (pss_one (ps_if (pt_not (pt_val (pe_call F2 hr rfl T.g_is_share k2 b2 .nil pass0 (pa_cons (pv 1) (pa_cons (pv 4) pa_nil))))) (pss_one ps_never) pss_nil)))
      (pss_cons (ps_asg (pe_tup (pa_cons (pv 1) (pa_cons (pv 2) (pa_cons (pv 3) pa_nil)))) (pg_tup rfl (pgs_cons (pg_fld (pv 0)) (pgs_cons (pg_fld (pv 0)) (pgs_cons (pg_fld (pv 0)) pgs_nil)))))
      (pss_one (ps_fld (pv 0) (pe_callTy call_tuple_of rfl T.z_tuple (by decide +kernel) (pa_cons
        (pe_lc (own := [("part", 5)]) (g := gName 5) rfl sc_Rule_init.nd (pi_range2 rfl T.z_range (pa_cons pe_int (pa_cons (pe_op op_add (pv 1) pe_int) pa_nil))) (blkOk_by (own := [("part", 5)]) (N := ["self", "parts", "first", "second", "share", "part"]) (sc := defScope s_Rule_uuinit__) (by decide +kernel))
          (fun _ _ _ _ _ => pg_name (i := 5) sc_Rule_init.nd rfl (Or.inl rfl)) (fun _ _ _ _ _ => pts_one (pt_cmpR op_eq (pe_op op_mod (pe_callTy call_int1 rfl T.z_int (by decide +kernel) (pa_cons (pv 1) pa_nil)) (pv 5)) pe_int (nomark _)))
          (fun _ _ _ _ _ => pv 5)) pa_nil)) rfl)))), ?_⟩
    -- check_number(parts, 2, MOST_PARTS)
    refine ⟨_, rfl, (a : Int), 2, 12, rfl, ⟨by omega, by omega⟩, ?_⟩
    -- for share in (first, second)
    refine ⟨_, rfl, _, rfl, by show 2 ≤ sizeLine; decide, fun p hp => ⟨p, rfl, ⟨_, SqT.of upd_same⟩, ?_⟩⟩
    have npr : p ≠ r := (ne_of_none hr0 hp).symm
    refine for_tup (xs := [V.int b, V.int c]) (fun _ σ H' => ∃ v, σ = [some (.ref r), some (.int a), some (.int b), some (.int c), v, none] ∧ H' = upd H p (.tup [.int b, .int c])) ⟨_, rfl, rfl⟩ ?_ ?_ ?_
    · rintro i σ H' _ ⟨v, rfl, rfl⟩
      exact SqT.of upd_same
    · rintro i x σ H' hx ⟨v, rfl, rfl⟩
      obtain ⟨z, rfl, hz⟩ : ∃ z : Nat, x = V.int z ∧ shareB a z = true := by
        match i, hx with
        | 0, hx => cases hx; exact ⟨b, rfl, hb⟩
        | 1, hx => cases hx; exact ⟨c, rfl, hc⟩
      refine ⟨_, rfl, _, rfl, a, z, rfl, _, rfl, ?_⟩
      rw [hz]
      exact iteF ⟨_, rfl, rfl⟩
    · rintro σ H' ⟨v, rfl, rfl⟩
      -- the three fields
      refine ⟨_, rfl, _, rfl, _, rfl, by show 3 ≤ sizeLine; decide, fun t ht => ?_⟩
      have ntr : t ≠ r := fun e => by rw [e, upd_ne npr.symm, hr0] at ht; cases ht
      have ntp : t ≠ p := fun e => by rw [e, upd_same] at ht; cases ht
      have h1 : upd (upd H p (.tup [.int b, .int c])) t (.tup [.int a, .int b, .int c]) r = some (.ins (CR K) dx []) := by rw [upd_ne ntr.symm, upd_ne npr.symm]; exact hr0
      have k3 : ∀ x o, (H x = some o ∨ x = t ∧ o = .tup [.int a, .int b, .int c]) → upd (upd H p (.tup [.int b, .int c])) t (.tup [.int a, .int b, .int c]) x = some o := fun x o e => by
        rcases e with e | ⟨rfl, rfl⟩
        · have e1 : upd H p (.tup [.int b, .int c]) x = some o := by rw [upd_ne (ne_of_none e hp)]; exact e
          rw [upd_ne (ne_of_none e1 ht)]
          exact e1
        · exact upd_same
      generalize upd (upd H p (.tup [.int b, .int c])) t (.tup [.int a, .int b, .int c]) = H3 at h1 k3 ⊢
      refine ⟨t, _, rfl, SqT.of (k3 t _ (.inr ⟨rfl, rfl⟩)), rfl, _, _, rfl, ⟨_, rfl, r, CR K, dx, _, rfl, h1, T.c_Rule, T.n_Rule_parts, by show 0 < 1000; decide, ?_⟩⟩
      refine ⟨_, _, rfl, ⟨_, rfl, r, CR K, dx, _, rfl, upd_same, T.c_Rule, T.n_Rule_first, by show 1 < 1000; decide, ?_⟩⟩
      refine ⟨_, _, rfl, ⟨_, rfl, r, CR K, dx, _, rfl, upd_same, T.c_Rule, T.n_Rule_second, by show 2 < 1000; decide, rfl, ?_⟩⟩
      rw [upd_upd, upd_upd]
      generalize hH4 : upd H3 r (.ins (CR K) dx (putF "second" (.int c) (putF "first" (.int b) (putF "parts" (.int a) [])))) = H4
      have h4 : H4 r = some (.ins (CR K) dx (putF "second" (.int c) (putF "first" (.int b) (putF "parts" (.int a) [])))) := by rw [← hH4]; exact upd_same
      have k4 : ∀ x o, H x = some o → x ≠ r → H4 x = some o := fun x o e ne => by rw [← hH4, upd_ne ne]; exact k3 x o (.inl e)
      -- the comprehension
      refine ⟨_, rfl, _, _, rfl, rfl, 1, (a : Int) + 1, rfl, ⟨by omega, by omega, by omega, by omega⟩, fun D hD => ?_⟩
      refine lc_range (lo := 1) (n := ((a : Int) + 1 - 1).toNat) (Cw H4 (fun i => decide (a % (i + 1) = 0)) (fun i => V.int (1 + (i : Int))) D) ⟨hD, Ex.new hD, upd_same⟩ (fun i H5 hi p => ?_) (fun H5 p => ?_)
      · refine ⟨rfl, cw_turn p (by omega) (fun H1 e Q q => ?_) (fun _ H1 e Q q => ⟨_, rfl, q H1 (Ex.refl H1)⟩)⟩
        refine ⟨_, rfl, .inl ⟨_, rfl, _, rfl, _, _, rfl, rfl, by omega, ?_⟩⟩
        refine ⟨rfl, _, rfl, ?_⟩
        have e0 : (a : Int) % (1 + (i : Int)) = ((a % (i + 1) : Nat) : Int) := by
          rw [show (1 + (i : Int)) = ((i + 1 : Nat) : Int) by omega]
          exact (Int.natCast_emod a (i + 1)).symm
        have e2 : decide (V.int ((a : Int) % (1 + (i : Int))) = V.int 0) = decide (a % (i + 1) = 0) := by
          rw [e0]
          exact decide_eq_decide.mpr ⟨fun z => by injection z with z; exact Int.ofNat.inj z, fun z => by rw [z]; rfl⟩
        rw [e2]
        exact q H1 (Ex.refl H1)
      · obtain ⟨p1, p2, p3⟩ := p
        have eN : ((a : Int) + 1 - 1).toNat = a := by omega
        rw [eN] at p3
        refine ⟨D, _, rfl, .inl ⟨SqL.of p3, fun l hl => ?_⟩⟩
        have hr5 := p2 r _ h4
        have nlr : l ≠ r := (ne_of_none hr5 hl).symm
        refine ⟨_, rfl, r, CR K, dx, _, rfl, by rw [upd_ne nlr.symm]; exact hr5, T.c_Rule, T.n_Rule_moduli, by show 3 < 1000; decide, ?_⟩
        rw [rf4_put]
        refine q _ ⟨dx, l, upd_same, by rw [upd_ne nlr, upd_same]; rfl⟩ fun x o e ne => ?_
        have e5 := p2 x o (k4 x o e ne)
        rw [upd_ne ne, upd_ne (ne_of_none e5 hl)]
        exact e5
end
end K81

set_option Elab.async false
set_option linter.all false
set_option maxRecDepth 100000
set_option maxHeartbeats 4000000
namespace K81
open PySem PySem.Spec PyProof.Rows L2 Bk Evl
/-! ### heaps -/
section
variable {K : PySem.W.Frag}
def Ext (H H' : Hp) : Prop := ∀ x o, H x = some o → H' x = some o
theorem Ext.refl (H : Hp) : Ext H H := fun _ _ e => e
theorem Ext.trans {H1 H2 H3 : Hp} (a : Ext H1 H2) (b : Ext H2 H3) : Ext H1 H3 := fun x o e => b x o (a x o e)
theorem Ext.new {H : Hp} {p : Addr} (h : H p = none) (o : HO) : Ext H (upd H p o) := fun x o' e => by rw [upd_ne (ne_of_none e h)]; exact e
/-- an object that H does not know may change -/
theorem Ext.mut {H H' : Hp} {p : Addr} (e : Ext H H') (h : H p = none) (o : HO) : Ext H (upd H' p o) := fun x u a => by
  rw [upd_ne (ne_of_none a h)]
  exact e x u a
def But (b : Addr) (H H' : Hp) : Prop := ∀ x o, H x = some o → x ≠ b → H' x = some o
theorem Ext.but {H H' : Hp} (k : Ext H H') (b : Addr) : But b H H' := fun x o e _ => k x o e
theorem But.refl (b : Addr) (H : Hp) : But b H H := fun _ _ e _ => e
theorem But.trans {b : Addr} {H1 H2 H3 : Hp} (k : But b H1 H2) (j : But b H2 H3) : But b H1 H3 := fun x o e n => j x o (k x o e n) n
theorem sql_at {H H' : Hp} {a : Addr} {xs : List V} (h : SqL K H a xs) (k : ∀ o, H a = some o → H' a = some o) : SqL K H' a xs := by
  rcases h with (h | ⟨o, h⟩) | h
  · exact .inl (.inl (k _ h))
  · exact .inl (.inr ⟨o, k _ h⟩)
  · exact .inr h
theorem sqt_at {H H' : Hp} {a : Addr} {xs : List V} (h : SqT K H a xs) (k : ∀ o, H a = some o → H' a = some o) : SqT K H' a xs := by
  rcases h with (h | ⟨o, h⟩) | h
  · exact .inl (.inl (k _ h))
  · exact .inl (.inr ⟨o, k _ h⟩)
  · exact .inr h
theorem sqt_ext {H H' : Hp} {a : Addr} {xs : List V} (h : SqT K H a xs) (k : Ext H H') : SqT K H' a xs := sqt_at h fun o e => k _ o e
theorem sql_ext {H H' : Hp} {a : Addr} {xs : List V} (h : SqL K H a xs) (k : Ext H H') : SqL K H' a xs := sql_at h fun o e => k _ o e
theorem tyx_tup {H : Hp} {a : Addr} {xs : List V} (h : SqT K H a xs) : TyX K H (.ref a) (.type "tuple") := by
  rcases h with (h | ⟨o, h⟩) | ⟨o, its, n, lk, c, _⟩
  · exact .base (.tup h)
  · exact .fTuple h
  · exact .kTuple lk c
theorem kit_tt : PySem.W.kitOne K (.type "tuple") (.type "tuple") = some true := by rfl
theorem kit_self (C : Addr) : PySem.W.kitOne K (.ref C) (.ref C) = some true := by
  unfold PySem.W.kitOne
  rw [if_pos (by simp)]
theorem ru {k : Nat} {A : Around} (h : Room k A) : A.units + 1 < cLine := by have := h.units; omega
theorem small_line {n : Nat} (h : n ≤ 1000) : n ≤ sizeLine := Nat.le_trans h (by decide)
theorem small_lt {n : Nat} (h : n < 100000) : n < sizeLine := Nat.lt_of_lt_of_le h (by decide)
/-! ### tuples of pairs of ints -/
abbrev Prs : Type := List (Int × Int)
def PairsAt (K : PySem.W.Frag) (H : Hp) (t : Addr) (l : Prs) : Prop := ∃ ps : List Addr, PlT K H t (ps.map V.ref) ∧ Paired (fun p (q : Int × Int) => SqT K H p [.int q.1, .int q.2]) ps l
theorem PairsAt.sq {H : Hp} {t : Addr} {l : Prs} (p : PairsAt K H t l) : ∃ ps : List Addr, SqT K H t (ps.map V.ref) ∧ Paired (fun p (q : Int × Int) => SqT K H p [.int q.1, .int q.2]) ps l :=
  let ⟨ps, h1, h2⟩ := p
  ⟨ps, h1.sqt, h2⟩
theorem PairsAt.ext {H H' : Hp} {t : Addr} {l : Prs} (p : PairsAt K H t l) (k : Ext H H') : PairsAt K H' t l := by
  obtain ⟨ps, h1, h2⟩ := p
  exact ⟨ps, h1.mono fun o u e => k _ _ e, L2.Paired.mapP h2 fun _ _ z => sqt_ext z k⟩
theorem paired_at {α β : Type} {F : α → β → Prop} : ∀ {xs : List α} {ys : List β}, Paired F xs ys → ∀ (i : Nat) (x : α), xs[i]? = some x → ∃ y, ys[i]? = some y ∧ F x y
  | _, _, .nil, i, x, h => by simp at h
  | _, _, .cons a t, 0, x, h => ⟨_, rfl, by simp at h; rw [← h]; exact a⟩
  | _, _, .cons a t, i + 1, x, h => by
    obtain ⟨y, h1, h2⟩ := paired_at t i x (by simpa using h)
    exact ⟨y, by simpa using h1, h2⟩
end
section
variable {P : Program} {w : World} {K : PySem.W.Frag} {mg : Str → Option Value} {base : Heap}
/-! ### check_rule, check_value, check_pair -/
def CN (K : PySem.W.Frag) : Addr := He.ga K "Number"
def nf (t : Addr) (v : V) : List (Str × V) := [("factors", V.ref t), ("value", v)]
theorem nf_put (t : Addr) (v : V) : putF "value" v (putF "factors" (.ref t) []) = nf t v := by rfl
theorem nf_put2 (t t' : Addr) (v v' : V) : putF "value" v' (putF "factors" (.ref t') (nf t v)) = nf t' v' := by rfl
theorem nf_factors (t : Addr) (v : V) : (nf t v).lookup ("factors" : Str) = some (.ref t) := by rfl
theorem nf_value (t : Addr) (v : V) : (nf t v).lookup ("value" : Str) = some v := by rfl
/-- a Number with factors l and a value -/
structure NumAt (K : PySem.W.Frag) (H : Hp) (n : Addr) (l : Prs) (v : V) : Prop where
  ex : ∃ dx t, H n = some (.ins (CN K) dx (nf t v)) ∧ PairsAt K H t l
theorem NumAt.ext {H H' : Hp} {n : Addr} {l : Prs} {v : V} (N : NumAt K H n l v) (k : Ext H H') : NumAt K H' n l v := by
  obtain ⟨dx, t, h1, h2⟩ := N.ex
  exact ⟨dx, t, k _ _ h1, h2.ext k⟩
theorem RuleAt.ext {H H' : Hp} {r : Addr} {a b c : Nat} (R : RuleAt K H r a b c) (k : Ext H H') : RuleAt K H' r a b c := by
  obtain ⟨dx, m, h1, h2⟩ := R.ex
  exact ⟨dx, m, k _ _ h1, k _ _ h2⟩
def spCheckRule (K : PySem.W.Frag) : Sp := fun vs H Q _ => ∃ (r dx : Addr) (fs : List (Str × V)), vs = [.ref r] ∧ H r = some (.ins (CR K) dx fs) ∧ Q .non H
theorem sc_check_rule : FnScope ["value"] ["value"] (defScope s_check_rule) := ⟨rfl, rfl, rfl, by decide +kernel, rfl, by decide +kernel, by decide +kernel⟩
theorem ok_check_rule (T : Txt K mg) : Ok P w K mg base 1 (He.ga K "check_rule") ["value"] (spCheckRule K) := by
  refine fd_ok T.f_check_rule sc_check_rule (fun vs H Q E h => ?_) (fun _ _ _ _ _ _ us hl => match us, hl with | [_], _ => rfl) (fun cdv A outer s H vs Q E hr h => ?_)
  · obtain ⟨r, dx, fs, rfl, _⟩ := h
    rfl
  · obtain ⟨r, dx, fs, rfl, h1, q⟩ := h
    refine ⟨_, pss_one (ps_if (pt_not (pt_val (pe_callB call_isi rfl T.z_isinstance (by decide +kernel) (pa_cons (pv 0) (pa_cons (pe_glob (v := .ref (CR K)) rfl T.g_Rule rfl) pa_nil))))) (pss_one ps_never) pss_nil), ?_⟩
    refine ⟨_, rfl, _, _, _, _, true, rfl, .own _, .base (T.ty_Rule h1), kit_self _, true, rfl, ?_⟩
    exact iteF q
def spCheckValue (K : PySem.W.Frag) : Sp := fun vs H Q _ => ∃ (r dx : Addr) (fs : List (Str × V)), vs = [.ref r] ∧ H r = some (.ins (CN K) dx fs) ∧ Q .non H
theorem sc_check_value : FnScope ["value"] ["value"] (defScope s_check_value) := ⟨rfl, rfl, rfl, by decide +kernel, rfl, by decide +kernel, by decide +kernel⟩
theorem ok_check_value (T : Txt K mg) : Ok P w K mg base 1 (He.ga K "check_value") ["value"] (spCheckValue K) := by
  refine fd_ok T.f_check_value sc_check_value (fun vs H Q E h => ?_) (fun _ _ _ _ _ _ us hl => match us, hl with | [_], _ => rfl) (fun cdv A outer s H vs Q E hr h => ?_)
  · obtain ⟨r, dx, fs, rfl, _⟩ := h
    rfl
  · obtain ⟨r, dx, fs, rfl, h1, q⟩ := h
    refine ⟨_, pss_one (ps_if (pt_not (pt_val (pe_callB call_isi rfl T.z_isinstance (by decide +kernel) (pa_cons (pv 0) (pa_cons (pe_glob (v := .ref (CN K)) rfl T.g_Number rfl) pa_nil))))) (pss_one ps_never) pss_nil), ?_⟩
    refine ⟨_, rfl, _, _, _, _, true, rfl, .own _, .base (T.ty_Number h1), kit_self _, true, rfl, ?_⟩
    exact iteF q
def spCheckPair (K : PySem.W.Frag) : Sp := fun vs H Q _ => ∃ (r n : Addr) (a b c : Nat) (l : Prs) (v : V), vs = [.ref r, .ref n] ∧ RuleAt K H r a b c ∧ NumAt K H n l v ∧ Q .non H
theorem sc_check_pair : FnScope ["rule", "number"] ["rule", "number"] (defScope s_check_pair) := ⟨rfl, rfl, rfl, by decide +kernel, rfl, by decide +kernel, by decide +kernel⟩
theorem ok_check_pair (T : Txt K mg) : Ok P w K mg base 2 (He.ga K "check_pair") ["rule", "number"] (spCheckPair K) := by
  obtain ⟨fd1, F1, b1, k1, _⟩ := (ok_check_rule (P := P) (w := w) (base := base) T).ex
  obtain ⟨fd2, F2, b2, k2, _⟩ := (ok_check_value (P := P) (w := w) (base := base) T).ex
  refine fd_ok T.f_check_pair sc_check_pair (fun vs H Q E h => ?_) (fun _ _ _ _ _ _ us hl => match us, hl with | [_, _], _ => rfl) (fun cdv A outer s H vs Q E hr h => ?_)
  · obtain ⟨r, n, a, b, c, l, v, rfl, _⟩ := h
    rfl
  · obtain ⟨r, n, a, b, c, l, v, rfl, R, N, q⟩ := h
    obtain ⟨dx, m, h1, _⟩ := R.ex
    obtain ⟨dy, t, h2, _⟩ := N.ex
    exact ⟨_, pss_cons (ps_expr (pe_call F1 hr rfl T.g_check_rule k1 b1 .nil pass0 (pa_cons (pv 0) pa_nil))) (pss_one (ps_expr (pe_call F2 hr rfl T.g_check_value k2 b2 .nil pass0 (pa_cons (pv 1) pa_nil)))),
      ⟨_, rfl, r, dx, _, rfl, h1, _, rfl, n, dy, _, rfl, h2, q⟩⟩
end
end K81

set_option Elab.async false
set_option linter.all false
set_option maxRecDepth 100000
set_option maxHeartbeats 4000000
namespace K81
open PySem PySem.Spec PyProof.Rows L2 Bk Evl
/-! ### primes -/
def primeGo (v : Nat) : Nat → Nat → Bool
  | 0, _ => true
  | f + 1, p => if p * p ≤ v then (if v % p = 0 then false else primeGo v f (p + 2)) else true
def primeB (v : Nat) : Bool := if v < 4 then decide (1 < v) else if v % 2 = 0 then false else primeGo v 500 3
section
variable {P : Program} {w : World} {K : PySem.W.Frag} {mg : Str → Option Value} {base : Heap}
def spIsPrime : Sp := fun vs H Q _ => ∃ n : Nat, vs = [.int n] ∧ n ≤ 1000000 ∧ Q (.bl (primeB n)) H
theorem sc_is_prime : FnScope ["value", "part"] ["value"] (defScope s_is_prime) := ⟨rfl, rfl, rfl, by decide +kernel, rfl, by decide +kernel, by decide +kernel⟩
theorem ok_is_prime (T : Txt K mg) : Ok P w K mg base 1 (He.ga K "is_prime") ["value"] spIsPrime := by
  refine fd_ok T.f_is_prime sc_is_prime (fun vs H Q E h => ?_) (fun _ _ _ _ _ _ us hl => match us, hl with | [_], _ => rfl) (fun cdv A outer s H vs Q E hr h => ?_)
  · obtain ⟨n, rfl, _⟩ := h
    rfl
  · obtain ⟨n, rfl, hn, q⟩ := h
    have nd := sc_is_prime.nd
    refine ⟨_, pss_cons (ps_if (pt_cmpR op_lt (pv 0) pe_int (nomark _)) (pss_one (ps_ret (pe_cmpR op_gt (pv 0) pe_int (nomark _)))) pss_nil)
      (pss_cons (ps_if (pt_cmpR op_eq (pe_op op_mod (pe_callTy call_int1 rfl T.z_int (by decide +kernel) (pa_cons (pv 0) pa_nil)) pe_int) pe_int (nomark _)) (pss_one (ps_ret pe_bl)) pss_nil)
      (pss_cons (ps_set (i := 1) nd rfl (Or.inl rfl) pe_int)
      (pss_cons (ps_while PassesOwn.never (pt_cmpR op_le (pe_op op_mul (pv 1) (pv 1)) (pv 0) (nomark _))
        (pss_cons (ps_if (pt_cmpR op_eq (pe_op op_mod (pe_callTy call_int1 rfl T.z_int (by decide +kernel) (pa_cons (pv 0) pa_nil)) (pv 1)) pe_int (nomark _)) (pss_one (ps_ret pe_bl)) pss_nil)
        (pss_one (ps_set (i := 1) nd rfl (Or.inl rfl) (pe_op op_add (pv 1) pe_int)))))
      (pss_one (ps_ret pe_bl))))), ?_⟩
    unfold primeB at q
    refine ⟨_, rfl, _, _, rfl, rfl, _, rfl, ?_⟩
    refine ite2 (fun h4 => ?_) (fun h4 => ?_)
    · have h4' : n < 4 := by have := of_decide_eq_true h4; omega
      rw [if_pos h4'] at q
      refine ⟨_, rfl, _, _, rfl, rfl, ?_⟩
      rw [show decide (1 < n) = decide ((1 : Int) < (n : Int)) from decide_eq_decide.mpr (by omega)] at q
      exact q
    · have h4' : ¬ n < 4 := fun z => h4 (decide_eq_true (by omega))
      rw [if_neg h4'] at q
      refine ⟨_, rfl, .inl ⟨_, rfl, _, _, rfl, rfl, (show (0 : Int) < 2 by decide), rfl, _, rfl, ?_⟩⟩
      have em : ∀ p : Nat, decide (V.int ((n : Int) % (p : Int)) = V.int 0) = decide (n % p = 0) := fun p => by
        rw [show (n : Int) % (p : Int) = ((n % p : Nat) : Int) from (Int.natCast_emod n p).symm]
        exact decide_eq_decide.mpr ⟨fun z => by injection z with z; exact Int.ofNat.inj z, fun z => by rw [z]; rfl⟩
      have e2 := em 2
      show if decide (V.int ((n : Int) % ((2 : Nat) : Int)) = V.int 0) = true then _ else _
      rw [e2]
      refine ite2 (fun hm => ?_) (fun hm => ?_)
      · rw [if_pos (of_decide_eq_true hm)] at q
        exact q
      · rw [if_neg (fun z => hm (decide_eq_true z))] at q
        refine ⟨fun m σ H' => ∃ p f : Nat, σ = [some (.int n), some (.int p)] ∧ H' = H ∧ 3 ≤ p ∧ p ≤ 1003 ∧ 1003 ≤ 2 * f + p ∧ m = f ∧ Q (.bl (primeGo n f p)) H, ⟨500, 3, 500, rfl, rfl, by omega, by omega, by omega, rfl, q⟩, ?_⟩
        rintro m σ H' ⟨p, f, rfl, rfl, hp, hp2, hf, rfl, q'⟩
        refine ⟨_, rfl, _, rfl, _, _, rfl, rfl, .inl ⟨by omega, by omega⟩, _, rfl, _, _, rfl, rfl, _, rfl, ?_⟩
        have epp : ((p : Int) * (p : Int)) = ((p * p : Nat) : Int) := (Int.natCast_mul p p).symm
        refine ite2 (fun hle => ?_) (fun hle => ?_)
        · have hle' : p * p ≤ n := by have := of_decide_eq_true hle; rw [epp] at this; omega
          have hp3 : p ≤ 1000 := by
            refine Classical.byContradiction fun z => ?_
            have : 1001 * 1001 ≤ p * p := Nat.mul_le_mul (by omega) (by omega)
            omega
          obtain ⟨f', rfl⟩ : ∃ f', m = f' + 1 := ⟨m - 1, by omega⟩
          unfold primeGo at q'
          rw [if_pos hle'] at q'
          refine ⟨fun σ H2 => ∃ p f : Nat, σ = [some (.int n), some (.int p)] ∧ H2 = H' ∧ 3 ≤ p ∧ p ≤ 1003 ∧ 1003 ≤ 2 * f + p ∧ f < f' + 1 ∧ Q (.bl (primeGo n f p)) H', fun σ H2 ⟨p, f, x1, x2, x3, x4, x5, x6, x7⟩ => ⟨f, x6, p, f, x1, x2, x3, x4, x5, rfl, x7⟩, ?_⟩
          refine ⟨_, rfl, .inl ⟨_, rfl, _, rfl, _, _, rfl, rfl, by omega, rfl, _, rfl, ?_⟩⟩
          rw [em p]
          refine ite2 (fun h0 => ?_) (fun h0 => ?_)
          · rw [if_pos (of_decide_eq_true h0)] at q'
            exact q'
          · rw [if_neg (fun z => h0 (decide_eq_true z))] at q'
            exact ⟨_, rfl, _, _, rfl, rfl, p + 2, f', rfl, rfl, by omega, by omega, by omega, by omega, q'⟩
        · have hle' : ¬ p * p ≤ n := fun z => hle (decide_eq_true (by rw [epp]; omega))
          have : primeGo n m p = true := by
            unfold primeGo
            cases m with
            | zero => rfl
            | succ k => exact if_neg hle'
          rw [this] at q'
          exact q'
end
end K81

set_option Elab.async false
set_option linter.all false
set_option maxRecDepth 100000
set_option maxHeartbeats 4000000
namespace K81
open PySem PySem.Spec PyProof.Rows L2 Bk Evl
/-! ### factors that are let -/
def FacOne (q : Int × Int) : Prop := ∃ p : Nat, q.1 = p ∧ 2 ≤ p ∧ p ≤ 1000000 ∧ primeB p = true ∧ 1 ≤ q.2 ∧ q.2 ≤ 10 ^ 30
structure FacOk (l : Prs) : Prop where
  len : l.length ≤ 12
  one : ∀ q ∈ l, FacOne q
  asc : l.Pairwise fun a b => a.1 < b.1
/-- the product of the factors -/
def prodP (l : Prs) : Int := l.foldl (fun a q => a * q.1 ^ q.2.toNat) 1
def valueP (l : Prs) : V := if l.any (fun q => decide (100 < q.2)) = true then .non else if prodP l ≤ 10 ^ 30 then .int (prodP l) else .non
section
variable {P : Program} {w : World} {K : PySem.W.Frag} {mg : Str → Option Value} {base : Heap}
def spIsFactor (K : PySem.W.Frag) : Sp := fun vs H Q _ => ∃ (p : Addr) (q : Int × Int), vs = [.ref p] ∧ SqT K H p [.int q.1, .int q.2] ∧ FacOne q ∧ Q (.bl true) H
theorem sc_is_factor : FnScope ["value"] ["value"] (defScope s_is_factor) := ⟨rfl, rfl, rfl, by decide +kernel, rfl, by decide +kernel, by decide +kernel⟩
theorem ok_is_factor (T : Txt K mg) : Ok P w K mg base 3 (He.ga K "is_factor") ["value"] (spIsFactor K) := by
  obtain ⟨fd_is_between, F_is_between, b_is_between, k_is_between, _⟩ := (ok_is_between (P := P) (w := w) (base := base) T).ex
  obtain ⟨fd_is_prime, F_is_prime, b_is_prime, k_is_prime, _⟩ := (ok_is_prime (P := P) (w := w) (base := base) T).ex
  obtain ⟨t_MOST_PRIME, m_MOST_PRIME⟩ := T.i_MOST_PRIME
  obtain ⟨t_MOST_EXPONENT, m_MOST_EXPONENT⟩ := T.i_MOST_EXPONENT
  refine fd_ok T.f_is_factor sc_is_factor (fun vs H Q E h => ?_) (fun _ _ _ _ _ _ us hl => match us, hl with | [_], _ => rfl) (fun cdv A outer s H vs Q E hr h => ?_)
  · obtain ⟨p, q, rfl, _⟩ := h
    rfl
  · obtain ⟨p, ⟨q1, q2⟩, rfl, hp, ⟨n, e, n1, n2, n3, n4, n5⟩, q⟩ := h
    have nd := sc_is_factor.nd
    refine ⟨_, (pss_cons (ps_if (PW.pt (pw_or (pt_not (pt_val (pe_callB call_isi rfl T.z_isinstance (by decide +kernel) (pa_cons (pv 0) (pa_cons (pe_bltn rfl T.z_tuple (by decide +kernel) (v := .ty "tuple") rfl) pa_nil))))) (pw_or (pt_cmpR op_ne (pe_callB call_len_seq rfl T.z_len (by decide +kernel) (pa_cons (pv 0) pa_nil)) pe_int (nomark _)) (pw_or1 (pt_not (pt_val (pe_call F_is_between (hr.mono (by decide)) rfl T.g_is_between k_is_between b_is_between .nil pass0 (pa_cons (pe_ix ix_tup (pv 0) pe_int (by intro _ _; rfl)) (pa_cons pe_int (pa_cons (pe_glob (v := .int 1000000) rfl m_MOST_PRIME ⟨_, rfl⟩) pa_nil)))))))))) (pss_one (ps_ret pe_bl)) pss_nil) (pss_one (ps_ret (pe_and (pe_call F_is_between (hr.mono (by decide)) rfl T.g_is_between k_is_between b_is_between .nil pass0 (pa_cons (pe_ix ix_tup (pv 0) pe_int (by intro _ _; rfl)) (pa_cons pe_int (pa_cons (pe_glob (v := .int (10 ^ 30)) rfl m_MOST_EXPONENT ⟨_, rfl⟩) pa_nil)))) (pe_one (pe_call F_is_prime (hr.mono (by decide)) rfl T.g_is_prime k_is_prime b_is_prime .nil pass0 (pa_cons (pe_ix ix_tup (pv 0) pe_int (by intro _ _; rfl)) pa_nil))))))), ?_⟩
    dsimp only at e n4 n5 hp
    subst e
    refine ⟨_, rfl, _, _, _, _, true, rfl, .ty _, tyx_tup hp, kit_tt, true, rfl, iteF ?_⟩
    refine ⟨_, rfl, p, _, rfl, .inr hp, rfl, _, rfl, iteF ?_⟩
    refine ⟨_, rfl, p, _, 0, _, rfl, rfl, hp, rfl, (n : Int), 2, 1000000, rfl, _, rfl, ?_⟩
    rw [decide_eq_true (show (2 : Int) ≤ n by omega), decide_eq_true (show (n : Int) ≤ 1000000 by omega)]
    refine iteF ?_
    refine ⟨_, rfl, p, _, 1, _, rfl, rfl, hp, rfl, q2, 1, 10 ^ 30, rfl, _, rfl, ?_⟩
    rw [decide_eq_true n4, decide_eq_true n5]
    refine iteT ⟨_, rfl, p, _, 0, _, rfl, rfl, hp, rfl, n, rfl, n2, ?_⟩
    rw [n3]
    exact q

/-! ### check_factors -/
def spCheckFac (K : PySem.W.Frag) : Sp := fun vs H Q _ => ∃ (t : Addr) (l : Prs), vs = [.ref t] ∧ PairsAt K H t l ∧ FacOk l ∧ ∀ H', Ext H H' → Q .non H'
theorem sc_check_factors : FnScope ["factors", "last", "index", "factor"] ["factors"] (defScope s_check_factors) := ⟨rfl, rfl, rfl, by decide +kernel, rfl, by decide +kernel, by decide +kernel⟩
theorem ok_check_factors (T : Txt K mg) : Ok P w K mg base 4 (He.ga K "check_factors") ["factors"] (spCheckFac K) := by
  obtain ⟨fd_is_factor, F_is_factor, b_is_factor, k_is_factor, _⟩ := (ok_is_factor (P := P) (w := w) (base := base) T).ex
  obtain ⟨t_MOST_PRIMES, m_MOST_PRIMES⟩ := T.i_MOST_PRIMES
  refine fd_ok T.f_check_factors sc_check_factors (fun vs H Q E h => ?_) (fun _ _ _ _ _ _ us hl => match us, hl with | [_], _ => rfl) (fun cdv A outer s H vs Q E hr h => ?_)
  · obtain ⟨t, l, rfl, _⟩ := h
    rfl
  · obtain ⟨t, l, rfl, hp, ok, q⟩ := h
    have nd := sc_check_factors.nd
    refine ⟨_, (pss_cons (ps_if (pt_not (pt_val (pe_callB call_isi rfl T.z_isinstance (by decide +kernel) (pa_cons (pv 0) (pa_cons (pe_bltn rfl T.z_tuple (by decide +kernel) (v := .ty "tuple") rfl) pa_nil))))) (pss_one ps_never) pss_nil) (pss_cons (ps_set (i := 1) nd rfl (Or.inl rfl) pe_int) (pss_one (ps_for PassesOwn.never rfl (pi_enumT rfl T.z_enumerate (pa_cons (pv 0) pa_nil)) (pg_tup rfl (pgs_cons (pg_name (i := 2) nd rfl (Or.inl rfl)) (pgs_cons (pg_name (i := 3) nd rfl (Or.inl rfl)) pgs_nil))) (pss_cons (ps_if (PW.pt (pw_or (pt_cmpR op_eq (pv 2) (pe_glob (v := .int 12) rfl m_MOST_PRIMES ⟨_, rfl⟩) (nomark _)) (pw_or (pt_not (pt_val (pe_call F_is_factor (hr.mono (by decide)) rfl T.g_is_factor k_is_factor b_is_factor .nil pass0 (pa_cons (pv 3) pa_nil)))) (pw_or1 (pt_cmpR op_le (pe_ix ix_tup (pv 3) pe_int (by intro _ _; rfl)) (pv 1) (nomark _)))))) (pss_one ps_never) pss_nil) (pss_one (ps_set (i := 1) nd rfl (Or.inl rfl) (pe_ix ix_tup (pv 3) pe_int (by intro _ _; rfl))))))))), ?_⟩
    obtain ⟨ps, h1, h2⟩ := hp.sq
    have hlen : (ps.map V.ref).length = l.length := by rw [List.length_map, h2.length]
    refine ⟨_, rfl, _, _, _, _, true, rfl, .ty _, tyx_tup h1, kit_tt, true, rfl, iteF ?_⟩
    refine ⟨_, rfl, t, ps.map V.ref, rfl, h1, ?_⟩
    refine for_enumT (xs := ps.map V.ref) (fun i σ H' => ∃ (last : Int) (u v : Option V), σ = [some (.ref t), some (.int last), u, v] ∧ Ext H H' ∧ (∀ (j : Nat) (q : Int × Int), i ≤ j → l[j]? = some q → last < q.1)) ⟨1, _, _, rfl, Ext.refl H, fun j q _ hq => ?_⟩ ?_ ?_ ?_
    · obtain ⟨n, e, n1, _⟩ := ok.one q (List.mem_of_getElem? hq)
      rw [e]
      omega
    · rintro i σ H' _ ⟨last, u, v, rfl, e, _⟩
      exact sqt_ext h1 e
    · rintro i x T' σ H' hx ⟨last, u, v, rfl, e, hlast⟩ hT
      rw [List.getElem?_map] at hx
      obtain ⟨p, hpi, rfl⟩ := Option.map_eq_some_iff.mp hx
      obtain ⟨qq, hq, hsq⟩ := paired_at h2 i p hpi
      have e2 := e.trans (Ext.new hT (.tup [.int (i : Nat), .ref p]))
      have il : i < l.length := (List.getElem?_eq_some_iff.mp hq).1
      have ol := ok.len
      refine ⟨T', _, rfl, SqT.of upd_same, rfl, _, _, rfl, _, _, rfl, rfl, ?_⟩
      refine ⟨_, rfl, rfl, _, rfl, ?_⟩
      rw [decide_eq_false (show ¬ (V.int (i : Nat) = V.int 12) from fun z => by injection z with z; omega)]
      refine iteF ⟨_, rfl, p, qq, rfl, sqt_ext hsq e2, ok.one qq (List.mem_of_getElem? hq), _, rfl, iteF ?_⟩
      refine ⟨_, rfl, p, _, 0, _, rfl, rfl, sqt_ext hsq e2, rfl, _, rfl, _, _, rfl, rfl, _, rfl, ?_⟩
      rw [decide_eq_false (show ¬ qq.1 ≤ last by have := hlast i qq (Nat.le_refl i) hq; omega)]
      refine iteF ⟨_, rfl, p, _, 0, _, rfl, rfl, sqt_ext hsq e2, rfl, ?_⟩
      refine ⟨qq.1, _, _, rfl, e2, fun j q' hj hq' => ?_⟩
      have hj' : j < l.length := (List.getElem?_eq_some_iff.mp hq').1
      have a1 : l[i] = qq := (List.getElem?_eq_some_iff.mp hq).2
      have a2 : l[j] = q' := (List.getElem?_eq_some_iff.mp hq').2
      rw [← a1, ← a2]
      exact List.pairwise_iff_getElem.mp ok.asc i j il hj' (by omega)
    · rintro σ H' ⟨last, u, v, rfl, e, _⟩
      exact q H' e
end
end K81

set_option Elab.async false
set_option linter.all false
set_option maxRecDepth 100000
set_option maxHeartbeats 4000000
namespace K81
open PySem PySem.Spec PyProof.Rows L2 Bk Evl
theorem prodP_take (l : Prs) (i : Nat) (q : Int × Int) (h : l[i]? = some q) : prodP (l.take (i + 1)) = prodP (l.take i) * q.1 ^ q.2.toNat := by
  unfold prodP
  rw [List.take_add_one, h, List.foldl_append]
  rfl
section
variable {P : Program} {w : World} {K : PySem.W.Frag} {mg : Str → Option Value} {base : Heap}
/-! ### value_of -/
def spValueOf (K : PySem.W.Frag) : Sp := fun vs H Q _ => ∃ (t : Addr) (l : Prs), vs = [.ref t] ∧ PairsAt K H t l ∧ (∀ q ∈ l, FacOne q) ∧ Q (valueP l) H
theorem sc_value_of : FnScope ["factors", "found", "prime", "exponent", "step"] ["factors"] (defScope s_value_of) := ⟨rfl, rfl, rfl, by decide +kernel, rfl, by decide +kernel, by decide +kernel⟩
theorem ok_value_of (T : Txt K mg) : Ok P w K mg base 1 (He.ga K "value_of") ["factors"] (spValueOf K) := by
  obtain ⟨t_LONG_EXPONENT, m_LONG_EXPONENT⟩ := T.i_LONG_EXPONENT
  obtain ⟨t_MOST_VALUE, m_MOST_VALUE⟩ := T.i_MOST_VALUE
  refine fd_ok T.f_value_of sc_value_of (fun vs H Q E h => ?_) (fun _ _ _ _ _ _ us hl => match us, hl with | [_], _ => rfl) (fun cdv A outer s H vs Q E hr h => ?_)
  · obtain ⟨t, l, rfl, _⟩ := h
    rfl
  · obtain ⟨t, l, rfl, hp, ok, q⟩ := h
    have nd := sc_value_of.nd
    refine ⟨_, (pss_cons (ps_set (i := 1) nd rfl (Or.inl rfl) pe_int) (pss_cons (ps_for PassesOwn.never rfl (pi_tup (pv 0)) (pg_tup rfl (pgs_cons (pg_name (i := 2) nd rfl (Or.inl rfl)) (pgs_cons (pg_name (i := 3) nd rfl (Or.inl rfl)) pgs_nil))) (pss_cons (ps_if (pt_cmpR op_gt (pv 3) (pe_glob (v := .int 100) rfl m_LONG_EXPONENT ⟨_, rfl⟩) (nomark _)) (pss_one (ps_ret pe_non)) pss_nil) (pss_one (ps_for PassesOwn.never rfl (pi_range1 rfl T.z_range (pa_cons (pv 3) pa_nil)) (pg_name (i := 4) nd rfl (Or.inl rfl)) (pss_one (ps_set (i := 1) nd rfl (Or.inl rfl) (pe_op op_mul (pv 1) (pv 2)))))))) (pss_one (ps_ret (pe_ifExp (pt_cmpR op_le (pv 1) (pe_glob (v := .int (10 ^ 30)) rfl m_MOST_VALUE ⟨_, rfl⟩) (nomark _)) (pv 1) pe_non))))), ?_⟩
    obtain ⟨ps, h1, h2⟩ := hp.sq
    refine ⟨_, rfl, t, rfl, ⟨_, h1⟩, ?_⟩
    refine for_tup (xs := ps.map V.ref) (fun i σ H' => ∃ (u v x : Option V), σ = [some (.ref t), some (.int (prodP (l.take i))), u, v, x] ∧ H' = H ∧ ∀ q ∈ l.take i, q.2 ≤ 100) ⟨_, _, _, rfl, rfl, fun q h => by simp at h⟩ ?_ ?_ ?_
    · rintro i σ H' _ ⟨u, v, x, rfl, rfl, _⟩
      exact h1
    · rintro i x σ H' hx ⟨u, v, y, rfl, rfl, hs⟩
      rw [List.getElem?_map] at hx
      obtain ⟨p, hpi, rfl⟩ := Option.map_eq_some_iff.mp hx
      obtain ⟨⟨q1, q2⟩, hq, hsq⟩ := paired_at h2 i p hpi
      have hm := List.mem_of_getElem? hq
      obtain ⟨n, e, n1, n2, n3, n4, n5⟩ := ok _ hm
      dsimp only at e n4 n5 hsq
      subst e
      refine ⟨p, _, rfl, hsq, rfl, _, _, rfl, _, _, rfl, rfl, ?_⟩
      refine ⟨_, rfl, _, _, rfl, rfl, _, rfl, ?_⟩
      refine ite2 (fun hg => ?_) (fun hg => ?_)
      · have hg' : 100 < q2 := of_decide_eq_true hg
        have hv : valueP l = .non := by
          unfold valueP
          rw [if_pos (List.any_eq_true.mpr ⟨_, hm, decide_eq_true hg'⟩)]
        rw [hv] at q
        exact q
      · have hg' : q2 ≤ 100 := Int.not_lt.mp fun z => hg (decide_eq_true z)
        refine ⟨_, rfl, q2, rfl, by omega, by omega, ?_⟩
        refine for_range (fun j σ H2 => ∃ y, σ = [some (.ref t), some (.int (prodP (l.take i) * (n : Int) ^ j)), some (.int n), some (.int q2), y] ∧ H2 = H') ⟨_, by rw [Int.pow_zero, Int.mul_one]; rfl, rfl⟩ ?_ ?_
        · rintro j σ H' hj ⟨y, rfl, rfl⟩
          refine ⟨_, rfl, _, rfl, _, _, rfl, rfl, .inr ⟨by omega, by omega⟩, ?_⟩
          refine ⟨some (.int (0 + (j : Int))), ?_, rfl⟩
          rw [Int.pow_succ, ← Int.mul_assoc]
          rfl
        · rintro σ H' ⟨y, rfl, rfl⟩
          refine ⟨some (.int n), some (.int q2), y, ?_, rfl, fun q' hq' => ?_⟩
          · rw [prodP_take l i _ hq]
          · rw [List.take_add_one, hq] at hq'
            rcases List.mem_append.mp hq' with h | h
            · exact hs q' h
            · have : q' = ((n : Int), q2) := by simpa using h
              rw [this]
              exact hg'
    · rintro σ H' ⟨u, v, x, rfl, rfl, hs⟩
      have hl : (ps.map V.ref).length = l.length := by rw [List.length_map, h2.length]
      rw [hl, List.take_length] at hs ⊢
      have ha : l.any (fun q => decide (100 < q.2)) = false := by
        rw [List.any_eq_false]
        intro q' hq'
        have := hs q' hq'
        simp only [decide_eq_true_eq]
        omega
      unfold valueP at q
      rw [ha, if_neg Bool.false_ne_true] at q
      refine ⟨_, rfl, _, _, rfl, rfl, _, rfl, ?_⟩
      refine ite2 (fun h => ?_) (fun h => ?_)
      · rw [if_pos (of_decide_eq_true h)] at q
        exact ⟨_, rfl, q⟩
      · rw [if_neg (fun z => h (decide_eq_true z))] at q
        exact q
end
end K81

set_option Elab.async false
set_option linter.all false
set_option maxRecDepth 100000
set_option maxHeartbeats 4000000
namespace K81
open PySem PySem.Spec PyProof.Rows L2 Bk Evl
section
variable {P : Program} {w : World} {K : PySem.W.Frag} {mg : Str → Option Value} {base : Heap}
theorem but_of_upd {H : Hp} {n : Addr} {o : HO} : But n H (upd H n o) := fun x u e ne => by rw [upd_ne ne]; exact e
theorem sqt_but {H H' : Hp} {a n C dx : Addr} {fs : List (Str × V)} {xs : List V} (h : SqT K H a xs) (k : But n H H') (hn : H n = some (.ins C dx fs)) : SqT K H' a xs := by
  rcases h with (h | ⟨u, h⟩) | h
  · exact .inl (.inl (k _ _ h (ne_of h hn (by intro z; cases z))))
  · exact .inl (.inr ⟨u, k _ _ h (ne_of h hn (by intro z; cases z))⟩)
  · exact .inr h
theorem PairsAt.but {H H' : Hp} {t n C dx : Addr} {fs : List (Str × V)} {l : Prs} (p : PairsAt K H t l) (k : But n H H') (hn : H n = some (.ins C dx fs)) : PairsAt K H' t l := by
  obtain ⟨ps, h1, h2⟩ := p
  exact ⟨ps, h1.mono fun o u e => k _ _ e (ne_of e hn (by intro z; cases z)), L2.Paired.mapP h2 fun _ _ z => sqt_but z k hn⟩
/-! ### Number(factors) -/
def spNumInit (K : PySem.W.Frag) : Sp := fun vs H Q _ => ∃ (n t dx : Addr) (l : Prs), vs = [.ref n, .ref t] ∧ H n = some (.ins (CN K) dx []) ∧ PairsAt K H t l ∧ FacOk l ∧ ∀ H', H' n = some (.ins (CN K) dx (nf t (valueP l))) → But n H H' → Q .non H'
theorem sc_Number_init : FnScope ["self", "factors"] ["self", "factors"] (defScope s_Number_uuinit__) := ⟨rfl, rfl, rfl, by decide +kernel, rfl, by decide +kernel, by decide +kernel⟩
theorem ok_Number_init_w (T : Txt K mg) : OkW P w K mg base 5 (He.ma K (He.ga K "Number") "__init__") ["self", "factors"] [.ref (He.dflAt ("Number", some "__init__") 0 K)] (spNumInit K) := by
  obtain ⟨fd_check_factors, F_check_factors, b_check_factors, k_check_factors, _⟩ := (ok_check_factors (P := P) (w := w) (base := base) T).ex
  obtain ⟨fd_value_of, F_value_of, b_value_of, k_value_of, _⟩ := (ok_value_of (P := P) (w := w) (base := base) T).ex
  refine fd_okW T.f_Number_uuinit__ (by simp) 1 rfl sc_Number_init (fun vs H Q E h => ?_) (fun _ _ _ _ _ _ _ us its hl hi => match us, hl, its, hi with | [_, _], _, [_], _ => ⟨_, rfl, rfl⟩) (fun _ _ _ _ _ _ _ us its hl hi => match us, hl, its, hi with | [_], _, [_], _ => ⟨_, rfl, rfl⟩) (fun cdv A outer s H vs Q E hr h => ?_)
  · obtain ⟨n, t, dx, l, rfl, _⟩ := h
    rfl
  · obtain ⟨n, t, dx, l, rfl, hn, hp, ok, q⟩ := h
    have nd := sc_Number_init.nd
    refine ⟨_, (pss_cons (ps_expr (pe_call F_check_factors (hr.mono (by decide)) rfl T.g_check_factors k_check_factors b_check_factors .nil pass0 (pa_cons (pv 1) pa_nil))) (pss_one (ps_asg (pe_tup (pa_cons (pv 1) (pa_cons (pe_call F_value_of (hr.mono (by decide)) rfl T.g_value_of k_value_of b_value_of .nil pass0 (pa_cons (pv 1) pa_nil)) pa_nil))) (pg_tup rfl (pgs_cons (pg_fld (pv 0)) (pgs_cons (pg_fld (pv 0)) pgs_nil)))))), ?_⟩
    refine ⟨_, rfl, t, l, rfl, hp, ok, fun H1 e1 => ?_⟩
    refine ⟨_, rfl, _, rfl, t, l, rfl, hp.ext e1, ok.one, by show 2 ≤ sizeLine; decide, fun p hp' => ?_⟩
    have hn1 := e1 _ _ hn
    have npn : n ≠ p := ne_of_none hn1 hp'
    refine ⟨p, _, rfl, SqT.of upd_same, rfl, _, _, rfl, _, rfl, n, CN K, dx, _, rfl, by rw [upd_ne npn]; exact hn1, T.c_Number, T.n_Number_factors, by show 0 < 1000; decide, ?_⟩
    refine ⟨_, _, rfl, _, rfl, n, CN K, dx, _, rfl, upd_same, T.c_Number, T.n_Number_value, by show 1 < 1000; decide, rfl, ?_⟩
    rw [nf_put]
    refine q _ upd_same fun x o e ne => ?_
    have e2 := e1 _ _ e
    rw [upd_ne ne, upd_ne ne, upd_ne (ne_of_none e2 hp')]
    exact e2
theorem ok_Number_init (T : Txt K mg) : Ok P w K mg base 5 (He.ma K (He.ga K "Number") "__init__") ["self", "factors"] (spNumInit K) := (ok_Number_init_w T).ok
/-! ### number_with(factors) -/
def spNumWith (K : PySem.W.Frag) : Sp := fun vs H Q _ => ∃ (t : Addr) (l : Prs), vs = [.ref t] ∧ PairsAt K H t l ∧ (∀ q ∈ l, FacOne q) ∧ ∀ n H', NumAt K H' n l (valueP l) → Ext H H' → Q (.ref n) H'
theorem facOk_nil : FacOk [] := ⟨by decide, fun _ h => (by cases h), .nil⟩
theorem sc_number_with : FnScope ["factors", "found"] ["factors"] (defScope s_number_with) := ⟨rfl, rfl, rfl, by decide +kernel, rfl, by decide +kernel, by decide +kernel⟩
theorem ok_number_with (T : Txt K mg) : Ok P w K mg base 7 (He.ga K "number_with") ["factors"] (spNumWith K) := by
  obtain ⟨fd_value_of, F_value_of, b_value_of, k_value_of, _⟩ := (ok_value_of (P := P) (w := w) (base := base) T).ex
  obtain ⟨fdN, FN, _, _, _, ds0, v0, b0⟩ := (ok_Number_init_w (P := P) (w := w) (base := base) T).ex
  refine fd_ok T.f_number_with sc_number_with (fun vs H Q E h => ?_) (fun _ _ _ _ _ _ us hl => match us, hl with | [_], _ => rfl) (fun cdv A outer s H vs Q E hr h => ?_)
  · obtain ⟨t, l, rfl, _⟩ := h
    rfl
  · obtain ⟨t, l, rfl, hp, ok, q⟩ := h
    have nd := sc_number_with.nd
    refine ⟨_, (pss_cons (ps_set (i := 1) nd rfl (Or.inl rfl) (pe_make0 T.mk_Number FN (hr.mono (by decide)) rfl T.g_Number b0 v0 pass0)) (pss_cons (ps_asg (pe_tup (pa_cons (pv 0) (pa_cons (pe_call F_value_of (hr.mono (by decide)) rfl T.g_value_of k_value_of b_value_of .nil pass0 (pa_cons (pv 0) pa_nil)) pa_nil))) (pg_tup rfl (pgs_cons (pg_fld (pv 1)) (pgs_cons (pg_fld (pv 1)) pgs_nil)))) (pss_one (ps_ret (pv 1))))), ?_⟩
    intro n dn hn hdn nn
    refine ⟨n, _, dn, [], rfl, upd_same, ⟨[], .inr T.tup0_Number, .nil⟩, facOk_nil, fun H1 h1 k1 => ⟨rfl, ?_⟩⟩
    have e1 : Ext H H1 := fun x o e => by
      have n1 := ne_of_none e hn
      exact k1 x o (by rw [upd_ne n1, upd_ne (ne_of_none e hdn)]; exact e) n1
    refine ⟨_, rfl, _, rfl, t, l, rfl, hp.ext e1, ok, by show 2 ≤ sizeLine; decide, fun p hp' => ?_⟩
    have npn : n ≠ p := ne_of_none h1 hp'
    refine ⟨p, _, rfl, SqT.of upd_same, rfl, _, _, rfl, _, rfl, n, CN K, dn, _, rfl, by rw [upd_ne npn]; exact h1, T.c_Number, T.n_Number_factors, by show 2 < 1000; decide, ?_⟩
    refine ⟨_, _, rfl, _, rfl, n, CN K, dn, _, rfl, upd_same, T.c_Number, T.n_Number_value, by show 2 < 1000; decide, rfl, ?_⟩
    rw [nf_put2]
    have e2 : Ext H (upd (upd (upd H1 p (.tup [.ref t, valueP l])) n (.ins (CN K) dn (putF "factors" (.ref t) (nf (He.dflAt ("Number", some "__init__") 0 K) (valueP []))))) n (.ins (CN K) dn (nf t (valueP l)))) := fun x o e => by
      have n1 := ne_of_none e hn
      have e2 := e1 _ _ e
      rw [upd_ne n1, upd_ne n1, upd_ne (ne_of_none e2 hp')]
      exact e2
    exact ⟨_, rfl, q n _ ⟨dn, t, upd_same, hp.ext e2⟩ e2⟩
end
end K81

set_option Elab.async false
set_option linter.all false
set_option maxRecDepth 100000
set_option maxHeartbeats 4000000
namespace K81
/-! ### factors, in plain Lean -/
def takeOut : Nat → Nat → Nat → Nat × Nat
  | 0, v, _ => (v, 0)
  | f + 1, v, p => if v % p = 0 then ((takeOut f (v / p) p).1, (takeOut f (v / p) p).2 + 1) else (v, 0)
def facGo : Nat → Nat → Nat → List (Nat × Nat)
  | 0, v, _ => if 1 < v then [(v, 1)] else []
  | f + 1, v, p => if p * p ≤ v then (if 0 < (takeOut 20 v p).2 then (p, (takeOut 20 v p).2) :: facGo f (takeOut 20 v p).1 (p + 1) else facGo f (takeOut 20 v p).1 (p + 1)) else if 1 < v then [(v, 1)] else []
def facN (n : Nat) : List (Nat × Nat) := facGo 1000 n 2
def toI (l : List (Nat × Nat)) : List (Int × Int) := l.map fun q => ((q.1 : Int), (q.2 : Int))
theorem takeOut_pos : ∀ (f v p : Nat), 1 ≤ v → 2 ≤ p → 1 ≤ (takeOut f v p).1
  | 0, v, p, h, _ => h
  | f + 1, v, p, h, hp => by
    unfold takeOut
    split
    · rename_i hd
      refine takeOut_pos f (v / p) p ?_ hp
      have := Nat.div_add_mod v p
      rw [hd, Nat.add_zero] at this
      rcases Nat.eq_zero_or_pos (v / p) with z | z
      · rw [z] at this; omega
      · exact z
    · exact h
theorem takeOut_le : ∀ (f v p : Nat), (takeOut f v p).1 ≤ v
  | 0, v, p => Nat.le_refl v
  | f + 1, v, p => by
    unfold takeOut
    split
    · exact Nat.le_trans (takeOut_le f (v / p) p) (Nat.div_le_self v p)
    · exact Nat.le_refl v
theorem takeOut_stop (f v p : Nat) (h : ¬ v % p = 0) : takeOut f v p = (v, 0) := by
  cases f with
  | zero => rfl
  | succ f => exact if_neg h
theorem takeOut_step (f v p : Nat) (h : v % p = 0) : takeOut (f + 1) v p = ((takeOut f (v / p) p).1, (takeOut f (v / p) p).2 + 1) := if_pos h
end K81

set_option Elab.async false
set_option linter.all false
set_option maxRecDepth 100000
set_option maxHeartbeats 4000000
namespace K81
open PySem PySem.Spec PyProof.Rows L2 Bk Evl
theorem lt20 {v : Nat} (h : v ≤ 1000000) : v < 2 ^ 20 := Nat.lt_of_le_of_lt h (by decide)
theorem dec_mod (v p : Nat) : decide (V.int ((v : Int) % (p : Int)) = V.int 0) = decide (v % p = 0) := by
  rw [show (v : Int) % (p : Int) = ((v % p : Nat) : Int) from (Int.natCast_emod v p).symm]
  exact decide_eq_decide.mpr ⟨fun z => by injection z with z; exact Int.ofNat.inj z, fun z => by rw [z]; rfl⟩
/-- a list that is being filled with new pairs -/
def PList (H : Hp) (fl : Addr) (l : Prs) : Prop := ∃ ps : List Addr, H fl = some (.lst (ps.map V.ref)) ∧ Paired (fun p (q : Int × Int) => H p = some (.tup [.int q.1, .int q.2])) ps l
theorem PList.snoc {H : Hp} {fl p : Addr} {l : Prs} {a b : Int} (h : PList H fl l) (hp : H p = none) : ∀ xs, H fl = some (.lst xs) → xs.length = l.length ∧ PList (upd (upd H p (.tup [.int a, .int b])) fl (.lst (xs ++ [.ref p]))) fl (l ++ [(a, b)]) := fun xs hx => by
  obtain ⟨ps, h1, h2⟩ := h
  rw [h1] at hx
  cases hx
  have npf : fl ≠ p := ne_of_none h1 hp
  refine ⟨by rw [List.length_map, h2.length], ps ++ [p], by rw [upd_same, List.map_append]; rfl, Paired.snoc (L2.Paired.mapP h2 fun c q e => ?_) ?_⟩
  · have n1 : c ≠ fl := ne_of e h1 (by intro z; cases z)
    rw [upd_ne n1, upd_ne (ne_of_none e hp)]
    exact e
  · rw [upd_ne npf.symm, upd_same]
section
variable {P : Program} {w : World} {K : PySem.W.Frag} {mg : Str → Option Value} {base : Heap}
theorem PList.pairs {H : Hp} {fl t : Addr} {l : Prs} (h : PList H fl l) (ht : H t = none) {o : Obj} (oc : o.cls = .type "tuple") (od : o.dict = none) : ∀ xs, H fl = some (.lst xs) → PairsAt K (upd H t (.frz o (.tup xs))) t l := fun xs hx => by
  obtain ⟨ps, h1, h2⟩ := h
  rw [h1] at hx
  cases hx
  exact ⟨ps, plt_new oc od, L2.Paired.mapP h2 fun c q e => SqT.of (by rw [upd_ne (ne_of_none e ht)]; exact e)⟩
/-! ### factors_of -/
def spFactors (K : PySem.W.Frag) : Sp := fun vs H Q _ => ∃ n : Nat, vs = [.int n] ∧ (1 ≤ n ∧ n ≤ 1000000) ∧ ∀ t H', PairsAt K H' t (toI (facN n)) → Ext H H' → Q (.ref t) H'
theorem sc_factors_of : FnScope ["value", "found", "part", "many"] ["value"] (defScope s_factors_of) := ⟨rfl, rfl, rfl, by decide +kernel, rfl, by decide +kernel, by decide +kernel⟩
theorem ok_factors_of (T : Txt K mg) : Ok P w K mg base 1 (He.ga K "factors_of") ["value"] (spFactors K) := by
  refine fd_ok T.f_factors_of sc_factors_of (fun vs H Q E h => ?_) (fun _ _ _ _ _ _ us hl => match us, hl with | [_], _ => rfl) (fun cdv A outer s H vs Q E hr h => ?_)
  · obtain ⟨n, rfl, _⟩ := h
    rfl
  · obtain ⟨n, rfl, ⟨n1, n2⟩, q⟩ := h
    have nd := sc_factors_of.nd
    refine ⟨_, (pss_cons (ps_par (i := 1) (j := 2) rfl nd rfl rfl (by decide) rfl rfl (pa_cons (pe_lst pa_nil) (pa_cons pe_int pa_nil)) (by rfl)) (pss_cons (ps_while PassesOwn.never (pt_cmpR op_le (pe_op op_mul (pv 2) (pv 2)) (pv 0) (nomark _)) (pss_cons (ps_set (i := 3) nd rfl (Or.inl rfl) pe_int) (pss_cons (ps_while PassesOwn.never (pt_cmpR op_eq (pe_op op_mod (pe_callTy call_int1 rfl T.z_int (by decide +kernel) (pa_cons (pv 0) pa_nil)) (pv 2)) pe_int (nomark _)) (pss_one (ps_par (i := 0) (j := 3) rfl nd rfl rfl (by decide) rfl rfl (pa_cons (pe_op op_fdiv (pv 0) (pv 2)) (pa_cons (pe_op op_add (pv 3) pe_int) pa_nil)) (by rfl)))) (pss_cons (ps_if (pt_cmpR op_gt (pv 3) pe_int (nomark _)) (pss_one (ps_expr (pe_bm PySem.F.plainAttrs_list PySem.F.slot_list_append PySem.F.type_list_append mt_append (pv 1) (pa_cons (pe_tup (pa_cons (pv 2) (pa_cons (pv 3) pa_nil))) pa_nil)))) pss_nil) (pss_one (ps_set (i := 2) nd rfl (Or.inl rfl) (pe_op op_add (pv 2) pe_int))))))) (pss_cons (ps_if (pt_cmpR op_gt (pv 0) pe_int (nomark _)) (pss_one (ps_expr (pe_bm PySem.F.plainAttrs_list PySem.F.slot_list_append PySem.F.type_list_append mt_append (pv 1) (pa_cons (pe_tup (pa_cons (pv 0) (pa_cons pe_int pa_nil))) pa_nil)))) pss_nil) (pss_one (ps_ret (pe_tupleP rfl T.z_tuple (pv 1))))))), ?_⟩
    refine ⟨by show 0 ≤ sizeLine; decide, fun fl hfl => ⟨_, _, rfl, ?_⟩⟩
    refine ⟨fun m σ H' => ∃ (v p f : Nat) (l : List (Nat × Nat)) (u : Option V), σ = [some (.int v), some (.ref fl), some (.int p), u] ∧ PList H' fl (toI l) ∧ Ext H H' ∧ l ++ facGo f v p = facN n ∧ (1 ≤ v ∧ v ≤ 1000000) ∧ 2 ≤ p ∧ 1002 ≤ p + f ∧ l.length + 2 ≤ p ∧ p ≤ 1002 ∧ m = f,
      ⟨1000, n, 2, 1000, [], _, rfl, ⟨[], upd_same, .nil⟩, Ext.new hfl _, rfl, ⟨n1, n2⟩, by omega, by omega, by simp, by omega, rfl⟩, ?_⟩
    rintro m σ H1 ⟨v, p, f, l, u, rfl, hl, e1, hf, ⟨v1, v2⟩, hp, hpf, hlp, hp2, rfl⟩
    refine ⟨_, rfl, _, rfl, _, _, rfl, rfl, .inl ⟨by omega, by omega⟩, _, rfl, _, _, rfl, rfl, _, rfl, ?_⟩
    have epp : ((p : Int) * (p : Int)) = ((p * p : Nat) : Int) := (Int.natCast_mul p p).symm
    refine ite2 (fun hle => ?_) (fun hle => ?_)
    · have hle' : p * p ≤ v := by have := of_decide_eq_true hle; rw [epp] at this; omega
      have hp3 : p ≤ 1000 := by
        refine Classical.byContradiction fun z => ?_
        have : 1001 * 1001 ≤ p * p := Nat.mul_le_mul (by omega) (by omega)
        omega
      obtain ⟨f', rfl⟩ : ∃ f', m = f' + 1 := ⟨m - 1, by omega⟩
      unfold facGo at hf
      rw [if_pos hle'] at hf
      refine ⟨fun σ H' => ∃ (v p f : Nat) (l : List (Nat × Nat)) (u : Option V), σ = [some (.int v), some (.ref fl), some (.int p), u] ∧ PList H' fl (toI l) ∧ Ext H H' ∧ l ++ facGo f v p = facN n ∧ (1 ≤ v ∧ v ≤ 1000000) ∧ 2 ≤ p ∧ 1002 ≤ p + f ∧ l.length + 2 ≤ p ∧ p ≤ 1002 ∧ f < f' + 1,
        fun σ H' ⟨v, p, f, l, u, x1, x2, x3, x4, x5, x6, x7, x8, x9, x10⟩ => ⟨f, x10, v, p, f, l, u, x1, x2, x3, x4, x5, x6, x7, x8, x9, rfl⟩, ?_⟩
      -- the inner loop
      refine ⟨fun m σ H' => ∃ (v' j fu : Nat), σ = [some (.int v'), some (.ref fl), some (.int p), some (.int j)] ∧ H' = H1 ∧ (takeOut fu v' p).1 = (takeOut 20 v p).1 ∧ j + (takeOut fu v' p).2 = (takeOut 20 v p).2 ∧ 1 ≤ v' ∧ v' < 2 ^ fu ∧ m = fu,
        ⟨20, v, 0, 20, rfl, rfl, rfl, by omega, v1, lt20 v2, rfl⟩, ?_⟩
      rintro m2 σ H2 ⟨v', j, fu, rfl, rfl, t1, t2, w1, w2, rfl⟩
      refine ⟨_, rfl, .inl ⟨_, rfl, _, rfl, _, _, rfl, rfl, by omega, rfl, _, rfl, ?_⟩⟩
      rw [dec_mod]
      refine ite2 (fun h0 => ?_) (fun h0 => ?_)
      · have h0' : v' % p = 0 := of_decide_eq_true h0
        obtain ⟨g, rfl⟩ : ∃ g, m2 = g + 1 := by
          cases m2 with
          | zero => rw [Nat.pow_zero] at w2; omega
          | succ g => exact ⟨g, rfl⟩
        rw [takeOut_step _ _ _ h0'] at t1 t2
        dsimp only at t1 t2
        have hd := Nat.div_add_mod v' p
        rw [h0', Nat.add_zero] at hd
        have pos : 1 ≤ v' / p := by
          rcases Nat.eq_zero_or_pos (v' / p) with z | z
          · rw [z, Nat.mul_zero] at hd; omega
          · exact z
        have lt : v' / p < 2 ^ g := by
          rw [Nat.pow_succ] at w2
          have : 2 * (v' / p) ≤ p * (v' / p) := Nat.mul_le_mul_right _ hp
          omega
        refine ⟨fun σ H' => ∃ (v' j fu : Nat), σ = [some (.int v'), some (.ref fl), some (.int p), some (.int j)] ∧ H' = H2 ∧ (takeOut fu v' p).1 = (takeOut 20 v p).1 ∧ j + (takeOut fu v' p).2 = (takeOut 20 v p).2 ∧ 1 ≤ v' ∧ v' < 2 ^ fu ∧ fu < g + 1,
          fun σ H' ⟨v', j, fu, x1, x2, x3, x4, x5, x6, x7⟩ => ⟨fu, x7, v', j, fu, x1, x2, x3, x4, x5, x6, rfl⟩, ?_⟩
        refine ⟨_, rfl, _, rfl, _, _, rfl, rfl, ⟨by omega, by omega⟩, _, rfl, _, _, rfl, rfl, _, _, rfl, v' / p, j + 1, g, ?_, rfl, t1, by omega, pos, lt, by omega⟩
        show [some (V.int ((v' : Int) / (p : Int))), some (V.ref fl), some (V.int p), some (V.int ((j : Int) + 1))] = _
        rw [show ((v' : Int) / (p : Int)) = ((v' / p : Nat) : Int) from (Int.natCast_ediv v' p).symm]
        rfl
      · have h0' : ¬ v' % p = 0 := fun z => h0 (decide_eq_true z)
        rw [takeOut_stop _ _ _ h0'] at t1 t2
        dsimp only at t1 t2
        have vpos := takeOut_pos 20 v p v1 hp
        have vle := takeOut_le 20 v p
        rw [← t1] at vpos vle
        refine ⟨_, rfl, _, _, rfl, rfl, _, rfl, ?_⟩
        rw [Nat.add_zero] at t2
        refine ite2 (fun hj => ?_) (fun hj => ?_)
        · have hj' : 0 < j := by have := of_decide_eq_true hj; omega
          rw [← t2, if_pos hj', ← t1] at hf
          obtain ⟨ps, g1, g2⟩ := id hl
          refine ⟨_, rfl, .inl ⟨rfl, _, SqL.of g1⟩, _, rfl, _, rfl, by show 2 ≤ sizeLine; decide, fun tp htp => ?_⟩
          obtain ⟨g3, g4⟩ := hl.snoc (a := p) (b := j) htp _ g1
          have nft : fl ≠ tp := ne_of_none g1 htp
          refine ⟨fl, _, _, rfl, rfl, by rw [upd_ne nft]; exact g1, ?_, ?_⟩
          · rw [g3]
            unfold toI
            rw [List.length_map]
            exact small_lt (by omega)
          · refine ⟨_, rfl, _, _, rfl, rfl, v', p + 1, f', l ++ [(p, j)], _, rfl, ?_, ?_, by rw [List.append_assoc]; exact hf, ⟨vpos, by omega⟩, by omega, by omega, by rw [List.length_append, List.length_singleton]; omega, by omega, by omega⟩
            · have : toI (l ++ [(p, j)]) = toI l ++ [((p : Int), (j : Int))] := by unfold toI; rw [List.map_append]; rfl
              rw [this]
              exact g4
            · intro x o e
              rw [upd_ne (ne_of_none e hfl), upd_ne (ne_of_none (e1 x o e) htp)]
              exact e1 x o e
        · have hj' : ¬ 0 < j := fun z => hj (decide_eq_true (by omega))
          rw [← t2, if_neg hj', ← t1] at hf
          exact ⟨_, rfl, _, _, rfl, rfl, v', p + 1, f', l, _, rfl, hl, e1, hf, ⟨vpos, by omega⟩, by omega, by omega, by omega, by omega, by omega⟩
    · have hle' : ¬ p * p ≤ v := fun z => hle (decide_eq_true (by rw [epp]; omega))
      have fe : facGo m v p = if 1 < v then [(v, 1)] else [] := by
        cases m with
        | zero => rfl
        | succ k => exact if_neg hle'
      rw [fe] at hf
      refine ⟨_, rfl, _, _, rfl, rfl, _, rfl, ?_⟩
      refine ite2 (fun hv => ?_) (fun hv => ?_)
      · have hv' : 1 < v := by have := of_decide_eq_true hv; omega
        rw [if_pos hv'] at hf
        obtain ⟨ps, g1, g2⟩ := id hl
        refine ⟨_, rfl, .inl ⟨rfl, _, SqL.of g1⟩, _, rfl, by show 2 ≤ sizeLine; decide, fun tp htp => ?_⟩
        obtain ⟨g3, g4⟩ := hl.snoc (a := v) (b := 1) htp _ g1
        have nft : fl ≠ tp := ne_of_none g1 htp
        refine ⟨fl, _, _, rfl, rfl, by rw [upd_ne nft]; exact g1, ?_, ?_⟩
        · rw [g3]
          unfold toI
          rw [List.length_map]
          exact small_lt (by omega)
        · have e2 : Ext H (upd (upd H1 tp (.tup [.int v, .int 1])) fl (.lst (ps.map V.ref ++ [.ref tp]))) := fun x o e => by
            rw [upd_ne (ne_of_none e hfl), upd_ne (ne_of_none (e1 x o e) htp)]
            exact e1 x o e
          refine ⟨_, rfl, fl, _, rfl, SqL.of upd_same, fun t o ht oc od => ?_⟩
          refine q t _ ?_ (e2.trans (Ext.new ht _))
          have : toI (facN n) = toI l ++ [((v : Int), 1)] := by rw [← hf]; unfold toI; rw [List.map_append]; rfl
          rw [this]
          exact g4.pairs ht oc od _ upd_same
      · have hv' : ¬ 1 < v := fun z => hv (decide_eq_true (by omega))
        rw [if_neg hv', List.append_nil] at hf
        obtain ⟨ps, g1, g2⟩ := id hl
        refine ⟨_, rfl, fl, _, rfl, SqL.of g1, fun t o ht oc od => ?_⟩
        refine q t _ ?_ (e1.trans (Ext.new ht _))
        rw [← hf]
        exact hl.pairs ht oc od _ g1
end
end K81

set_option Elab.async false
set_option linter.all false
set_option maxRecDepth 100000
set_option maxHeartbeats 4000000
namespace K81
open PySem PySem.Spec PyProof.Rows L2 Bk
/-! ### tables of ints, plainly -/
def putI (es : List (Int × Int)) (r v : Int) : List (Int × Int) :=
  if (es.any fun e => decide (e.1 = r)) = true then es.map (fun e => if e.1 = r then (e.1, v) else e) else es ++ [(r, v)]
def getI (es : List (Int × Int)) (r : Int) : Int := ((es.find? fun e => decide (e.1 = r)).map (·.2)).getD 0
theorem any_entI (es : List (Int × Int)) (r : Int) : ((es.map entI).any fun kv => decide (kv.1 = (Sum.inl r : Key))) = es.any fun e => decide (e.1 = r) := by
  induction es with
  | nil => rfl
  | cons e es ih =>
    rw [List.map_cons, List.any_cons, List.any_cons, ih]
    have : decide ((entI e).1 = (Sum.inl r : Key)) = decide (e.1 = r) := decide_eq_decide.mpr ⟨fun z => Sum.inl.inj z, fun z => by rw [← z]⟩
    rw [this]
theorem putK_entI (es : List (Int × Int)) (r v : Int) : putK (es.map entI) (Sum.inl r : Key) (.int v) = (putI es r v).map entI := by
  unfold putK putI
  rw [any_entI]
  by_cases h : (es.any fun e => decide (e.1 = r)) = true
  · rw [if_pos h, if_pos h, List.map_map, List.map_map]
    refine List.map_congr_left fun e _ => ?_
    show (if (Sum.inl e.1 : Key) = Sum.inl r then ((Sum.inl e.1 : Key), V.int v) else entI e) = entI (if e.1 = r then (e.1, v) else e)
    by_cases q : e.1 = r
    · rw [if_pos q, if_pos (by rw [q])]
    · rw [if_neg q, if_neg (fun z => q (Sum.inl.inj z))]
  · rw [if_neg h, if_neg h, List.map_append] <;> rfl
theorem find_entI (es : List (Int × Int)) (r : Int) : valV (es.map entI) (Sum.inl r : Key) = (es.find? fun e => decide (e.1 = r)).map fun e => V.int e.2 := by
  induction es with
  | nil => rfl
  | cons e es ih =>
    rw [List.map_cons]
    by_cases q : e.1 = r
    · rw [valV_pos (by show Sum.inl e.1 = _; rw [q]), List.find?_cons_of_pos (p := fun e : Int × Int => decide (e.1 = r)) (decide_eq_true q)]
      rfl
    · rw [valV_neg (fun z => q (Sum.inl.inj z)), List.find?_cons_of_neg (by simp [q]), ih]
theorem get_some {es : List (Int × Int)} {r : Int} {x : V} (h : valV (es.map entI) (Sum.inl r : Key) = some x) : x = .int (getI es r) := by
  rw [find_entI] at h
  unfold getI
  cases e : es.find? fun e => decide (e.1 = r) with
  | none => rw [e] at h; cases h
  | some p =>
    rw [e] at h
    exact (Option.some.inj h).symm
theorem get_none {es : List (Int × Int)} {r : Int} (h : valV (es.map entI) (Sum.inl r : Key) = none) : getI es r = 0 := by
  rw [find_entI] at h
  unfold getI
  cases e : es.find? fun e => decide (e.1 = r) with
  | none => rfl
  | some p => rw [e] at h; cases h
theorem getI_cons (e : Int × Int) (es : List (Int × Int)) (x : Int) : getI (e :: es) x = if e.1 = x then e.2 else getI es x := by
  unfold getI
  by_cases q : e.1 = x
  · rw [List.find?_cons_of_pos (p := fun e : Int × Int => decide (e.1 = x)) (decide_eq_true q), if_pos q]; rfl
  · rw [List.find?_cons_of_neg (by simp [q]), if_neg q]
theorem getI_map (es : List (Int × Int)) (r v x : Int) : getI (es.map fun e => if e.1 = r then (e.1, v) else e) x = if x = r ∧ (es.any fun e => decide (e.1 = r)) = true then v else getI es x := by
  induction es with
  | nil => simp [getI]
  | cons e es ih =>
    rw [List.map_cons, getI_cons, getI_cons, ih, List.any_cons]
    by_cases q : e.1 = r
    · rw [if_pos q]
      by_cases z : e.1 = x
      · have : x = r := by omega
        rw [if_pos z, if_pos ⟨this, by simp [q]⟩]
      · have : ¬ x = r := by omega
        rw [if_neg z, if_neg (fun h => this h.1), if_neg (fun h => this h.1), if_neg z]
    · rw [if_neg q]
      by_cases z : e.1 = x
      · have : ¬ x = r := by omega
        rw [if_pos z, if_neg (fun h => this h.1), if_pos z]
      · rw [if_neg z, if_neg z, decide_eq_false q, Bool.false_or]
theorem getI_app (es : List (Int × Int)) (r v x : Int) (h : ¬ (es.any fun e => decide (e.1 = r)) = true) : getI (es ++ [(r, v)]) x = if x = r then v else getI es x := by
  induction es with
  | nil =>
    rw [List.nil_append, getI_cons]
    by_cases q : x = r
    · rw [if_pos q.symm, if_pos q]
    · rw [if_neg (fun z => q z.symm), if_neg q]
  | cons e es ih =>
    rw [List.any_cons] at h
    have h1 : ¬ e.1 = r := fun z => h (by simp [z])
    have h2 : ¬ (es.any fun e => decide (e.1 = r)) = true := fun z => h (by simp [z])
    rw [List.cons_append, getI_cons, getI_cons, ih h2]
    by_cases z : e.1 = x
    · have : ¬ x = r := by omega
      rw [if_pos z, if_neg this, if_pos z]
    · rw [if_neg z, if_neg z]
theorem getI_put (es : List (Int × Int)) (r v x : Int) : getI (putI es r v) x = if x = r then v else getI es x := by
  unfold putI
  by_cases h : (es.any fun e => decide (e.1 = r)) = true
  · rw [if_pos h, getI_map]
    by_cases q : x = r
    · rw [if_pos ⟨q, h⟩, if_pos q]
    · rw [if_neg (fun z => q z.1), if_neg q]
  · rw [if_neg h, getI_app _ _ _ _ h]
theorem mem_put {es : List (Int × Int)} {r v : Int} {k : Int} : k ∈ (putI es r v).map (·.1) ↔ k = r ∨ k ∈ es.map (·.1) := by
  unfold putI
  by_cases h : (es.any fun e => decide (e.1 = r)) = true
  · rw [if_pos h, List.map_map]
    have e : es.map ((·.1) ∘ fun e : Int × Int => if e.1 = r then (e.1, v) else e) = es.map (·.1) := List.map_congr_left fun e _ => by
      show (if e.1 = r then (e.1, v) else e).1 = e.1
      by_cases q : e.1 = r
      · rw [if_pos q]
      · rw [if_neg q]
    rw [e]
    refine ⟨.inr, fun z => z.elim (fun z => ?_) id⟩
    obtain ⟨y, hy, hd⟩ := List.any_eq_true.mp h
    exact List.mem_map.mpr ⟨y, hy, (of_decide_eq_true hd).trans z.symm⟩
  · rw [if_neg h, List.map_append, List.mem_append]
    simp [or_comm]
theorem nodup_put {es : List (Int × Int)} {r v : Int} (hn : (es.map (·.1)).Nodup) : ((putI es r v).map (·.1)).Nodup := by
  unfold putI
  by_cases h : (es.any fun e => decide (e.1 = r)) = true
  · rw [if_pos h, List.map_map]
    have e : es.map ((·.1) ∘ fun e : Int × Int => if e.1 = r then (e.1, v) else e) = es.map (·.1) := List.map_congr_left fun e _ => by
      show (if e.1 = r then (e.1, v) else e).1 = e.1
      by_cases q : e.1 = r
      · rw [if_pos q]
      · rw [if_neg q]
    rw [e]
    exact hn
  · rw [if_neg h, List.map_append, List.nodup_append]
    refine ⟨hn, by simp, fun a ha b hb z => h ?_⟩
    obtain ⟨y, hy, e⟩ := List.mem_map.mp ha
    simp at hb
    exact List.any_eq_true.mpr ⟨y, hy, decide_eq_true (by rw [e, z, hb])⟩
theorem len_put (es : List (Int × Int)) (r v : Int) : (putI es r v).length ≤ es.length + 1 := by
  unfold putI
  split
  · rw [List.length_map]; omega
  · rw [List.length_append, List.length_singleton]; exact Nat.le_refl _
theorem merge_entI {es : List (Int × Int)} (hn : (es.map (·.1)).Nodup) : mergeK [] (es.map entI) = es.map entI := by
  have h : ((([] : List (Key × V)) ++ es.map entI).map (fun kv => kv.1)).Nodup := by
    rw [List.nil_append, List.map_map]
    have : (es.map ((fun kv : Key × V => kv.1) ∘ entI)) = (es.map (·.1)).map (Sum.inl : Int → Key) := by rw [List.map_map] <;> rfl
    rw [this]
    exact List.Pairwise.map _ (fun a b (q : a ≠ b) z => q (Sum.inl.inj z)) hn
  rw [mergeK_fresh [] _ h, List.nil_append]
end K81

set_option Elab.async false
set_option linter.all false
set_option maxRecDepth 100000
set_option maxHeartbeats 4000000
namespace K81
open PySem PySem.Spec PyProof.Rows L2 Bk Evl
section
variable {P : Program} {w : World} {K : PySem.W.Frag} {mg : Str → Option Value} {base : Heap}
/-! ### added -/
/-- the table at a is es -/
def TabAt (H : Hp) (a : Addr) (es : List (Int × Int)) : Prop := H a = some (.dK (es.map entI)) ∧ (es.map (·.1)).Nodup
theorem getD_entI (es : List (Int × Int)) (r : Int) : (valV (es.map entI) (Sum.inl r : Key)).getD (.int 0) = .int (getI es r) := by
  cases e : valV (es.map entI) (Sum.inl r : Key) with
  | none => rw [get_none e]; rfl
  | some x => rw [get_some e]; rfl
def spAdded (K : PySem.W.Frag) : Sp := fun vs H Q _ => ∃ (a : Addr) (es : List (Int × Int)) (r m : Int), vs = [.ref a, .int r, .int m] ∧ TabAt H a es ∧ es.length < 1000 ∧ ∀ p H', H p = none → TabAt H' p (putI es r (getI es r + m)) → Ext H H' → Q (.ref p) H'
theorem sc_added : FnScope ["counts", "rest", "many", "found"] ["counts", "rest", "many"] (defScope s_added) := ⟨rfl, rfl, rfl, by decide +kernel, rfl, by decide +kernel, by decide +kernel⟩
theorem ok_added (T : Txt K mg) : Ok P w K mg base 1 (He.ga K "added") ["counts", "rest", "many"] (spAdded K) := by
  refine fd_ok T.f_added sc_added (fun vs H Q E h => ?_) (fun _ _ _ _ _ _ us hl => match us, hl with | [_, _, _], _ => rfl) (fun cdv A outer s H vs Q E hr h => ?_)
  · obtain ⟨a, es, r, m, rfl, _⟩ := h
    rfl
  · obtain ⟨a, es, r, m, rfl, ⟨ha, hn⟩, hl, q⟩ := h
    have nd := sc_added.nd
    refine ⟨_, (pss_cons (ps_set (i := 3) nd rfl (Or.inl rfl) (pe_callTy call_dictD rfl T.z_dict (by decide +kernel) (pa_cons (pv 0) pa_nil))) (pss_cons (ps_asg (pe_op op_add (pe_dget2 (ru hr) (pv 3) (pv 1) pe_int ⟨rfl, rfl, rfl, rfl⟩) (pv 2)) (pg_sub (pv 3) (pv 1) (set_dict (ru hr)))) (pss_one (ps_ret (pv 3))))), ?_⟩
    refine ⟨_, rfl, a, _, rfl, .inl ha, fun p hp => ?_⟩
    refine ⟨_, rfl, p, rfl, .inl ⟨_, .inl upd_same⟩, _, rfl, _, .inl ⟨es.map entI, Sum.inl r, .inl upd_same, rfl, rfl⟩, _, rfl, getI es r, m, getD_entI es r, rfl, ?_⟩
    refine ⟨_, rfl, _, rfl, p, _, rfl, .inl ⟨_, Sum.inl r, upd_same, rfl, by rw [List.length_map]; exact small_lt (by omega), rfl⟩, ?_⟩
    rw [upd_upd, putK_entI]
    exact ⟨_, rfl, q p _ hp ⟨upd_same, nodup_put hn⟩ (Ext.new hp _)⟩
end
end K81

set_option Elab.async false
set_option linter.all false
set_option maxRecDepth 100000
set_option maxHeartbeats 4000000
namespace K81
open PySem PySem.Spec PyProof.Rows L2 Bk Evl
/-- the exponents of the factors that leave x -/
def sumR (m x : Int) : Prs → Int
  | [] => 0
  | q :: l => (if q.1 % m = x then q.2 else 0) + sumR m x l
theorem sumR_snoc (m x : Int) (l : Prs) (q : Int × Int) : sumR m x (l ++ [q]) = sumR m x l + (if q.1 % m = x then q.2 else 0) := by
  induction l with
  | nil => show _ + 0 = 0 + _; omega
  | cons a l ih =>
    show _ + sumR m x (l ++ [q]) = _ + sumR m x l + _
    rw [ih]
    omega
/-- L is the pattern of the counts of the rests of l -/
structure CntOf (m : Int) (l : Prs) (L : Prs) : Prop where
  asc : L.Pairwise fun e f => e.1 < f.1
  get : ∀ x, getI L x = if 2 < m ∧ 1 < x then sumR m x l else 0
  bd : ∀ e ∈ L, 1 < e.1 ∧ e.1 < m
theorem paired_maps {α β γ : Type} {F : β → γ → Prop} (f : α → β) (g : α → γ) : ∀ l : List α, (∀ z ∈ l, F (f z) (g z)) → Paired F (l.map f) (l.map g)
  | [], _ => .nil
  | a :: l, h => .cons (h a List.mem_cons_self) (paired_maps f g l fun z hz => h z (List.mem_cons_of_mem _ hz))
theorem getI_mem : ∀ {es : Prs} {e : Int × Int}, (es.map (·.1)).Nodup → e ∈ es → getI es e.1 = e.2
  | a :: es, e, hn, h => by
    rw [getI_cons]
    rw [List.map_cons, List.nodup_cons] at hn
    rcases List.mem_cons.mp h with z | z
    · rw [z, if_pos rfl]
    · rw [if_neg (fun q => hn.1 (by rw [q]; exact List.mem_map.mpr ⟨e, z, rfl⟩)), getI_mem hn.2 z]
theorem getI_out : ∀ {es : Prs} {x : Int}, x ∉ es.map (·.1) → getI es x = 0
  | [], x, _ => rfl
  | a :: es, x, h => by
    rw [getI_cons, if_neg (fun q => h (by rw [← q]; exact List.mem_cons_self)), getI_out fun q => h (List.mem_cons_of_mem _ q)]
theorem getI_perm {L es : Prs} {x : Int} (hp : L.Perm es) (hn : (es.map (·.1)).Nodup) : getI L x = getI es x := by
  have hm := hp.map (·.1)
  by_cases h : x ∈ es.map (·.1)
  · obtain ⟨e, he, rfl⟩ := List.mem_map.mp h
    rw [getI_mem hn he, getI_mem (hm.nodup_iff.mpr hn) (hp.mem_iff.mpr he)]
  · rw [getI_out h, getI_out fun q => h (hm.mem_iff.mp q)]
theorem asc_of {L es : Prs} (hp : L.Perm es) (hs : L.Pairwise (fun e f => SrtO.lexB f e = false)) (hn : (es.map (·.1)).Nodup) : L.Pairwise fun e f => e.1 < f.1 := by
  have n1 : L.Pairwise fun e f => e.1 ≠ f.1 := List.pairwise_map.mp ((hp.map Prod.fst).nodup_iff.mpr hn)
  refine (List.pairwise_and_iff.mpr ⟨hs, n1⟩).imp fun {e f} h => ?_
  have a := SrtO.lexB_no.mp h.1
  have b := h.2
  omega
section
variable {P : Program} {w : World} {K : PySem.W.Frag} {mg : Str → Option Value} {base : Heap}
def spCounts (K : PySem.W.Frag) : Sp := fun vs H Q _ => ∃ (m : Int) (t : Addr) (l : Prs), vs = [.int m, .ref t] ∧ 1 ≤ m ∧ PairsAt K H t l ∧ l.length ≤ 900 ∧ ∀ t' L H', PairsAt K H' t' L → CntOf m l L → Ext H H' → Q (.ref t') H'
theorem sc_counts_of : FnScope ["modulus", "factors", "found", "prime", "exponent", "rest"] ["modulus", "factors"] (defScope s_counts_of) := ⟨rfl, rfl, rfl, by decide +kernel, rfl, by decide +kernel, by decide +kernel⟩
theorem ok_counts_of (T : Txt K mg) : Ok P w K mg base 2 (He.ga K "counts_of") ["modulus", "factors"] (spCounts K) := by
  obtain ⟨fd_added, F_added, b_added, k_added, _⟩ := (ok_added (P := P) (w := w) (base := base) T).ex
  refine fd_ok T.f_counts_of sc_counts_of (fun vs H Q E h => ?_) (fun _ _ _ _ _ _ us hl => match us, hl with | [_, _], _ => rfl) (fun cdv A outer s H vs Q E hr h => ?_)
  · obtain ⟨m, t, l, rfl, _⟩ := h
    rfl
  · obtain ⟨m, t, l, rfl, m1, hp, hl, q⟩ := h
    have nd := sc_counts_of.nd
    refine ⟨_, (pss_cons (ps_set (i := 2) nd rfl (Or.inl rfl) pe_dnewK) (pss_cons (ps_for PassesOwn.never rfl (pi_tup (pv 1)) (pg_tup rfl (pgs_cons (pg_name (i := 3) nd rfl (Or.inl rfl)) (pgs_cons (pg_name (i := 4) nd rfl (Or.inl rfl)) pgs_nil))) (pss_cons (ps_set (i := 5) nd rfl (Or.inl rfl) (pe_op op_mod (pe_callTy call_int1 rfl T.z_int (by decide +kernel) (pa_cons (pv 3) pa_nil)) (pv 0))) (pss_one (ps_if (pt_cmpR op_gt (pv 5) pe_int (nomark _)) (pss_one (ps_set (i := 2) nd rfl (Or.inl rfl) (pe_call F_added (hr.mono (by decide)) rfl T.g_added k_added b_added .nil pass0 (pa_cons (pv 2) (pa_cons (pv 5) (pa_cons (pv 4) pa_nil)))))) pss_nil)))) (pss_one (ps_ret (pe_ifExp (pt_cmpR op_gt (pv 0) pe_int (nomark _)) (pe_tupleP rfl T.z_tuple (pe_callB (cr_sortedItK rfl) rfl T.z_sorted (by decide +kernel) (pa_cons (pe_bm0 PySem.F.plainAttrs_dict PySem.F.slot_dict_items PySem.F.type_dict_items mt_itemsK (pv 2)) pa_nil))) (pe_tupP pa_nil)))))), ?_⟩
    obtain ⟨ps, h1, h2⟩ := hp.sq
    intro fl hfl
    refine ⟨_, rfl, t, rfl, ⟨_, sqt_ext h1 (Ext.new hfl _)⟩, ?_⟩
    refine for_tup (xs := ps.map V.ref) (fun i σ H' => ∃ (d : Addr) (es : List (Int × Int)) (u v x : Option V), σ = [some (.int m), some (.ref t), some (.ref d), u, v, x] ∧ TabAt H' d es ∧ Ext H H' ∧ es.length ≤ i ∧ (∀ x, getI es x = if 1 < x then sumR m x (l.take i) else 0) ∧ ∀ e ∈ es, 1 < e.1 ∧ e.1 < m)
      ⟨fl, [], _, _, _, rfl, ⟨upd_same, .nil⟩, Ext.new hfl _, Nat.le_refl 0, fun x => by simp [getI, sumR], fun e he => by cases he⟩ ?_ ?_ ?_
    · rintro i σ H' _ ⟨d, es, u, v, x, rfl, _, e, _⟩
      exact sqt_ext h1 e
    · rintro i x σ H' hx ⟨d, es, u, v, y, rfl, ta, e1, hl2, hg, hb⟩
      rw [List.getElem?_map] at hx
      obtain ⟨p, hpi, rfl⟩ := Option.map_eq_some_iff.mp hx
      obtain ⟨⟨q1, q2⟩, hq, hsq⟩ := paired_at h2 i p hpi
      dsimp only at hsq
      have il : i < l.length := (List.getElem?_eq_some_iff.mp hq).1
      have htk : l.take (i + 1) = l.take i ++ [(q1, q2)] := by rw [List.take_add_one, hq] <;> rfl
      have r0 := Int.emod_nonneg q1 (show m ≠ 0 by omega)
      have r1 := Int.emod_lt_of_pos q1 (show 0 < m by omega)
      refine ⟨p, _, rfl, sqt_ext hsq e1, rfl, _, _, rfl, _, _, rfl, rfl, ?_⟩
      refine ⟨_, rfl, .inl ⟨_, rfl, _, rfl, _, _, rfl, rfl, by omega, ?_⟩⟩
      refine ⟨_, rfl, _, _, rfl, rfl, _, rfl, ?_⟩
      refine ite2 (fun hr1 => ?_) (fun hr1 => ?_)
      · have hr1' : 1 < q1 % m := of_decide_eq_true hr1
        refine ⟨_, rfl, _, rfl, _, rfl, d, es, q1 % m, q2, rfl, ta, by omega, fun p' H2 hp' ht e2 => ?_⟩
        refine ⟨p', _, _, _, _, rfl, ht, e1.trans e2, Nat.le_trans (len_put _ _ _) (by omega), fun x => ?_, fun e he => ?_⟩
        · rw [getI_put, htk, sumR_snoc, hg x, hg (q1 % m), if_pos hr1']
          by_cases z : x = q1 % m
          · subst z
            rw [if_pos rfl, if_pos hr1', if_pos rfl]
          · have nz : ¬ (q1, q2).1 % m = x := fun h => z h.symm
            rw [if_neg z, if_neg nz, Int.add_zero]
        · rcases mem_put.mp (List.mem_map.mpr ⟨e, he, rfl⟩) with z | z
          · rw [z]; exact ⟨hr1', r1⟩
          · obtain ⟨e', he', ee⟩ := List.mem_map.mp z
            rw [← ee]; exact hb e' he'
      · have hr1' : ¬ 1 < q1 % m := fun z => hr1 (decide_eq_true z)
        refine ⟨d, es, _, _, _, rfl, ta, e1, by omega, fun x => ?_, hb⟩
        rw [htk, sumR_snoc, hg x]
        by_cases z : 1 < x
        · have nz : ¬ (q1, q2).1 % m = x := fun h => by have h' : q1 % m = x := h; omega
          rw [if_pos z, if_pos z, if_neg nz, Int.add_zero]
        · rw [if_neg z, if_neg z]
    · rintro σ H' ⟨d, es, u, v, y, rfl, ta, e1, hl2, hg, hb⟩
      refine ⟨_, rfl, _, _, rfl, rfl, _, rfl, ?_⟩
      refine ite2 (fun hm => ?_) (fun hm => ?_)
      · have hm' : 2 < m := of_decide_eq_true hm
        refine ⟨_, rfl, .inr (.inr (.inl ⟨rfl, .inl ⟨_, ta.1⟩⟩)), d, _, rfl, rfl, ta.1, fun vp hvp => ?_⟩
        have ndv : d ≠ vp := ne_of_none ta.1 hvp
        refine ⟨vp, d, es, rfl, upd_same, by rw [upd_ne ndv]; exact ta.1, fun H2 lp ps2 k2 hperm hsort hln hlp hpr => ?_⟩
        refine ⟨lp, _, rfl, SqL.of hlp, fun t' o ht oc od => ?_⟩
        have e2 : Ext H H2 := fun x o e => k2 x o (by rw [upd_ne (ne_of_none (e1 x o e) hvp)]; exact e1 x o e)
        have mm : (ps2.map (·.1)).map V.ref = ps2.map fun z => V.ref z.1 := by rw [List.map_map] <;> rfl
        refine q t' (ps2.map (·.2)) _ ⟨ps2.map (·.1), by rw [mm]; exact plt_new oc od, paired_maps _ _ ps2 fun z hz => SqT.of (by rw [upd_ne (ne_of_none (hpr z hz).2 ht)]; exact (hpr z hz).2)⟩ ?_ (e2.trans (Ext.new ht _))
        exact ⟨asc_of hperm hsort ta.2, fun x => by rw [getI_perm hperm ta.2, hg x, List.take_of_length_le (by rw [List.length_map, h2.length]; exact Nat.le_refl _)]; by_cases z : 1 < x <;> simp [z, hm'], fun e he => hb e (hperm.mem_iff.mp he)⟩
      · have hm' : ¬ 2 < m := fun z => hm (decide_eq_true z)
        refine ⟨by show 0 ≤ sizeLine; decide, fun t' o ht oc od => ?_⟩
        exact q t' [] _ ⟨[], plt_new oc od, .nil⟩ ⟨.nil, fun x => by simp [getI, hm'], fun e he => by cases he⟩ (e1.trans (Ext.new ht _))
end
end K81

set_option Elab.async false
set_option linter.all false
set_option maxRecDepth 100000
set_option maxHeartbeats 4000000
namespace K81
open PySem PySem.Spec PyProof.Rows L2 Bk Evl
/-- the rests without a divisor in common with m -/
def unitsL (m : Nat) : List Nat := (List.range m).filter fun k => decide (Nat.gcd k m = 1)
section
variable {P : Program} {w : World} {K : PySem.W.Frag} {mg : Str → Option Value} {base : Heap}
/-! ### units -/
def spUnits (K : PySem.W.Frag) : Sp := fun vs H Q _ => ∃ m : Nat, vs = [.int m] ∧ (1 ≤ m ∧ m ≤ 1000) ∧ ∀ t H', PlT K H' t ((unitsL m).map fun k => V.int (k : Nat)) → Ext H H' → Q (.ref t) H'
theorem sc_units : FnScope ["modulus", "rest"] ["modulus"] (defScope s_units) := ⟨rfl, rfl, rfl, by decide +kernel, rfl, by decide +kernel, by decide +kernel⟩
theorem ok_units (T : Txt K mg) : Ok P w K mg base 2 (He.ga K "units") ["modulus"] (spUnits K) := by
  obtain ⟨fd_gcd, F_gcd, b_gcd, k_gcd, _⟩ := (ok_gcd (P := P) (w := w) (base := base) T).ex
  refine fd_ok T.f_units sc_units (fun vs H Q E h => ?_) (fun _ _ _ _ _ _ us hl => match us, hl with | [_], _ => rfl) (fun cdv A outer s H vs Q E hr h => ?_)
  · obtain ⟨m, rfl, _⟩ := h
    rfl
  · obtain ⟨m, rfl, ⟨m1, m2⟩, q⟩ := h
    have nd := sc_units.nd
    refine ⟨_, (pss_one (ps_ret (pe_tupleP rfl T.z_tuple (pe_lc (own := [("rest", 1)]) (g := (gName 1)) rfl nd (pi_range1 rfl T.z_range (pa_cons (pv 0) pa_nil)) (blkOk_by (own := [("rest", 1)]) (N := ["modulus", "rest"]) (sc := defScope s_units) (by decide +kernel)) (fun _ _ _ _ _ => (pg_name (i := 1) nd rfl (Or.inl rfl))) (fun _ _ _ _ _ => (pts_one (pt_cmpR op_eq (pe_call F_gcd (hr.mono (by decide)) rfl T.g_gcd k_gcd b_gcd .nil pass0 (pa_cons (pv 1) (pa_cons (pv 0) pa_nil))) pe_int (nomark _)))) (fun _ _ _ _ _ => (pv 1)))))), ?_⟩
    refine ⟨_, rfl, m, rfl, by omega, by omega, fun D hD => ?_⟩
    refine lc_range (lo := 0) (n := m) (Cw H (fun k => decide (Nat.gcd k m = 1)) (fun k => V.int (0 + (k : Int))) D) ⟨hD, Ex.new hD, upd_same⟩ (fun k H5 hk p => ?_) (fun H5 p => ?_)
    · refine ⟨rfl, cw_turn p (by omega) (fun H1 e Q q => ?_) (fun _ H1 e Q q => ⟨_, rfl, q H1 (Ex.refl H1)⟩)⟩
      refine ⟨_, rfl, _, rfl, k, m, ?_, ⟨rfl, _, rfl, ?_⟩⟩
      · show [V.int (0 + (k : Int)), V.int m] = _
        rw [show (0 + (k : Int)) = ((k : Nat) : Int) by omega]
      · rw [show decide (V.int ((Nat.gcd k m : Nat) : Int) = V.int 1) = decide (Nat.gcd k m = 1) from decide_eq_decide.mpr ⟨fun z => by injection z with z; omega, fun z => by rw [z]; rfl⟩]
        exact q H1 (Ex.refl H1)
    · obtain ⟨p1, p2, p3⟩ := p
      have e3 : H5 D = some (.lst ((unitsL m).map fun k => V.int (k : Nat))) := by
        rw [p3]
        unfold given unitsL
        congr 2
        refine List.map_congr_left fun x _ => ?_
        show V.int (0 + (x : Int)) = V.int ((x : Nat) : Int)
        congr 1
        omega
      refine ⟨D, _, rfl, SqL.of e3, fun t o ht oc od => ?_⟩
      exact q t _ (plt_new oc od) (Ext.trans p2 (Ext.new ht _))
end
end K81

set_option Elab.async false
set_option linter.all false
set_option maxRecDepth 100000
set_option maxHeartbeats 4000000
namespace K81
open PySem PySem.Spec PyProof.Rows L2 Bk Evl
/-- the first k powers of b by m -/
def powL (b m k : Nat) : List Nat := (List.range k).map fun i => b ^ i % m
theorem powL_succ (b m k : Nat) : powL b m (k + 1) = powL b m k ++ [b ^ k % m] := by
  unfold powL
  rw [List.range_succ, List.map_append] <;> rfl
theorem powL_len (b m k : Nat) : (powL b m k).length = k := by unfold powL; rw [List.length_map, List.length_range]
theorem powL_le {b m k : Nat} (hm : 1 ≤ m) (hn : (powL b m k).Nodup) : k ≤ m := by
  have h := List.Nodup.length_le_of_subset hn (l₂ := List.range m) fun x hx => by
    obtain ⟨i, _, rfl⟩ := List.mem_map.mp hx
    exact List.mem_range.mpr (Nat.mod_lt _ hm)
  rw [powL_len, List.length_range] at h
  exact h
theorem inV_nats (x : Nat) (l : List Nat) : inV (.int x) (l.map fun y => V.int (y : Nat)) = decide (x ∈ l) := by
  unfold inV
  rw [List.any_map]
  induction l with
  | nil => rfl
  | cons a l ih =>
    rw [List.any_cons, ih]
    show (eqV (.int (a : Int)) (.int (x : Int)) || _) = _
    have : eqV (.int (a : Int)) (.int (x : Int)) = decide (x = a) := by
      show decide ((a : Int) = (x : Int)) = _
      exact decide_eq_decide.mpr ⟨fun z => by omega, fun z => by omega⟩
    rw [this]
    by_cases h1 : x = a <;> by_cases h2 : x ∈ l <;> simp [h1, h2]
theorem flat_nats (l : List Nat) : (l.map fun y => V.int (y : Nat)).all flatV = true := List.all_eq_true.mpr fun v hv => by
  obtain ⟨y, _, rfl⟩ := List.mem_map.mp hv
  rfl
section
variable {P : Program} {w : World} {K : PySem.W.Frag} {mg : Str → Option Value} {base : Heap}
/-! ### powers -/
def spPowers (K : PySem.W.Frag) : Sp := fun vs H Q _ => ∃ b m : Nat, vs = [.int b, .int m] ∧ (1 ≤ m ∧ m ≤ 1000) ∧ b ≤ 1000 ∧ ∀ f k H', H' f = some (.lst ((powL b m k).map fun x => V.int (x : Nat))) → 1 ≤ k → (powL b m k).Nodup → b ^ k % m ∈ powL b m k → H f = none → Ext H H' → Q (.ref f) H'
theorem sc_powers : FnScope ["base", "modulus", "found", "here"] ["base", "modulus"] (defScope s_powers) := ⟨rfl, rfl, rfl, by decide +kernel, rfl, by decide +kernel, by decide +kernel⟩
theorem ok_powers (T : Txt K mg) : Ok P w K mg base 1 (He.ga K "powers") ["base", "modulus"] (spPowers K) := by
  refine fd_ok T.f_powers sc_powers (fun vs H Q E h => ?_) (fun _ _ _ _ _ _ us hl => match us, hl with | [_, _], _ => rfl) (fun cdv A outer s H vs Q E hr h => ?_)
  · obtain ⟨b, m, rfl, _⟩ := h
    rfl
  · obtain ⟨b, m, rfl, ⟨m1, m2⟩, b1, q⟩ := h
    have nd := sc_powers.nd
    refine ⟨_, (pss_cons (ps_par (i := 2) (j := 3) rfl nd rfl rfl (by decide) rfl rfl (pa_cons (pe_lst pa_nil) (pa_cons (pe_op op_mod (pe_callTy call_int1 rfl T.z_int (by decide +kernel) (pa_cons pe_int pa_nil)) (pv 1)) pa_nil)) (by rfl)) (pss_cons (ps_while PassesOwn.never (pt_cmpR op_notIn_seq (pv 3) (pv 2) rfl) (pss_cons (ps_expr (pe_bm PySem.F.plainAttrs_list PySem.F.slot_list_append PySem.F.type_list_append mt_append (pv 2) (pa_cons (pv 3) pa_nil))) (pss_one (ps_set (i := 3) nd rfl (Or.inl rfl) (pe_op op_mod (pe_callTy call_int1 rfl T.z_int (by decide +kernel) (pa_cons (pe_op op_mul (pv 3) (pv 0)) pa_nil)) (pv 1)))))) (pss_one (ps_ret (pv 2))))), ?_⟩
    refine ⟨by show 0 ≤ sizeLine; decide, fun f hf => .inl ⟨_, rfl, _, rfl, _, _, rfl, rfl, by omega, _, _, rfl, ?_⟩⟩
    refine ⟨fun n σ H' => ∃ k, σ = [some (.int b), some (.int m), some (.ref f), some (.int ((b ^ k % m : Nat) : Int))] ∧ H' f = some (.lst ((powL b m k).map fun x => V.int (x : Nat))) ∧ Ext H H' ∧ (powL b m k).Nodup ∧ n = m - k, ⟨m, 0, ?_, upd_same, Ext.new hf _, .nil, rfl⟩, ?_⟩
    · show _ = [some (V.int b), some (V.int m), some (V.ref f), some (V.int ((1 % m : Nat) : Int))]
      rw [Int.natCast_emod]
      rfl
    rintro n σ H1 ⟨k, rfl, hl, e1, hn, rfl⟩
    refine ⟨_, rfl, _, rfl, f, _, rfl, .inl (SqL.of hl), rfl, flat_nats _, _, rfl, ?_⟩
    rw [inV_nats]
    by_cases hin : b ^ k % m ∈ powL b m k
    · rw [decide_eq_true hin]
      have k1 : 1 ≤ k := by
        cases k with
        | zero => cases hin
        | succ k => omega
      exact ⟨_, rfl, q f k H1 hl k1 hn hin hf e1⟩
    · rw [decide_eq_false hin]
      have hn2 : (powL b m (k + 1)).Nodup := by
        rw [powL_succ, List.nodup_append]
        exact ⟨hn, by simp, fun a ha c hc z => hin (by simp at hc; rw [← hc, ← z]; exact ha)⟩
      have hk := powL_le m1 hn2
      refine ⟨fun σ H' => ∃ k', σ = [some (.int b), some (.int m), some (.ref f), some (.int ((b ^ k' % m : Nat) : Int))] ∧ H' f = some (.lst ((powL b m k').map fun x => V.int (x : Nat))) ∧ Ext H H' ∧ (powL b m k').Nodup ∧ m - k' < m - k, fun σ H' ⟨k', x1, x2, x3, x4, x5⟩ => ⟨m - k', x5, k', x1, x2, x3, x4, rfl⟩, ?_⟩
      refine ⟨_, rfl, .inl ⟨rfl, _, SqL.of hl⟩, _, rfl, f, _, _, rfl, rfl, hl, by rw [List.length_map, powL_len]; exact small_lt (by omega), ?_⟩
      have bm : b ^ k % m < m := Nat.mod_lt _ m1
      refine ⟨_, rfl, _, rfl, _, _, rfl, rfl, .inl ⟨by omega, by omega⟩, .inl ⟨_, rfl, _, rfl, _, _, rfl, rfl, by omega, k + 1, ?_, ?_, ?_, hn2, by omega⟩⟩
      · have e : ((b ^ k % m : Nat) : Int) * (b : Int) % (m : Int) = ((b ^ (k + 1) % m : Nat) : Int) := by
          rw [← Int.natCast_mul, ← Int.natCast_emod, Nat.pow_succ, Nat.mod_mul_mod]
        show [some (V.int b), some (V.int m), some (V.ref f), some (V.int (((b ^ k % m : Nat) : Int) * (b : Int) % (m : Int)))] = _
        rw [e]
      · rw [upd_same, powL_succ, List.map_append] <;> rfl
      · exact fun x o e => by rw [upd_ne (ne_of_none e hf)]; exact e1 x o e
end
end K81

set_option Elab.async false
set_option linter.all false
set_option maxRecDepth 100000
set_option maxHeartbeats 4000000
namespace K81
open PySem PySem.Spec PyProof.Rows L2 Bk Evl
/-- how many factors of b leave u -/
def nearR (m b : Nat) (u : Int) : Int := if 2 < (m : Int) ∧ 1 < u then sumR m u (toI (facN b)) else 0
theorem facN_small : ∀ b : Fin 13, (facN b.val).length ≤ 3 := by decide +kernel
theorem facN_len {b : Nat} (h : b ≤ 12) : (toI (facN b)).length ≤ 900 := by
  have := facN_small ⟨b, by omega⟩
  unfold toI
  rw [List.length_map]
  exact Nat.le_trans this (by decide)
theorem shareB_bd {a c : Nat} (h : shareB a c = true) : 1 ≤ c ∧ c ≤ 12 ∧ Nat.gcd c a = 1 := by
  unfold shareB at h
  rw [Bool.and_eq_true, Bool.and_eq_true] at h
  exact ⟨of_decide_eq_true h.1.1, of_decide_eq_true h.1.2, of_decide_eq_true h.2⟩
theorem nodup_asc {L : Prs} (h : L.Pairwise fun e f => e.1 < f.1) : (L.map (·.1)).Nodup :=
  List.pairwise_map.mpr (h.imp fun {a b} z => by omega)
theorem valV_nokey {kvs : List (Key × V)} {k : Key} (h : ∀ kv ∈ kvs, kv.1 ≠ k) : valV kvs k = none := by
  cases e : valV kvs k with
  | none => rfl
  | some x =>
    obtain ⟨kv, h1, h2⟩ := List.mem_map.mp (valV_in e)
    exact absurd h2 (h kv h1)
theorem paired_mem {α β : Type} {F : α → β → Prop} : ∀ {xs : List α} {ys : List β}, Paired F xs ys → ∀ x ∈ xs, ∃ y ∈ ys, F x y
  | _, _, .nil, x, h => by cases h
  | _, _, .cons f t, x, h => by
    rcases List.mem_cons.mp h with z | z
    · exact ⟨_, List.mem_cons_self, z ▸ f⟩
    · obtain ⟨y, h1, h2⟩ := paired_mem t x z
      exact ⟨y, List.mem_cons_of_mem _ h1, h2⟩
section
variable {P : Program} {w : World} {K : PySem.W.Frag} {mg : Str → Option Value} {base : Heap}
theorem paired_ent {H : Hp} : ∀ {ps : List Addr} {L : Prs}, Paired (fun p (q : Int × Int) => SqT K H p [.int q.1, .int q.2]) ps L → Paired (fun p (kv : Key × V) => SqT K H p [kV kv.1, kv.2]) ps (L.map entI)
  | _, _, .nil => .nil
  | _, _, .cons f t => .cons f (paired_ent t)
theorem dictOf {H : Hp} {t : Addr} {L : Prs} (hp : PairsAt K H t L) : ∃ ps : List Addr, PlT K H t (ps.map V.ref) ∧ Paired (fun p (kv : Key × V) => SqT K H p [kV kv.1, kv.2]) ps (L.map entI) :=
  let ⟨ps, h1, h2⟩ := hp
  ⟨ps, h1, paired_ent h2⟩
/-! ### spares -/
/-- a table from the rests us to pairs of f and g of them -/
def SpAt (H : Hp) (f g : Int → Int) (kvs : List (Key × V)) (us : List Nat) : Prop := Paired (fun (kv : Key × V) (u : Nat) => kv.1 = Sum.inl (u : Int) ∧ ∃ t, kv.2 = .ref t ∧ H t = some (.tup [.int (f u), .int (g u)])) kvs us
theorem SpAt.ext {H H' : Hp} {f g : Int → Int} {kvs : List (Key × V)} {us : List Nat} (h : SpAt H f g kvs us) (k : Ext H H') : SpAt H' f g kvs us :=
  L2.Paired.mapP h fun _ _ ⟨e, t, e2, e3⟩ => ⟨e, t, e2, k _ _ e3⟩
theorem SpAt.mapP {H H' : Hp} {f g : Int → Int} {kvs : List (Key × V)} {us : List Nat} (h : SpAt H f g kvs us) (k : ∀ x xs, H x = some (.tup xs) → H' x = some (.tup xs)) : SpAt H' f g kvs us :=
  L2.Paired.mapP h fun _ _ ⟨e, t, e2, e3⟩ => ⟨e, t, e2, k _ _ e3⟩
theorem unitsL_nodup (m : Nat) : (unitsL m).Nodup := List.Pairwise.filter _ List.nodup_range
theorem unitsL_len (m : Nat) : (unitsL m).length ≤ m := by
  unfold unitsL
  refine Nat.le_trans (List.length_filter_le _ _) ?_
  rw [List.length_range]
  exact Nat.le_refl m
def spSpares (K : PySem.W.Frag) : Sp := fun vs H Q _ => ∃ (r : Addr) (a b c m : Nat), vs = [.ref r, .int m] ∧ RuleAt K H r a b c ∧ okRule a b c ∧ (1 ≤ m ∧ m ≤ 1000) ∧
  ∀ d kvs H', H d = none → H' d = some (.dK kvs) → SpAt H' (nearR m b) (nearR m c) kvs (unitsL m) → Ext H H' → Q (.ref d) H'
theorem sc_spares : FnScope ["rule", "modulus", "near", "far", "rest"] ["rule", "modulus"] (defScope s_spares) := ⟨rfl, rfl, rfl, by decide +kernel, rfl, by decide +kernel, by decide +kernel⟩
theorem ok_spares (T : Txt K mg) : Ok P w K mg base 3 (He.ga K "spares") ["rule", "modulus"] (spSpares K) := by
  obtain ⟨fd_counts_of, F_counts_of, b_counts_of, k_counts_of, _⟩ := (ok_counts_of (P := P) (w := w) (base := base) T).ex
  obtain ⟨fd_factors_of, F_factors_of, b_factors_of, k_factors_of, _⟩ := (ok_factors_of (P := P) (w := w) (base := base) T).ex
  obtain ⟨fd_units, F_units, b_units, k_units, _⟩ := (ok_units (P := P) (w := w) (base := base) T).ex
  refine fd_ok T.f_spares sc_spares (fun vs H Q E h => ?_) (fun _ _ _ _ _ _ us hl => match us, hl with | [_, _], _ => rfl) (fun cdv A outer s H vs Q E hr h => ?_)
  · obtain ⟨r, a, b, c, m, rfl, _⟩ := h
    rfl
  · obtain ⟨r, a, b, c, m, rfl, R, ok, ⟨m1, m2⟩, q⟩ := h
    have nd := sc_spares.nd
    refine ⟨_, (pss_cons (ps_asg (pe_tup (pa_cons (pe_callTy (call_dictT rfl) rfl T.z_dict (by decide +kernel) (pa_cons (pe_call F_counts_of (hr.mono (by decide)) rfl T.g_counts_of k_counts_of b_counts_of .nil pass0 (pa_cons (pv 1) (pa_cons (pe_call F_factors_of (hr.mono (by decide)) rfl T.g_factors_of k_factors_of b_factors_of .nil pass0 (pa_cons (pe_fld (pv 0) rfl) pa_nil)) pa_nil))) pa_nil)) (pa_cons (pe_callTy (call_dictT rfl) rfl T.z_dict (by decide +kernel) (pa_cons (pe_call F_counts_of (hr.mono (by decide)) rfl T.g_counts_of k_counts_of b_counts_of .nil pass0 (pa_cons (pv 1) (pa_cons (pe_call F_factors_of (hr.mono (by decide)) rfl T.g_factors_of k_factors_of b_factors_of .nil pass0 (pa_cons (pe_fld (pv 0) rfl) pa_nil)) pa_nil))) pa_nil)) pa_nil))) (pg_tup rfl (pgs_cons (pg_name (i := 2) nd rfl (Or.inr rfl)) (pgs_cons (pg_name (i := 3) nd rfl (Or.inr rfl)) pgs_nil)))) (pss_one (ps_ret (pe_dc (own := [("rest", 4)]) (g := (gName 4)) (tt := tYes) rfl nd (pi_tup (pe_call F_units (hr.mono (by decide)) rfl T.g_units k_units b_units .nil pass0 (pa_cons (pv 1) pa_nil))) (blkOk_by (own := [("rest", 4)]) (N := ["rule", "modulus", "near", "far", "rest"]) (sc := defScope s_spares) (by decide +kernel)) (fun _ _ _ _ _ => (pg_name (i := 4) nd rfl (Or.inl rfl))) (fun _ _ _ _ _ => pts_nil) (fun _ _ _ _ _ => (pv 4)) (fun _ _ _ _ _ => (pe_tup (pa_cons (pe_dget2 (ru hr) (pv 2) (pv 4) pe_int ⟨rfl, rfl, rfl, rfl⟩) (pa_cons (pe_dget2 (ru hr) (pv 3) (pv 4) pe_int ⟨rfl, rfl, rfl, rfl⟩) pa_nil)))))))), ?_⟩
    obtain ⟨dx, mo, hr0, hmo⟩ := R.ex
    obtain ⟨⟨a1, a2⟩, hb, hc⟩ := id ok
    obtain ⟨b1, b2, _⟩ := shareB_bd hb
    obtain ⟨c1, c2, _⟩ := shareB_bd hc
    refine ⟨_, rfl, _, rfl, r, CR K, dx, _, _, rfl, hr0, T.c_Rule, T.n_Rule_first, rf4_first _ _ _ _, b, rfl, ⟨b1, by omega⟩, fun t1 H1 p1 e1 => ?_⟩
    refine ⟨m, t1, _, rfl, by omega, p1, facN_len b2, fun t2 L1 H2 p2 g1 e2 => ?_⟩
    obtain ⟨ps1, pl1, pp1⟩ := dictOf p2
    refine ⟨t2, ps1, _, rfl, pl1, pp1, fun d1 hd1 => ?_⟩
    rw [merge_entI (nodup_asc g1.asc)]
    have e3 := Ext.new hd1 (.dK (L1.map entI))
    have e03 := (e1.trans e2).trans e3
    have ht1 : upd H2 d1 (.dK (L1.map entI)) d1 = some (.dK (L1.map entI)) := upd_same
    generalize upd H2 d1 (.dK (L1.map entI)) = H3 at e3 e03 ht1 ⊢
    refine ⟨_, rfl, _, rfl, r, CR K, dx, _, _, rfl, e03 _ _ hr0, T.c_Rule, T.n_Rule_second, rf4_second _ _ _ _, c, rfl, ⟨c1, by omega⟩, fun t4 H4 p4 e4 => ?_⟩
    refine ⟨m, t4, _, rfl, by omega, p4, facN_len c2, fun t5 L2 H5 p5 g2 e5 => ?_⟩
    obtain ⟨ps2, pl2, pp2⟩ := dictOf p5
    refine ⟨t5, ps2, _, rfl, pl2, pp2, fun d2 hd2 => ?_⟩
    rw [merge_entI (nodup_asc g2.asc)]
    have e6 := Ext.new hd2 (.dK (L2.map entI))
    have ht2 : upd H5 d2 (.dK (L2.map entI)) d2 = some (.dK (L2.map entI)) := upd_same
    have ht1' := e6 _ _ (e5 _ _ (e4 _ _ ht1))
    have e06 := ((e03.trans e4).trans e5).trans e6
    generalize upd H5 d2 (.dK (L2.map entI)) = H6 at e6 e06 ht1' ht2 ⊢
    refine ⟨by show 2 ≤ sizeLine; decide, fun p hp => ⟨p, _, rfl, SqT.of upd_same, rfl, _, _, rfl, _, _, rfl, rfl, ?_⟩⟩
    have e7 := Ext.new hp (.tup [.ref d1, .ref d2])
    have e07 := e06.trans e7
    have ht1'' := e7 _ _ ht1'
    have ht2'' := e7 _ _ ht2
    generalize upd H6 p (.tup [.ref d1, .ref d2]) = H7 at e7 e07 ht1'' ht2'' ⊢
    refine ⟨_, rfl, m, rfl, ⟨m1, m2⟩, fun t H8 pl e8 => ⟨t, rfl, ⟨_, pl.sqt⟩, fun D hD => ?_⟩⟩
    have hk1 := e8 _ _ ht1''
    have hk2 := e8 _ _ ht2''
    refine dc_tup (xs := (unitsL m).map fun k => V.int (k : Nat)) (fun i H' => Ext H8 H' ∧ ∃ kvs, H' D = some (.dK kvs) ∧ SpAt H' (nearR m b) (nearR m c) kvs ((unitsL m).take i)) ⟨Ext.new hD _, [], upd_same, .nil⟩ (fun i H' _ p => sqt_ext pl.sqt p.1) (fun i x H' hx p => ?_) (fun H' p => ?_)
    · obtain ⟨e9, kvs, hkv, sp⟩ := p
      rw [List.getElem?_map] at hx
      obtain ⟨u, hu, rfl⟩ := Option.map_eq_some_iff.mp hx
      have tk : (unitsL m).take (i + 1) = (unitsL m).take i ++ [u] := by rw [List.take_add_one, hu] <;> rfl
      have il := (List.getElem?_eq_some_iff.mp hu).1
      have ul := unitsL_len m
      have kl : kvs.length = i := by rw [sp.length, List.length_take]; omega
      refine ⟨rfl, ?_⟩
      unfold tYes
      dsimp only
      rw [if_pos rfl]
      refine ⟨_, rfl, _, rfl, d1, rfl, .inl ⟨_, .inl (e9 _ _ hk1)⟩, _, rfl, _, .inl ⟨L1.map entI, Sum.inl (u : Int), .inl (e9 _ _ hk1), rfl, rfl⟩, ?_⟩
      refine ⟨_, rfl, d2, rfl, .inl ⟨_, .inl (e9 _ _ hk2)⟩, _, rfl, _, .inl ⟨L2.map entI, Sum.inl (u : Int), .inl (e9 _ _ hk2), rfl, rfl⟩, ?_⟩
      rw [getD_entI, getD_entI, g1.get, g2.get]
      refine ⟨by show 2 ≤ sizeLine; decide, fun tp htp => ?_⟩
      have hnk : valV kvs (Sum.inl (u : Int) : Key) = none := valV_nokey fun kv hkv' z => by
        obtain ⟨y, hy, hyk, _⟩ := paired_mem sp kv hkv'
        rw [hyk] at z
        have : y = u := by have := Sum.inl.inj z; omega
        subst this
        have nd2 := unitsL_nodup m
        rw [← List.take_append_drop (i + 1) (unitsL m), tk, List.nodup_append] at nd2
        have nd3 := nd2.1
        rw [List.nodup_append] at nd3
        exact nd3.2.2 y hy y (by simp) rfl
      have nDt : D ≠ tp := ne_of_none hkv htp
      refine ⟨kvs, Sum.inl (u : Int), rfl, by rw [upd_ne nDt]; exact hkv, small_lt (by omega), ?_⟩
      rw [putK_new _ hnk]
      have e10 := e9.trans (Ext.new htp (.tup [.int (nearR m b u), .int (nearR m c u)]))
      refine ⟨fun x o e => ?_, _, upd_same, ?_⟩
      · rw [upd_ne (ne_of_none e hD)]
        exact e10 x o e
      · rw [tk]
        have k2 : ∀ x xs, H' x = some (.tup xs) → upd (upd H' tp (.tup [.int (nearR m b u), .int (nearR m c u)])) D (.dK (kvs ++ [(Sum.inl (u : Int), V.ref tp)])) x = some (.tup xs) := fun x xs e => by
          rw [upd_ne (ne_of e hkv (by intro z; cases z)), upd_ne (ne_of_none e htp)]
          exact e
        exact Paired.snoc (SpAt.mapP sp k2) ⟨rfl, tp, rfl, by rw [upd_ne nDt.symm, upd_same]; rfl⟩
    · obtain ⟨e9, kvs, hkv, sp⟩ := p
      rw [List.length_map, List.take_length] at sp
      exact q D kvs H' (by
        cases z : H D with
        | none => rfl
        | some o => rw [e8 _ _ (e07 _ _ z)] at hD; cases hD) hkv sp ((e07.trans e8).trans e9)
end
end K81

set_option Elab.async false
set_option linter.all false
set_option maxRecDepth 100000
set_option maxHeartbeats 4000000
namespace K81
open PySem PySem.Spec PyProof.Rows L2 Bk Evl
/-! ### core_factors -/
/-- one factor, what of the divisor is left -/
def coreStep (s : Prs × Nat) (q : Int × Int) : Prs × Nat :=
  (if 0 < q.2 - ((takeOut 20 s.2 q.1.toNat).2 : Int) then s.1 ++ [(q.1, q.2 - ((takeOut 20 s.2 q.1.toNat).2 : Int))] else s.1, (takeOut 20 s.2 q.1.toNat).1)
def coreF (l : Prs) (s : Nat) : Prs × Nat := l.foldl coreStep ([], s)
theorem coreF_snoc (l : Prs) (s i : Nat) (q : Int × Int) (h : l[i]? = some q) : coreF (l.take (i + 1)) s = coreStep (coreF (l.take i) s) q := by
  unfold coreF
  rw [List.take_add_one, h, List.foldl_append]
  rfl
theorem coreStep_len (s : Prs × Nat) (q : Int × Int) : (coreStep s q).1.length ≤ s.1.length + 1 := by
  unfold coreStep
  dsimp only
  split
  · rw [List.length_append, List.length_singleton]; exact Nat.le_refl _
  · exact Nat.le_succ _
/-- a prime of a factor -/
def PrP (l : Prs) : Prop := ∀ q ∈ l, ∃ p : Nat, q.1 = p ∧ 2 ≤ p ∧ p ≤ 1000000
theorem prp_of {l : Prs} (h : ∀ q ∈ l, FacOne q) : PrP l := fun q hq => let ⟨p, a, b, c, _⟩ := h q hq; ⟨p, a, b, c⟩
section
variable {P : Program} {w : World} {K : PySem.W.Frag} {mg : Str → Option Value} {base : Heap}
def spCoreFac (K : PySem.W.Frag) : Sp := fun vs H Q _ => ∃ (t : Addr) (l : Prs) (s : Nat), vs = [.ref t, .int s] ∧ PairsAt K H t l ∧ PrP l ∧ l.length ≤ 900 ∧ (1 ≤ s ∧ s ≤ 1000000) ∧
  ∀ t' H', PairsAt K H' t' (coreF l s).1 → Ext H H' → Q (.ref t') H'
theorem sc_core_factors : FnScope ["factors", "shared", "found", "prime", "exponent"] ["factors", "shared"] (defScope s_core_factors) := ⟨rfl, rfl, rfl, by decide +kernel, rfl, by decide +kernel, by decide +kernel⟩
theorem ok_core_factors (T : Txt K mg) : Ok P w K mg base 1 (He.ga K "core_factors") ["factors", "shared"] (spCoreFac K) := by
  refine fd_ok T.f_core_factors sc_core_factors (fun vs H Q E h => ?_) (fun _ _ _ _ _ _ us hl => match us, hl with | [_, _], _ => rfl) (fun cdv A outer s H vs Q E hr h => ?_)
  · obtain ⟨t, l, s, rfl, _⟩ := h
    rfl
  · obtain ⟨t, l, s, rfl, hp, ok, hl, ⟨s1, s2⟩, q⟩ := h
    have nd := sc_core_factors.nd
    refine ⟨_, (pss_cons (ps_set (i := 2) nd rfl (Or.inl rfl) (pe_lst pa_nil)) (pss_cons (ps_for PassesOwn.never rfl (pi_tup (pv 0)) (pg_tup rfl (pgs_cons (pg_name (i := 3) nd rfl (Or.inl rfl)) (pgs_cons (pg_name (i := 4) nd rfl (Or.inl rfl)) pgs_nil))) (pss_cons (ps_while PassesOwn.never (pt_cmpR op_eq (pe_op op_mod (pe_callTy call_int1 rfl T.z_int (by decide +kernel) (pa_cons (pv 1) pa_nil)) (pv 3)) pe_int (nomark _)) (pss_one (ps_par (i := 1) (j := 4) rfl nd rfl rfl (by decide) rfl rfl (pa_cons (pe_op op_fdiv (pv 1) (pv 3)) (pa_cons (pe_op op_sub (pv 4) pe_int) pa_nil)) (by rfl)))) (pss_one (ps_if (pt_cmpR op_gt (pv 4) pe_int (nomark _)) (pss_one (ps_expr (pe_bm PySem.F.plainAttrs_list PySem.F.slot_list_append PySem.F.type_list_append mt_append (pv 2) (pa_cons (pe_tup (pa_cons (pv 3) (pa_cons (pv 4) pa_nil))) pa_nil)))) pss_nil)))) (pss_one (ps_ret (pe_tupleP rfl T.z_tuple (pv 2)))))), ?_⟩
    obtain ⟨ps, h1, h2⟩ := hp.sq
    refine ⟨by show 0 ≤ sizeLine; decide, fun fl hfl => ⟨_, rfl, t, rfl, ⟨_, sqt_ext h1 (Ext.new hfl _)⟩, ?_⟩⟩
    refine for_tup (xs := ps.map V.ref) (fun i σ H' => ∃ (u v : Option V), σ = [some (.ref t), some (.int (coreF (l.take i) s).2), some (.ref fl), u, v] ∧ PList H' fl (coreF (l.take i) s).1 ∧ Ext H H' ∧ (coreF (l.take i) s).1.length ≤ i ∧ (1 ≤ (coreF (l.take i) s).2 ∧ (coreF (l.take i) s).2 ≤ 1000000))
      ⟨_, _, rfl, ⟨[], upd_same, .nil⟩, Ext.new hfl _, Nat.le_refl 0, s1, s2⟩ ?_ ?_ ?_
    · rintro i σ H' _ ⟨u, v, rfl, _, e, _⟩
      exact sqt_ext h1 e
    · rintro i x σ H1 hx ⟨u, v, rfl, pl, e1, hl2, v1, v2⟩
      rw [List.getElem?_map] at hx
      obtain ⟨p, hpi, rfl⟩ := Option.map_eq_some_iff.mp hx
      obtain ⟨⟨q1, q2⟩, hq, hsq⟩ := paired_at h2 i p hpi
      dsimp only at hsq
      have il : i < l.length := (List.getElem?_eq_some_iff.mp hq).1
      obtain ⟨pn, e, n1, n2⟩ := ok _ (List.mem_of_getElem? hq)
      dsimp only at e
      subst e
      rw [coreF_snoc l s i _ hq]
      have ll := coreStep_len (coreF (l.take i) s) ((pn : Int), q2)
      generalize coreF (l.take i) s = cs at pl hl2 v1 v2 ll ⊢
      obtain ⟨ca, v⟩ := cs
      dsimp only at pl hl2 v1 v2 ll ⊢
      have pe : (pn : Int).toNat = pn := rfl
      refine ⟨p, _, rfl, sqt_ext hsq e1, rfl, _, _, rfl, _, _, rfl, rfl, ?_⟩
      -- the inner loop
      refine ⟨fun m σ H' => ∃ (v' fu : Nat) (e' : Int), σ = [some (.ref t), some (.int v'), some (.ref fl), some (.int pn), some (.int e')] ∧ H' = H1 ∧ (takeOut fu v' pn).1 = (takeOut 20 v pn).1 ∧ q2 - e' + (takeOut fu v' pn).2 = (takeOut 20 v pn).2 ∧ 1 ≤ v' ∧ v' < 2 ^ fu ∧ m = fu,
        ⟨20, v, 20, q2, rfl, rfl, rfl, by omega, v1, lt20 v2, rfl⟩, ?_⟩
      rintro m2 σ H2 ⟨v', fu, e', rfl, rfl, t1, t2, w1, w2, rfl⟩
      refine ⟨_, rfl, .inl ⟨_, rfl, _, rfl, _, _, rfl, rfl, by omega, rfl, _, rfl, ?_⟩⟩
      rw [dec_mod]
      refine ite2 (fun h0 => ?_) (fun h0 => ?_)
      · have h0' : v' % pn = 0 := of_decide_eq_true h0
        obtain ⟨g, rfl⟩ : ∃ g, m2 = g + 1 := by
          cases m2 with
          | zero => rw [Nat.pow_zero] at w2; omega
          | succ g => exact ⟨g, rfl⟩
        rw [takeOut_step _ _ _ h0'] at t1 t2
        dsimp only at t1 t2
        have hd := Nat.div_add_mod v' pn
        rw [h0', Nat.add_zero] at hd
        have pos : 1 ≤ v' / pn := by
          rcases Nat.eq_zero_or_pos (v' / pn) with z | z
          · rw [z, Nat.mul_zero] at hd; omega
          · exact z
        have lt : v' / pn < 2 ^ g := by
          rw [Nat.pow_succ] at w2
          have : 2 * (v' / pn) ≤ pn * (v' / pn) := Nat.mul_le_mul_right _ n1
          omega
        refine ⟨fun σ H' => ∃ (v' fu : Nat) (e' : Int), σ = [some (.ref t), some (.int v'), some (.ref fl), some (.int pn), some (.int e')] ∧ H' = H2 ∧ (takeOut fu v' pn).1 = (takeOut 20 v pn).1 ∧ q2 - e' + (takeOut fu v' pn).2 = (takeOut 20 v pn).2 ∧ 1 ≤ v' ∧ v' < 2 ^ fu ∧ fu < g + 1,
          fun σ H' ⟨v', fu, e', x1, x2, x3, x4, x5, x6, x7⟩ => ⟨fu, x7, v', fu, e', x1, x2, x3, x4, x5, x6, rfl⟩, ?_⟩
        refine ⟨_, rfl, _, rfl, _, _, rfl, rfl, ⟨by omega, by omega⟩, _, rfl, _, _, rfl, rfl, _, _, rfl, v' / pn, g, e' - 1, ?_, rfl, t1, by omega, pos, lt, by omega⟩
        show [some (V.ref t), some (V.int ((v' : Int) / (pn : Int))), some (V.ref fl), some (V.int pn), some (V.int (e' - 1))] = _
        rw [show ((v' : Int) / (pn : Int)) = ((v' / pn : Nat) : Int) from (Int.natCast_ediv v' pn).symm]
      · have h0' : ¬ v' % pn = 0 := fun z => h0 (decide_eq_true z)
        rw [takeOut_stop _ _ _ h0'] at t1 t2
        dsimp only at t1 t2
        have vpos := takeOut_pos 20 v pn v1 n1
        have vle := takeOut_le 20 v pn
        have ee : e' = q2 - ((takeOut 20 v pn).2 : Int) := by omega
        unfold coreStep at ll ⊢
        rw [pe] at ll ⊢
        dsimp only at ll ⊢
        rw [← ee] at ll ⊢
        rw [← t1] at vpos vle ⊢
        refine ⟨_, rfl, _, _, rfl, rfl, _, rfl, ?_⟩
        refine ite2 (fun hj => ?_) (fun hj => ?_)
        · have hj' : 0 < e' := of_decide_eq_true hj
          rw [if_pos hj'] at ll ⊢
          obtain ⟨ps', g1, g2⟩ := id pl
          refine ⟨_, rfl, .inl ⟨rfl, _, SqL.of g1⟩, _, rfl, _, rfl, by show 2 ≤ sizeLine; decide, fun tp htp => ?_⟩
          obtain ⟨g3, g4⟩ := pl.snoc (a := pn) (b := e') htp _ g1
          have nft : fl ≠ tp := ne_of_none g1 htp
          refine ⟨fl, _, _, rfl, rfl, by rw [upd_ne nft]; exact g1, by rw [g3]; exact small_lt (by omega), ?_⟩
          refine ⟨_, _, rfl, g4, fun x o e => ?_, by omega, vpos, by omega⟩
          rw [upd_ne (ne_of_none e hfl), upd_ne (ne_of_none (e1 x o e) htp)]
          exact e1 x o e
        · have hj' : ¬ 0 < e' := fun z => hj (decide_eq_true z)
          rw [if_neg hj'] at ll ⊢
          exact ⟨_, _, rfl, pl, e1, by omega, vpos, by omega⟩
    · rintro σ H1 ⟨u, v, rfl, pl, e1, _, _⟩
      have hlen : (ps.map V.ref).length = l.length := by rw [List.length_map, h2.length]
      rw [hlen, List.take_length] at pl ⊢
      obtain ⟨ps', g1, g2⟩ := id pl
      refine ⟨_, rfl, fl, _, rfl, SqL.of g1, fun t' o ht oc od => ?_⟩
      exact q t' _ (pl.pairs ht oc od _ g1) (e1.trans (Ext.new ht _))
end
end K81

set_option Elab.async false
set_option linter.all false
set_option maxRecDepth 100000
set_option maxHeartbeats 4000000
namespace K81
open PySem PySem.Spec PyProof.Rows L2 Bk Evl
/-! ### Number.shared -/
def takeUp : Nat → Nat → Nat → Int → Nat × Nat
  | 0, v, _, _ => (v, 0)
  | f + 1, v, p, e => if 0 < e ∧ v % p = 0 then ((takeUp f (v / p) p (e - 1)).1, (takeUp f (v / p) p (e - 1)).2 + 1) else (v, 0)
theorem takeUp_stop (f v p : Nat) (e : Int) (h : ¬ (0 < e ∧ v % p = 0)) : takeUp f v p e = (v, 0) := by
  cases f with
  | zero => rfl
  | succ f => exact if_neg h
theorem takeUp_step (f v p : Nat) (e : Int) (h : 0 < e ∧ v % p = 0) : takeUp (f + 1) v p e = ((takeUp f (v / p) p (e - 1)).1, (takeUp f (v / p) p (e - 1)).2 + 1) := if_pos h
theorem takeUp_mul : ∀ (f v p : Nat) (e : Int), (takeUp f v p e).1 * p ^ (takeUp f v p e).2 = v
  | 0, v, p, e => by show v * p ^ 0 = v; rw [Nat.pow_zero, Nat.mul_one]
  | f + 1, v, p, e => by
    by_cases h : 0 < e ∧ v % p = 0
    · rw [takeUp_step _ _ _ _ h]
      dsimp only
      rw [Nat.pow_succ, ← Nat.mul_assoc, takeUp_mul f (v / p) p (e - 1)]
      have := Nat.div_add_mod v p
      rw [h.2, Nat.add_zero, Nat.mul_comm] at this
      exact this
    · rw [takeUp_stop _ _ _ _ h]
      show v * p ^ 0 = v
      rw [Nat.pow_zero, Nat.mul_one]
def shStep (s : Nat × Nat) (q : Int × Int) : Nat × Nat := ((takeUp 20 s.1 q.1.toNat q.2).1, s.2 * q.1.toNat ^ (takeUp 20 s.1 q.1.toNat q.2).2)
def shF (l : Prs) (a : Nat) : Nat × Nat := l.foldl shStep (a, 1)
theorem shF_snoc (l : Prs) (a i : Nat) (q : Int × Int) (h : l[i]? = some q) : shF (l.take (i + 1)) a = shStep (shF (l.take i) a) q := by
  unfold shF
  rw [List.take_add_one, h, List.foldl_append]
  rfl
theorem shStep_mul (s : Nat × Nat) (q : Int × Int) : (shStep s q).1 * (shStep s q).2 = s.1 * s.2 := by
  unfold shStep
  dsimp only
  have h := takeUp_mul 20 s.1 q.1.toNat q.2
  rw [Nat.mul_comm s.2, ← Nat.mul_assoc, h]
theorem shF_mul (l : Prs) (a : Nat) : (shF l a).1 * (shF l a).2 = a := by
  unfold shF
  have : ∀ (l : Prs) (s : Nat × Nat), (l.foldl shStep s).1 * (l.foldl shStep s).2 = s.1 * s.2 := fun l => by
    induction l with
    | nil => exact fun s => rfl
    | cons q l ih => exact fun s => (ih (shStep s q)).trans (shStep_mul s q)
  rw [this]
  exact Nat.mul_one a
theorem mul_le2 {v f a : Nat} (h : v * f = a) (ha : 1 ≤ a) : 1 ≤ v ∧ v ≤ a ∧ 1 ≤ f ∧ f ≤ a := by
  have h1 : 1 ≤ v := by
    rcases Nat.eq_zero_or_pos v with z | z
    · rw [z, Nat.zero_mul] at h; omega
    · exact z
  have h2 : 1 ≤ f := by
    rcases Nat.eq_zero_or_pos f with z | z
    · rw [z, Nat.mul_zero] at h; omega
    · exact z
  refine ⟨h1, ?_, h2, ?_⟩
  · rw [← h]; exact Nat.le_mul_of_pos_right v h2
  · rw [← h]; exact Nat.le_mul_of_pos_left f h1
section
variable {P : Program} {w : World} {K : PySem.W.Frag} {mg : Str → Option Value} {base : Heap}
def spShared (K : PySem.W.Frag) : Sp := fun vs H Q _ => ∃ (n : Addr) (l : Prs) (v : V) (a : Nat), vs = [.ref n, .int a] ∧ NumAt K H n l v ∧ PrP l ∧ (1 ≤ a ∧ a ≤ 1000000) ∧ Q (.int (shF l a).2) H
theorem sc_Number_shared : FnScope ["self", "value", "found", "prime", "exponent"] ["self", "value"] (defScope s_Number_shared) := ⟨rfl, rfl, rfl, by decide +kernel, rfl, by decide +kernel, by decide +kernel⟩
theorem ok_Number_shared (T : Txt K mg) : Ok P w K mg base 4 (He.ma K (He.ga K "Number") "shared") ["self", "value"] (spShared K) := by
  obtain ⟨fd_check_number, F_check_number, b_check_number, k_check_number, _⟩ := (ok_check_number (P := P) (w := w) (base := base) T).ex
  obtain ⟨t_MOST_SMALL, m_MOST_SMALL⟩ := T.i_MOST_SMALL
  refine fd_ok T.f_Number_shared sc_Number_shared (fun vs H Q E h => ?_) (fun _ _ _ _ _ _ us hl => match us, hl with | [_, _], _ => rfl) (fun cdv A outer s H vs Q E hr h => ?_)
  · obtain ⟨n, l, v, a, rfl, _⟩ := h
    rfl
  · obtain ⟨n, l, vv, a, rfl, N, ok, ⟨a1, a2⟩, q⟩ := h
    have nd := sc_Number_shared.nd
    refine ⟨_, (pss_cons (ps_expr (pe_call F_check_number (hr.mono (by decide)) rfl T.g_check_number k_check_number b_check_number .nil pass0 (pa_cons (pv 1) (pa_cons pe_int (pa_cons (pe_glob (v := .int 1000000) rfl m_MOST_SMALL ⟨_, rfl⟩) pa_nil))))) (pss_cons (ps_set (i := 2) nd rfl (Or.inl rfl) pe_int) (pss_cons (ps_for PassesOwn.never rfl (pi_tup (pe_fld (pv 0) rfl)) (pg_tup rfl (pgs_cons (pg_name (i := 3) nd rfl (Or.inl rfl)) (pgs_cons (pg_name (i := 4) nd rfl (Or.inl rfl)) pgs_nil))) (pss_one (ps_while PassesOwn.never (PW.pt (pw_and (pt_cmpR op_gt (pv 4) pe_int (nomark _)) (pw_and1 (pt_cmpR op_eq (pe_op op_mod (pe_callTy call_int1 rfl T.z_int (by decide +kernel) (pa_cons (pv 1) pa_nil)) (pv 3)) pe_int (nomark _))))) (pss_one (ps_par3 (i := 1) (j := 4) (l := 2) rfl nd rfl rfl rfl (by decide) (by decide) (by decide) rfl rfl rfl (pa_cons (pe_op op_fdiv (pv 1) (pv 3)) (pa_cons (pe_op op_sub (pv 4) pe_int) (pa_cons (pe_op op_mul (pv 2) (pv 3)) pa_nil))) (by rfl)))))) (pss_one (ps_ret (pv 2)))))), ?_⟩
    obtain ⟨dn, t, hn, hp⟩ := N.ex
    obtain ⟨ps, h1, h2⟩ := hp.sq
    refine ⟨_, rfl, a, 1, 1000000, rfl, ⟨by omega, by omega⟩, ?_⟩
    refine ⟨_, rfl, n, CN K, dn, _, _, rfl, hn, T.c_Number, T.n_Number_factors, nf_factors _ _, t, rfl, ⟨_, h1⟩, ?_⟩
    refine for_tup (xs := ps.map V.ref) (fun i σ H' => ∃ (u v : Option V), σ = [some (.ref n), some (.int (shF (l.take i) a).1), some (.int (shF (l.take i) a).2), u, v] ∧ H' = H)
      ⟨_, _, rfl, rfl⟩ ?_ ?_ ?_
    · rintro i σ H' _ ⟨u, v, rfl, rfl⟩
      exact h1
    · rintro i x σ H1 hx ⟨u, v, rfl, rfl⟩
      rw [List.getElem?_map] at hx
      obtain ⟨p, hpi, rfl⟩ := Option.map_eq_some_iff.mp hx
      obtain ⟨⟨q1, q2⟩, hq, hsq⟩ := paired_at h2 i p hpi
      dsimp only at hsq
      obtain ⟨pn, e, n1, n2⟩ := ok _ (List.mem_of_getElem? hq)
      dsimp only at e
      subst e
      have hm := shF_mul (l.take i) a
      rw [shF_snoc l a i _ hq]
      generalize shF (l.take i) a = cs at hm ⊢
      obtain ⟨v, f⟩ := cs
      dsimp only at hm ⊢
      obtain ⟨v1, v2, f1, f2⟩ := mul_le2 hm a1
      have pe : (pn : Int).toNat = pn := rfl
      refine ⟨p, _, rfl, hsq, rfl, _, _, rfl, _, _, rfl, rfl, ?_⟩
      -- the inner loop
      refine ⟨fun m σ H' => ∃ (v' fu f' : Nat) (e' : Int), σ = [some (.ref n), some (.int v'), some (.int f'), some (.int pn), some (.int e')] ∧ H' = H1 ∧ (takeUp fu v' pn e').1 = (takeUp 20 v pn q2).1 ∧ f' * pn ^ (takeUp fu v' pn e').2 = f * pn ^ (takeUp 20 v pn q2).2 ∧ v' * f' = a ∧ v' < 2 ^ fu ∧ m = fu,
        ⟨20, v, 20, f, q2, rfl, rfl, rfl, rfl, hm, lt20 (by omega), rfl⟩, ?_⟩
      rintro m2 σ H2 ⟨v', fu, f', e', rfl, rfl, t1, t2, w1, w2, rfl⟩
      obtain ⟨v1', v2', f1', f2'⟩ := mul_le2 w1 a1
      have stop : ¬ (0 < e' ∧ v' % pn = 0) → shStep (v, f) ((pn : Int), q2) = (v', f') := fun hno => by
        rw [takeUp_stop _ _ _ _ hno] at t1 t2
        dsimp only at t1 t2
        rw [Nat.pow_zero, Nat.mul_one] at t2
        unfold shStep
        dsimp only
        rw [pe, ← t1, ← t2]
      refine ⟨_, rfl, _, _, rfl, rfl, _, rfl, ?_⟩
      refine ite2 (fun he => ?_) (fun he => ?_)
      · have he' : 0 < e' := of_decide_eq_true he
        refine ⟨_, rfl, .inl ⟨_, rfl, _, rfl, _, _, rfl, rfl, by omega, rfl, _, rfl, ?_⟩⟩
        rw [dec_mod]
        refine ite2 (fun h0 => ?_) (fun h0 => ?_)
        · have h0' : v' % pn = 0 := of_decide_eq_true h0
          obtain ⟨g, rfl⟩ : ∃ g, m2 = g + 1 := by
            cases m2 with
            | zero => rw [Nat.pow_zero] at w2; omega
            | succ g => exact ⟨g, rfl⟩
          rw [takeUp_step _ _ _ _ ⟨he', h0'⟩] at t1 t2
          dsimp only at t1 t2
          have hd := Nat.div_add_mod v' pn
          rw [h0', Nat.add_zero] at hd
          have lt : v' / pn < 2 ^ g := by
            rw [Nat.pow_succ] at w2
            have : 2 * (v' / pn) ≤ pn * (v' / pn) := Nat.mul_le_mul_right _ n1
            omega
          refine ⟨fun σ H' => ∃ (v' fu f' : Nat) (e' : Int), σ = [some (.ref n), some (.int v'), some (.int f'), some (.int pn), some (.int e')] ∧ H' = H2 ∧ (takeUp fu v' pn e').1 = (takeUp 20 v pn q2).1 ∧ f' * pn ^ (takeUp fu v' pn e').2 = f * pn ^ (takeUp 20 v pn q2).2 ∧ v' * f' = a ∧ v' < 2 ^ fu ∧ fu < g + 1,
            fun σ H' ⟨v', fu, f', e', x1, x2, x3, x4, x5, x6, x7⟩ => ⟨fu, x7, v', fu, f', e', x1, x2, x3, x4, x5, x6, rfl⟩, ?_⟩
          refine ⟨_, rfl, _, rfl, _, _, rfl, rfl, ⟨by omega, by omega⟩, _, rfl, _, _, rfl, rfl, _, rfl, _, rfl, _, _, rfl, rfl, .inl ⟨by omega, by omega⟩, _, _, _, rfl, v' / pn, g, f' * pn, e' - 1, ?_, rfl, t1, ?_, ?_, lt, by omega⟩
          · show [some (V.ref n), some (V.int ((v' : Int) / (pn : Int))), some (V.int ((f' : Int) * (pn : Int))), some (V.int pn), some (V.int (e' - 1))] = _
            rw [show ((v' : Int) / (pn : Int)) = ((v' / pn : Nat) : Int) from (Int.natCast_ediv v' pn).symm, show ((f' : Int) * (pn : Int)) = ((f' * pn : Nat) : Int) from (Int.natCast_mul f' pn).symm]
          · rw [← t2, Nat.pow_succ, Nat.mul_assoc, Nat.mul_comm (pn ^ _) pn]
          · rw [← w1]
            calc v' / pn * (f' * pn) = (pn * (v' / pn)) * f' := by rw [Nat.mul_comm f' pn, ← Nat.mul_assoc, Nat.mul_comm (v' / pn) pn]
              _ = v' * f' := by rw [hd]
        · rw [stop fun z => h0 (decide_eq_true z.2)]
          exact ⟨_, _, rfl, rfl⟩
      · rw [stop fun z => he (decide_eq_true z.1)]
        exact ⟨_, _, rfl, rfl⟩
    · rintro σ H1 ⟨u, v, rfl, rfl⟩
      have hlen : (ps.map V.ref).length = l.length := by rw [List.length_map, h2.length]
      rw [hlen, List.take_length]
      exact ⟨_, rfl, q⟩
end
end K81

set_option Elab.async false
set_option linter.all false
set_option maxRecDepth 100000
set_option maxHeartbeats 4000000
namespace K81
open PySem PySem.Spec PyProof.Rows L2 Bk Evl
/-! ### tables into one another -/
def mergeI (es fs : Prs) : Prs := fs.foldl (fun a e => putI a e.1 e.2) es
theorem merge_mapI : ∀ (fs es : Prs), mergeK (es.map entI) (fs.map entI) = (mergeI es fs).map entI
  | [], _ => rfl
  | e :: fs, es => by
    show mergeK (putK (es.map entI) (Sum.inl e.1 : Key) (.int e.2)) (fs.map entI) = (mergeI (putI es e.1 e.2) fs).map entI
    rw [putK_entI, merge_mapI fs]
theorem merge_keys : ∀ (fs es : Prs) (x : Int), x ∈ (mergeI es fs).map (·.1) ↔ x ∈ es.map (·.1) ∨ x ∈ fs.map (·.1)
  | [], es, x => by simp [mergeI]
  | e :: fs, es, x => by
    show x ∈ (mergeI (putI es e.1 e.2) fs).map (·.1) ↔ _
    rw [merge_keys fs, mem_put, List.map_cons, List.mem_cons]
    constructor
    · rintro ((h | h) | h)
      · exact .inr (.inl h)
      · exact .inl h
      · exact .inr (.inr h)
    · rintro (h | h | h)
      · exact .inl (.inr h)
      · exact .inl (.inl h)
      · exact .inr h
theorem merge_nodup : ∀ (fs es : Prs), (es.map (·.1)).Nodup → ((mergeI es fs).map (·.1)).Nodup
  | [], _, h => h
  | e :: fs, es, h => merge_nodup fs (putI es e.1 e.2) (nodup_put h)
theorem merge_len : ∀ (fs es : Prs), (mergeI es fs).length ≤ es.length + fs.length
  | [], _ => Nat.le_refl _
  | e :: fs, es => by
    have h := merge_len fs (putI es e.1 e.2)
    have := len_put es e.1 e.2
    show (mergeI (putI es e.1 e.2) fs).length ≤ _
    rw [List.length_cons]
    omega
theorem coreStep_sub (s : Prs × Nat) (q : Int × Int) : ((coreStep s q).1.map (·.1)).Sublist (s.1.map (·.1) ++ [q.1]) := by
  unfold coreStep
  dsimp only
  split
  · rw [List.map_append]
    exact List.Sublist.refl _
  · exact List.sublist_append_left _ _
theorem coreGo_sub : ∀ (l : Prs) (s : Prs × Nat), ((l.foldl coreStep s).1.map (·.1)).Sublist (s.1.map (·.1) ++ l.map (·.1))
  | [], s => by simp
  | q :: l, s => by
    have h := coreGo_sub l (coreStep s q)
    rw [List.foldl_cons]
    refine h.trans ?_
    rw [List.map_cons, show s.1.map (·.1) ++ q.1 :: l.map (·.1) = (s.1.map (·.1) ++ [q.1]) ++ l.map (·.1) by simp]
    exact (coreStep_sub s q).append (List.Sublist.refl _)
theorem coreF_sub (l : Prs) (s : Nat) : ((coreF l s).1.map (·.1)).Sublist (l.map (·.1)) := by
  have h := coreGo_sub l ([], s)
  rw [List.map_nil, List.nil_append] at h
  exact h
theorem coreF_asc {l : Prs} {s : Nat} (h : l.Pairwise fun a b => a.1 < b.1) : (coreF l s).1.Pairwise fun a b => a.1 < b.1 :=
  List.pairwise_map.mp ((List.pairwise_map.mpr h : (l.map (·.1)).Pairwise (· < ·)).sublist (coreF_sub l s))
theorem coreF_len (l : Prs) (s : Nat) : (coreF l s).1.length ≤ l.length := by
  have h := (coreF_sub l s).length_le
  rwa [List.length_map, List.length_map] at h
theorem facN_asc12 : ∀ b : Fin 13, (facN b.val).Pairwise fun x y => x.1 < y.1 := by decide +kernel
theorem facN_asc {b : Nat} (h : b ≤ 12) : (toI (facN b)).Pairwise fun x y => x.1 < y.1 := by
  have := facN_asc12 ⟨b, by omega⟩
  unfold toI
  rw [List.pairwise_map]
  exact this.imp fun {x y} z => Int.ofNat_lt.mpr z
theorem facN_len3 {b : Nat} (h : b ≤ 12) : (toI (facN b)).length ≤ 3 := by
  have := facN_small ⟨b, by omega⟩
  unfold toI
  rwa [List.length_map]
theorem shF_div (l : Prs) (a : Nat) : (shF l a).2 ∣ a := ⟨(shF l a).1, by rw [Nat.mul_comm]; exact (shF_mul l a).symm⟩
abbrev Trs : Type := List (Int × Int × Int)
/-- the spans of a core with the factors cl -/
structure SpansOf (cl : Prs) (b c : Nat) (L : Trs) : Prop where
  asc : L.Pairwise fun x y => x.1 < y.1
  keys : ∀ x, x ∈ L.map (·.1) ↔ x ∈ cl.map (·.1) ∨ x ∈ (toI (facN b)).map (·.1) ∨ x ∈ (toI (facN c)).map (·.1)
  ends : ∀ q ∈ L, q.2.1 = -getI cl q.1 - getI (toI (facN b)) q.1 ∧ q.2.2 = getI cl q.1 + getI (toI (facN c)) q.1
def spanOf (cl : Prs) (b c : Nat) (p : Int) : Int × Int × Int := (p, -getI cl p - getI (toI (facN b)) p, getI cl p + getI (toI (facN c)) p)
section
variable {P : Program} {w : World} {K : PySem.W.Frag} {mg : Str → Option Value} {base : Heap}
def CC (K : PySem.W.Frag) : Addr := He.ga K "Core"
def cf (r : Addr) (m : Int) (t s : Addr) : List (Str × V) := [("rule", V.ref r), ("modulus", V.int m), ("factors", V.ref t), ("spans", V.ref s)]
theorem cf_rule (r : Addr) (m : Int) (t s : Addr) : (cf r m t s).lookup ("rule" : Str) = some (.ref r) := by rfl
theorem cf_modulus (r : Addr) (m : Int) (t s : Addr) : (cf r m t s).lookup ("modulus" : Str) = some (.int m) := by rfl
theorem cf_factors (r : Addr) (m : Int) (t s : Addr) : (cf r m t s).lookup ("factors" : Str) = some (.ref t) := by rfl
theorem cf_spans (r : Addr) (m : Int) (t s : Addr) : (cf r m t s).lookup ("spans" : Str) = some (.ref s) := by rfl
/-- a list of triples of ints -/
def TrisAt (H : Hp) (a : Addr) (L : Trs) : Prop := ∃ ts : List Addr, H a = some (.lst (ts.map V.ref)) ∧ Paired (fun p (q : Int × Int × Int) => H p = some (.tup [.int q.1, .int q.2.1, .int q.2.2])) ts L
theorem TrisAt.ext {H H' : Hp} {a : Addr} {L : Trs} (h : TrisAt H a L) (k : Ext H H') : TrisAt H' a L :=
  let ⟨ts, h1, h2⟩ := h
  ⟨ts, k _ _ h1, L2.Paired.mapP h2 fun _ _ e => k _ _ e⟩
def modF (l : Prs) (a : Nat) : Nat := a / (shF l a).2
def clF (l : Prs) (a : Nat) : Prs := (coreF l (shF l a).2).1
structure CoreAt (K : PySem.W.Frag) (H : Hp) (x r : Addr) (a b c : Nat) (l : Prs) (L : Trs) : Prop where
  ex : ∃ dx t s, H x = some (.ins (CC K) dx (cf r (modF l a) t s)) ∧ PairsAt K H t (clF l a) ∧ TrisAt H s L
  spans : SpansOf (clF l a) b c L
theorem CoreAt.ext {H H' : Hp} {x r : Addr} {a b c : Nat} {l : Prs} {L : Trs} (C : CoreAt K H x r a b c l L) (k : Ext H H') : CoreAt K H' x r a b c l L :=
  let ⟨dx, t, s, h1, h2, h3⟩ := C.ex
  ⟨⟨dx, t, s, k _ _ h1, h2.ext k, h3.ext k⟩, C.spans⟩
theorem RuleAt.but {H H' : Hp} {x r C dx : Addr} {fs : List (Str × V)} {a b c : Nat} (R : RuleAt K H r a b c) (k : But x H H') (hx : H x = some (.ins C dx fs)) (hne : r ≠ x) : RuleAt K H' r a b c := by
  obtain ⟨dr, m, h1, h2⟩ := R.ex
  exact ⟨dr, m, k _ _ h1 hne, k _ _ h2 (ne_of h2 hx (by intro z; cases z))⟩
/-! ### Core(rule, number) -/
def spCoreInit (K : PySem.W.Frag) : Sp := fun vs H Q _ => ∃ (x r n dx : Addr) (a b c : Nat) (l : Prs) (v : V), vs = [.ref x, .ref r, .ref n] ∧ H x = some (.ins (CC K) dx []) ∧ r ≠ x ∧ n ≠ x ∧ RuleAt K H r a b c ∧ okRule a b c ∧ NumAt K H n l v ∧ FacOk l ∧
  ∀ L H', CoreAt K H' x r a b c l L → But x H H' → Q .non H'
theorem sc_Core_init : FnScope ["self", "rule", "number", "shared", "here", "near", "far", "primes", "prime", "many"] ["self", "rule", "number"] (defScope s_Core_uuinit__) := ⟨rfl, rfl, rfl, by decide +kernel, rfl, by decide +kernel, by decide +kernel⟩
theorem ok_Core_init (T : Txt K mg) : Ok P w K mg base 5 (He.ma K (He.ga K "Core") "__init__") ["self", "rule", "number"] (spCoreInit K) := by
  obtain ⟨fd_Number_shared, F_Number_shared, b_Number_shared, k_Number_shared, _⟩ := (ok_Number_shared (P := P) (w := w) (base := base) T).ex
  obtain ⟨fd_core_factors, F_core_factors, b_core_factors, k_core_factors, _⟩ := (ok_core_factors (P := P) (w := w) (base := base) T).ex
  obtain ⟨fd_factors_of, F_factors_of, b_factors_of, k_factors_of, _⟩ := (ok_factors_of (P := P) (w := w) (base := base) T).ex
  refine fd_ok T.f_Core_uuinit__ sc_Core_init (fun vs H Q E h => ?_) (fun _ _ _ _ _ _ us hl => match us, hl with | [_, _, _], _ => rfl) (fun cdv A outer s H vs Q E hr h => ?_)
  · obtain ⟨x, r, n, dx, a, b, c, l, v, rfl, _⟩ := h
    rfl
  · obtain ⟨x, r, n, dx, a, b, c, l, v, rfl, hx, nrx, nnx, R, ok, N, fo, q⟩ := h
    have nd := sc_Core_init.nd
    refine ⟨_, (pss_cons (ps_set (i := 3) nd rfl (Or.inl rfl) (pe_meth (pv 2) T.c_Number T.m_Number_shared F_Number_shared (hr.mono (by decide)) b_Number_shared .nil pass0 (pa_cons (pe_fld (pv 1) rfl) pa_nil))) (pss_cons (ps_asg (pe_tup (pa_cons (pv 1) (pa_cons (pe_op op_fdiv (pe_fld (pv 1) rfl) (pv 3)) pa_nil))) (pg_tup rfl (pgs_cons (pg_fld (pv 0)) (pgs_cons (pg_fld (pv 0)) pgs_nil)))) (pss_cons (ps_fld (pv 0) (pe_call F_core_factors (hr.mono (by decide)) rfl T.g_core_factors k_core_factors b_core_factors .nil pass0 (pa_cons (pe_fld (pv 2) rfl) (pa_cons (pv 3) pa_nil))) rfl) (pss_cons (ps_par3 (i := 4) (j := 5) (l := 6) rfl nd rfl rfl rfl (by decide) (by decide) (by decide) rfl rfl rfl (pa_cons (pe_callTy (call_dictT rfl) rfl T.z_dict (by decide +kernel) (pa_cons (pe_fld (pv 0) rfl) pa_nil)) (pa_cons (pe_callTy (call_dictT rfl) rfl T.z_dict (by decide +kernel) (pa_cons (pe_call F_factors_of (hr.mono (by decide)) rfl T.g_factors_of k_factors_of b_factors_of .nil pass0 (pa_cons (pe_fld (pv 1) rfl) pa_nil)) pa_nil)) (pa_cons (pe_callTy (call_dictT rfl) rfl T.z_dict (by decide +kernel) (pa_cons (pe_call F_factors_of (hr.mono (by decide)) rfl T.g_factors_of k_factors_of b_factors_of .nil pass0 (pa_cons (pe_fld (pv 1) rfl) pa_nil)) pa_nil)) pa_nil))) (by rfl)) (pss_cons (ps_set (i := 7) nd rfl (Or.inl rfl) (pe_callB (call_sortedDI rfl) rfl T.z_sorted (by decide +kernel) (pa_cons (pe_star3 (pv 4) (pv 5) (pv 6)) pa_nil))) (pss_cons (ps_fld (pv 0) (pe_lst pa_nil) rfl) (pss_one (ps_for PassesOwn.never rfl (pi_list (pv 7)) (pg_name (i := 8) nd rfl (Or.inl rfl)) (pss_cons (ps_set (i := 9) nd rfl (Or.inl rfl) (pe_dget2 (ru hr) (pv 4) (pv 8) pe_int ⟨rfl, rfl, rfl, rfl⟩)) (pss_one (ps_expr (pe_bm PySem.F.plainAttrs_list PySem.F.slot_list_append PySem.F.type_list_append mt_append (pe_fld (pv 0) rfl) (pa_cons (pe_tup (pa_cons (pv 8) (pa_cons (pe_op op_sub (pe_un un_neg (pv 9)) (pe_dget2 (ru hr) (pv 5) (pv 8) pe_int ⟨rfl, rfl, rfl, rfl⟩)) (pa_cons (pe_op op_add (pv 9) (pe_dget2 (ru hr) (pv 6) (pv 8) pe_int ⟨rfl, rfl, rfl, rfl⟩)) pa_nil)))) pa_nil))))))))))))), ?_⟩
    obtain ⟨dr, mo, hr0, hmo⟩ := R.ex
    obtain ⟨dn, t, hn, hp⟩ := id N.ex
    obtain ⟨⟨a1, a2⟩, hb, hc⟩ := id ok
    obtain ⟨b1, b2, _⟩ := shareB_bd hb
    obtain ⟨c1, c2, _⟩ := shareB_bd hc
    have hsm := shF_mul l a
    obtain ⟨_, _, sh1, sh2⟩ := mul_le2 hsm (by omega)
    have prp := prp_of fo.one
    -- shared = number.shared(rule.parts)
    refine ⟨_, rfl, n, dn, _, rfl, hn, rfl, _, rfl, r, CR K, dr, _, _, rfl, hr0, T.c_Rule, T.n_Rule_parts, rf4_parts _ _ _ _, n, l, v, a, rfl, N, prp, ⟨by omega, by omega⟩, ?_⟩
    have hsd : modF l a = a / (shF l a).2 := rfl
    have hcl : clF l a = (coreF l (shF l a).2).1 := rfl
    generalize (shF l a).2 = sh at sh1 sh2 hsd hcl ⊢
    -- self.rule, self.modulus = ..
    refine ⟨_, rfl, _, rfl, r, CR K, dr, _, _, rfl, hr0, T.c_Rule, T.n_Rule_parts, rf4_parts _ _ _ _, _, rfl, _, _, rfl, rfl, ⟨by omega, by omega⟩, by show 2 ≤ sizeLine; decide, fun p hp0 => ?_⟩
    have npx : x ≠ p := ne_of_none hx hp0
    have em : ((a : Int) / (sh : Int)) = (modF l a : Int) := by rw [hsd]; exact (Int.natCast_ediv a sh).symm
    have e1 := Ext.new hp0 (.tup [.ref r, .int ((a : Int) / (sh : Int))])
    refine ⟨p, _, rfl, SqT.of upd_same, rfl, _, _, rfl, _, rfl, x, CC K, dx, _, rfl, e1 _ _ hx, T.c_Core, T.n_Core_rule, by show 0 < 1000; decide, ?_⟩
    refine ⟨_, _, rfl, _, rfl, x, CC K, dx, _, rfl, upd_same, T.c_Core, T.n_Core_modulus, by show 1 < 1000; decide, rfl, ?_⟩
    have b1' : But x H (upd (upd (upd H p (.tup [.ref r, .int ((a : Int) / (sh : Int))])) x (.ins (CC K) dx (putF "rule" (.ref r) []))) x (.ins (CC K) dx (putF "modulus" (.int ((a : Int) / (sh : Int))) (putF "rule" (.ref r) [])))) := fun y o e ne => by
      rw [upd_ne ne, upd_ne ne]
      exact e1 _ _ e
    have hx1 : upd (upd (upd H p (.tup [.ref r, .int ((a : Int) / (sh : Int))])) x (.ins (CC K) dx (putF "rule" (.ref r) []))) x (.ins (CC K) dx (putF "modulus" (.int ((a : Int) / (sh : Int))) (putF "rule" (.ref r) []))) x = some (.ins (CC K) dx (putF "modulus" (.int ((a : Int) / (sh : Int))) (putF "rule" (.ref r) []))) := upd_same
    generalize upd (upd (upd H p (.tup [.ref r, .int ((a : Int) / (sh : Int))])) x (.ins (CC K) dx (putF "rule" (.ref r) []))) x (.ins (CC K) dx (putF "modulus" (.int ((a : Int) / (sh : Int))) (putF "rule" (.ref r) []))) = H1 at b1' hx1 ⊢
    rw [em] at hx1
    have hr1 := b1' _ _ hr0 nrx
    have hn1 := b1' _ _ hn nnx
    have hp1 := hp.but b1' hx
    -- self.factors = core_factors(number.factors, shared)
    refine ⟨_, rfl, n, CN K, dn, _, _, rfl, hn1, T.c_Number, T.n_Number_factors, nf_factors _ _, _, rfl, t, l, sh, rfl, hp1, prp, Nat.le_trans fo.len (by decide), ⟨sh1, by omega⟩, fun t2 H2 p2 e2 => ?_⟩
    rw [← hcl] at p2
    refine ⟨_, rfl, x, CC K, dx, _, rfl, e2 _ _ hx1, T.c_Core, T.n_Core_factors, by show 2 < 1000; decide, ?_⟩
    have hx2 := e2 _ _ hx1
    have b2' : But x H1 (upd H2 x (.ins (CC K) dx (putF "factors" (.ref t2) (putF "modulus" (.int (modF l a)) (putF "rule" (.ref r) []))))) := fun y o e ne => by
      rw [upd_ne ne]
      exact e2 _ _ e
    have p3 := p2.but (but_of_upd (n := x) (o := .ins (CC K) dx (putF "factors" (.ref t2) (putF "modulus" (.int (modF l a)) (putF "rule" (.ref r) []))))) hx2
    have hx3 : upd H2 x (.ins (CC K) dx (putF "factors" (.ref t2) (putF "modulus" (.int (modF l a)) (putF "rule" (.ref r) [])))) x = some (.ins (CC K) dx (putF "factors" (.ref t2) (putF "modulus" (.int (modF l a)) (putF "rule" (.ref r) [])))) := upd_same
    generalize upd H2 x (.ins (CC K) dx (putF "factors" (.ref t2) (putF "modulus" (.int (modF l a)) (putF "rule" (.ref r) [])))) = H3 at b2' p3 hx3 ⊢
    have hr3 := b2' _ _ hr1 nrx
    have clasc : (clF l a).Pairwise fun x y => x.1 < y.1 := coreF_asc fo.asc
    have cllen : (clF l a).length ≤ 12 := Nat.le_trans (coreF_len _ _) fo.len
    -- here, near, far = ..
    obtain ⟨ps1, pl1, pp1⟩ := dictOf p3
    refine ⟨_, rfl, x, CC K, dx, _, _, rfl, hx3, T.c_Core, T.n_Core_factors, rfl, t2, ps1, _, rfl, pl1, pp1, fun d1 hd1 => ?_⟩
    rw [merge_entI (nodup_asc clasc)]
    have e4 := Ext.new hd1 (.dK ((clF l a).map entI))
    have k1 : upd H3 d1 (.dK ((clF l a).map entI)) d1 = some (.dK ((clF l a).map entI)) := upd_same
    generalize upd H3 d1 (.dK ((clF l a).map entI)) = H4 at e4 k1 ⊢
    refine ⟨_, rfl, r, CR K, dr, _, _, rfl, e4 _ _ hr3, T.c_Rule, T.n_Rule_first, rf4_first _ _ _ _, b, rfl, ⟨b1, by omega⟩, fun t5 H5 p5 e5 => ?_⟩
    obtain ⟨ps2, pl2, pp2⟩ := dictOf p5
    refine ⟨t5, ps2, _, rfl, pl2, pp2, fun d2 hd2 => ?_⟩
    rw [merge_entI (nodup_asc (facN_asc b2))]
    have e6 := Ext.new hd2 (.dK ((toI (facN b)).map entI))
    have k2 : upd H5 d2 (.dK ((toI (facN b)).map entI)) d2 = some (.dK ((toI (facN b)).map entI)) := upd_same
    generalize upd H5 d2 (.dK ((toI (facN b)).map entI)) = H6 at e6 k2 ⊢
    have e36 := (e4.trans e5).trans e6
    refine ⟨_, rfl, r, CR K, dr, _, _, rfl, e36 _ _ hr3, T.c_Rule, T.n_Rule_second, rf4_second _ _ _ _, c, rfl, ⟨c1, by omega⟩, fun t7 H7 p7 e7 => ?_⟩
    obtain ⟨ps3, pl3, pp3⟩ := dictOf p7
    refine ⟨t7, ps3, _, rfl, pl3, pp3, fun d3 hd3 => ?_⟩
    rw [merge_entI (nodup_asc (facN_asc c2))]
    have e8 := Ext.new hd3 (.dK ((toI (facN c)).map entI))
    have k3 : upd H7 d3 (.dK ((toI (facN c)).map entI)) d3 = some (.dK ((toI (facN c)).map entI)) := upd_same
    generalize upd H7 d3 (.dK ((toI (facN c)).map entI)) = H8 at e8 k3 ⊢
    have e38 := (e36.trans e7).trans e8
    have k1 := e8 _ _ (e7 _ _ (e6 _ _ (e5 _ _ k1)))
    have k2 := e8 _ _ (e7 _ _ k2)
    refine ⟨_, _, _, rfl, ?_⟩
    have e39 := e38
    have hx9 := e39 _ _ hx3
    have p9' := p3.ext e39
    have bH8 : But x H H8 := fun y o e ne => e39 _ _ (b2' _ _ (b1' _ _ e ne) ne)
    clear e4 e5 e6 e7 e8 e36 e38 e39 p3 hx3 pl1 pp1 pl2 pp2 pl3 pp3 p5 p7 p2 hx2 e2
    -- primes = sorted({**here, **near, **far})
    intro u hu
    have nu1 : u ≠ d1 := (ne_of_none k1 hu).symm
    have nu2 : u ≠ d2 := (ne_of_none k2 hu).symm
    have nu3 : u ≠ d3 := (ne_of_none k3 hu).symm
    have l2 := facN_len3 b2
    have l3 := facN_len3 c2
    refine ⟨_, rfl, d1, _, [], rfl, by rw [upd_ne nu1.symm]; exact k1, upd_same, nu1, by rw [List.length_map]; exact small_line (by show 0 + _ ≤ 1000; omega), ?_⟩
    rw [upd_upd, merge_entI (nodup_asc clasc)]
    refine ⟨_, rfl, d2, _, _, rfl, by rw [upd_ne nu2.symm]; exact k2, upd_same, nu2, by rw [List.length_map, List.length_map]; exact small_line (by omega), ?_⟩
    rw [upd_upd, merge_mapI]
    have l4 := merge_len (toI (facN b)) (clF l a)
    refine ⟨_, rfl, d3, _, _, rfl, by rw [upd_ne nu3.symm]; exact k3, upd_same, nu3, by rw [List.length_map, List.length_map]; exact small_line (by omega), ?_⟩
    rw [upd_upd, merge_mapI]
    have l5 := merge_len (toI (facN c)) (mergeI (clF l a) (toI (facN b)))
    refine ⟨u, _, (mergeI (mergeI (clF l a) (toI (facN b))) (toI (facN c))).map (·.1), rfl, .inl upd_same, by rw [List.map_map, List.map_map]; rfl, by rw [List.length_map]; omega, fun ys pr perm rise hpr => ?_⟩
    have ylen : ys.length ≤ 18 := by
      have := perm.length_eq
      rw [List.length_map] at this
      omega
    have e10 := (Ext.new hu (.dK ((mergeI (mergeI (clF l a) (toI (facN b))) (toI (facN c))).map entI))).trans (Ext.new hpr (.lst (ys.map V.int)))
    have hys : upd (upd H8 u (.dK ((mergeI (mergeI (clF l a) (toI (facN b))) (toI (facN c))).map entI))) pr (.lst (ys.map V.int)) pr = some (.lst (ys.map V.int)) := upd_same
    generalize upd (upd H8 u (.dK ((mergeI (mergeI (clF l a) (toI (facN b))) (toI (facN c))).map entI))) pr (.lst (ys.map V.int)) = H10 at e10 hys ⊢
    have ykeys : ∀ y, y ∈ ys ↔ y ∈ (clF l a).map (·.1) ∨ y ∈ (toI (facN b)).map (·.1) ∨ y ∈ (toI (facN c)).map (·.1) := fun y => by
      rw [perm.mem_iff, merge_keys, merge_keys, or_assoc]
    have yasc : ys.Pairwise (· < ·) := by
      have nd : ys.Nodup := perm.nodup_iff.mpr (merge_nodup _ _ (merge_nodup _ _ (nodup_asc clasc)))
      exact (List.pairwise_and_iff.mpr ⟨rise, nd⟩).imp fun {x y} h => by
        have h1 : x ≤ y := h.1
        have h2 : x ≠ y := h.2
        omega
    -- self.spans = []
    have hx10 := e10 _ _ hx9
    refine ⟨by show 0 ≤ sizeLine; decide, fun sl hsl => ⟨_, rfl, x, CC K, dx, _, rfl, (Ext.new hsl _) _ _ hx10, T.c_Core, T.n_Core_spans, by show 3 < 1000; decide, ?_⟩⟩
    have nxs : x ≠ sl := ne_of_none hx10 hsl
    have n1 := ne_of_none (e10 _ _ k1) hsl
    have n2 := ne_of_none (e10 _ _ k2) hsl
    have n3 := ne_of_none (e10 _ _ k3) hsl
    have nsp := ne_of_none hys hsl
    have hx11 : upd (upd H10 sl (.lst [])) x (.ins (CC K) dx (putF "spans" (.ref sl) (putF "factors" (.ref t2) (putF "modulus" (.int (modF l a)) (putF "rule" (.ref r) []))))) x = some (.ins (CC K) dx (cf r (modF l a) t2 sl)) := upd_same
    have hs11 : upd (upd H10 sl (.lst [])) x (.ins (CC K) dx (putF "spans" (.ref sl) (putF "factors" (.ref t2) (putF "modulus" (.int (modF l a)) (putF "rule" (.ref r) []))))) sl = some (.lst []) := by rw [upd_ne nxs.symm, upd_same]
    have e11 : But x H10 (upd (upd H10 sl (.lst [])) x (.ins (CC K) dx (putF "spans" (.ref sl) (putF "factors" (.ref t2) (putF "modulus" (.int (modF l a)) (putF "rule" (.ref r) [])))))) := fun y o e ne => by
      rw [upd_ne ne, upd_ne (ne_of_none e hsl)]
      exact e
    generalize upd (upd H10 sl (.lst [])) x (.ins (CC K) dx (putF "spans" (.ref sl) (putF "factors" (.ref t2) (putF "modulus" (.int (modF l a)) (putF "rule" (.ref r) []))))) = H11 at hx11 hs11 e11 ⊢
    have hk : ∀ y o, H10 y = some o → (∀ C dx fs, o ≠ .ins C dx fs) → H11 y = some o := fun y o e hno => e11 _ _ e fun z => by
      rw [z, hx10] at e
      exact hno _ _ _ (Option.some.inj e).symm
    have k1 := hk _ _ (e10 _ _ k1) (by intro _ _ _ z; cases z)
    have k2 := hk _ _ (e10 _ _ k2) (by intro _ _ _ z; cases z)
    have k3 := hk _ _ (e10 _ _ k3) (by intro _ _ _ z; cases z)
    have hys := hk _ _ hys (by intro _ _ _ z; cases z)
    have p11 : PairsAt K H11 t2 (clF l a) := (p9'.ext e10).but e11 hx10
    have b11 : But x H H11 := fun y o e ne => e11 _ _ (e10 _ _ (bH8 _ _ e ne)) ne
    -- the loop
    refine ⟨_, rfl, pr, rfl, ⟨_, SqL.of hys⟩, ?_⟩
    refine for_list (xs := ys.map V.int) (fun i σ H' => ∃ (u v : Option V), σ = [some (.ref x), some (.ref r), some (.ref n), some (.int sh), some (.ref d1), some (.ref d2), some (.ref d3), some (.ref pr), u, v] ∧ (∀ y o, H11 y = some o → y ≠ sl → H' y = some o) ∧ TrisAt H' sl ((ys.take i).map (spanOf (clF l a) b c)))
      ⟨_, _, rfl, fun _ _ e _ => e, [], hs11, .nil⟩ ?_ ?_ ?_
    · rintro i σ H' _ ⟨u, v, rfl, e, _⟩
      exact SqL.of (e _ _ hys nsp)
    · rintro i y0 σ H' hy0 ⟨u, v, rfl, e, ts, hts, hpt⟩
      rw [List.getElem?_map] at hy0
      obtain ⟨y, hy, rfl⟩ := Option.map_eq_some_iff.mp hy0
      have tk : ys.take (i + 1) = ys.take i ++ [y] := by rw [List.take_add_one, hy] <;> rfl
      have il := (List.getElem?_eq_some_iff.mp hy).1
      have tl : ts.length = i := by rw [hpt.length, List.length_map, List.length_take]; omega
      have k1 := e _ _ k1 n1
      have k2 := e _ _ k2 n2
      have k3 := e _ _ k3 n3
      have hx' := e _ _ hx11 nxs
      refine ⟨_, rfl, d1, rfl, .inl ⟨_, .inl k1⟩, _, rfl, _, .inl ⟨(clF l a).map entI, Sum.inl y, .inl k1, rfl, rfl⟩, ?_⟩
      rw [getD_entI]
      refine ⟨_, rfl, x, CC K, dx, _, _, rfl, hx', T.c_Core, T.n_Core_spans, cf_spans _ _ _ _, .inl ⟨rfl, _, SqL.of hts⟩, ?_⟩
      refine ⟨_, rfl, _, rfl, _, rfl, _, rfl, d2, rfl, .inl ⟨_, .inl k2⟩, _, rfl, _, .inl ⟨(toI (facN b)).map entI, Sum.inl y, .inl k2, rfl, rfl⟩, ?_⟩
      rw [getD_entI]
      refine ⟨_, _, rfl, rfl, _, rfl, _, rfl, d3, rfl, .inl ⟨_, .inl k3⟩, _, rfl, _, .inl ⟨(toI (facN c)).map entI, Sum.inl y, .inl k3, rfl, rfl⟩, ?_⟩
      rw [getD_entI]
      refine ⟨_, _, rfl, rfl, by show 3 ≤ sizeLine; decide, fun tp htp => ?_⟩
      have nst : sl ≠ tp := ne_of_none hts htp
      refine ⟨sl, _, _, rfl, rfl, by rw [upd_ne nst]; exact hts, by rw [List.length_map]; exact small_lt (by omega), ?_⟩
      refine ⟨_, _, rfl, fun z o e' ne => ?_, ts ++ [tp], by rw [upd_same, List.map_append]; rfl, ?_⟩
      · rw [upd_ne ne, upd_ne (ne_of_none (e _ _ e' ne) htp)]
        exact e _ _ e' ne
      · rw [tk, List.map_append]
        refine Paired.snoc (L2.Paired.mapP hpt fun q z w => ?_) ?_
        · rw [upd_ne (ne_of w hts (by intro z; cases z)), upd_ne (ne_of_none w htp)]
          exact w
        · rw [upd_ne nst.symm, upd_same]
          rfl
    · rintro σ H' ⟨u, v, rfl, e, tri⟩
      have hyl : (ys.map V.int).length = ys.length := List.length_map _
      rw [hyl, List.take_length] at tri
      refine q _ H' ⟨⟨dx, t2, sl, e _ _ hx11 nxs, ?_, tri⟩, ⟨?_, fun y => ?_, fun q hq => ?_⟩⟩ fun y o e' ne => e _ _ (b11 _ _ e' ne) (ne_of_none (e10 _ _ (bH8 _ _ e' ne)) hsl)
      · exact (p9'.ext e10).but (fun y o e' ne => e _ _ (e11 _ _ e' ne) (ne_of_none e' hsl)) hx10
      · rw [List.pairwise_map]
        exact yasc
      · rw [List.map_map]
        rw [← ykeys y]
        have : ys.map ((fun x : Int × Int × Int => x.1) ∘ spanOf (clF l a) b c) = ys := (List.map_congr_left fun _ _ => rfl).trans (List.map_id ys)
        rw [this]
      · obtain ⟨y, _, rfl⟩ := List.mem_map.mp hq
        exact ⟨rfl, rfl⟩
end
end K81

set_option Elab.async false
set_option linter.all false
set_option maxRecDepth 100000
set_option maxHeartbeats 4000000
namespace K81
/-! ### powers with any exponent, by a modulus up to 12, plainly -/
/-- the rest of b ^ e -/
def pw (b : Nat) (e : Int) (m : Nat) : Nat := b ^ (e % 60).toNat % m
theorem ord_all : ∀ m : Fin 13, ∀ b : Fin 12, ∀ k : Fin 13, 1 ≤ m.val → b.val < m.val → Nat.gcd b.val m.val = 1 → 1 ≤ k.val → (powL b.val m.val k.val).Nodup → b.val ^ k.val % m.val ∈ powL b.val m.val k.val → 60 % k.val = 0 ∧ b.val ^ k.val % m.val = 1 % m.val := by decide +kernel
theorem ord_of {b m k : Nat} (m1 : 1 ≤ m) (m2 : m ≤ 12) (hb : b < m) (hg : Nat.gcd b m = 1) (k1 : 1 ≤ k) (nd : (powL b m k).Nodup) (hm : b ^ k % m ∈ powL b m k) : k ∣ 60 ∧ b ^ k % m = 1 % m ∧ k ≤ 12 := by
  have hk := powL_le m1 nd
  obtain ⟨h1, h2⟩ := ord_all ⟨m, by omega⟩ ⟨b, by omega⟩ ⟨k, by omega⟩ m1 hb hg k1 nd hm
  exact ⟨Nat.dvd_of_mod_eq_zero h1, h2, by omega⟩
theorem pow_mod_ord {b m k n : Nat} (h : b ^ k % m = 1 % m) : b ^ n % m = b ^ (n % k) % m := by
  have e : b ^ n = (b ^ k) ^ (n / k) * b ^ (n % k) := by rw [← Nat.pow_mul, ← Nat.pow_add, Nat.div_add_mod]
  rw [e, Nat.mul_mod, Nat.pow_mod, h, ← Nat.pow_mod, Nat.one_pow, ← Nat.mul_mod, Nat.one_mul]
theorem toNat_mod {e : Int} {k : Nat} (k1 : 1 ≤ k) (h : k ∣ 60) : (e % 60).toNat % k = (e % (k : Int)).toNat := by
  have h1 : (e % 60) % (k : Int) = e % (k : Int) := Int.emod_emod_of_dvd e (by exact_mod_cast h)
  have h2 := Int.emod_nonneg e (show (60 : Int) ≠ 0 by decide)
  have h3 := Int.emod_nonneg e (show (k : Int) ≠ 0 by omega)
  rw [← h1]
  have h4 : ((e % 60).toNat : Int) = e % 60 := Int.toNat_of_nonneg h2
  rw [← h4, ← Int.natCast_emod]
  rfl
theorem pw_ord {b m k : Nat} {e : Int} (k1 : 1 ≤ k) (h : k ∣ 60) (hp : b ^ k % m = 1 % m) : pw b e m = b ^ (e % (k : Int)).toNat % m := by
  unfold pw
  rw [pow_mod_ord hp, toNat_mod k1 h]
theorem pw_base (b : Nat) (e : Int) (m : Nat) : pw (b % m) e m = pw b e m := by
  unfold pw
  exact (Nat.pow_mod b _ m).symm
theorem pw_lt {b m : Nat} {e : Int} (m1 : 1 ≤ m) : pw b e m < m := Nat.mod_lt _ m1
/-- the found powers told at an exponent -/
theorem powL_at {b m k : Nat} {e : Int} (k1 : 1 ≤ k) (h : k ∣ 60) (hp : b ^ k % m = 1 % m) : (e % (k : Int)).toNat < k ∧ (powL b m k)[(e % (k : Int)).toNat]? = some (pw b e m) := by
  have h1 := Int.emod_nonneg e (show (k : Int) ≠ 0 by omega)
  have h2 := Int.emod_lt_of_pos e (show (0 : Int) < k by omega)
  have h3 : (e % (k : Int)).toNat < k := by omega
  refine ⟨h3, ?_⟩
  unfold powL
  rw [List.getElem?_map, List.getElem?_range h3, pw_ord k1 h hp]
  rfl
/-- all powers, where the exponents are as many as the powers -/
theorem powL_all {b m k : Nat} {lo hi : Int} (k1 : 1 ≤ k) (h : k ∣ 60) (hp : b ^ k % m = 1 % m) (hd : (k : Int) ≤ hi - lo) (x : Nat) : x ∈ powL b m k ↔ ∃ e : Int, (lo ≤ e ∧ e ≤ hi) ∧ x = pw b e m := by
  constructor
  · intro hx
    obtain ⟨i, hi', rfl⟩ := List.mem_map.mp hx
    have hi2 := List.mem_range.mp hi'
    refine ⟨lo + ((i : Int) - lo) % (k : Int), ?_, ?_⟩
    · have h1 := Int.emod_nonneg ((i : Int) - lo) (show (k : Int) ≠ 0 by omega)
      have h2 := Int.emod_lt_of_pos ((i : Int) - lo) (show (0 : Int) < k by omega)
      omega
    · rw [pw_ord k1 h hp, Int.add_emod_emod, show lo + ((i : Int) - lo) = (i : Int) by omega, Int.emod_eq_of_lt (by omega) (by omega)]
      rfl
  · rintro ⟨e, _, rfl⟩
    exact List.mem_of_getElem? (powL_at k1 h hp).2
/-- the exponents may be cut -/
theorem pw_cut {b m : Nat} {lo hi : Int} (m1 : 1 ≤ m) (m2 : m ≤ 12) (hg : Nat.gcd b m = 1) (hlo : lo ≤ 0) (hhi : 0 ≤ hi) {c : Int} (hc : 12 ≤ c) (x : Nat) :
    (∃ e : Int, (lo ≤ e ∧ e ≤ hi) ∧ x = pw b e m) ↔ ∃ e : Int, (max lo (-c) ≤ e ∧ e ≤ min hi c) ∧ x = pw b e m := by
  have hord : ∀ b : Nat, b < m → Nat.gcd b m = 1 → ∃ k, 1 ≤ k ∧ k ≤ 12 ∧ k ∣ 60 ∧ b ^ k % m = 1 % m := by
    have all : ∀ m : Fin 13, ∀ b : Fin 12, 1 ≤ m.val → b.val < m.val → Nat.gcd b.val m.val = 1 → ∃ k : Fin 13, 1 ≤ k.val ∧ 60 % k.val = 0 ∧ b.val ^ k.val % m.val = 1 % m.val := by decide +kernel
    intro b hb hg
    obtain ⟨k, h1, h2, h3⟩ := all ⟨m, by omega⟩ ⟨b, by omega⟩ m1 hb hg
    exact ⟨k.val, h1, by omega, Nat.dvd_of_mod_eq_zero h2, h3⟩
  obtain ⟨k, k1, k2, k3, k4⟩ := hord (b % m) (Nat.mod_lt _ m1) (by rw [← Nat.gcd_rec m b, Nat.gcd_comm]; exact hg)
  constructor
  · rintro ⟨e, ⟨h1, h2⟩, rfl⟩
    by_cases g1 : e < -c
    · refine ⟨e % (k : Int) - k, ?_, ?_⟩
      · have h1 := Int.emod_nonneg e (show (k : Int) ≠ 0 by omega)
        have h2 := Int.emod_lt_of_pos e (show (0 : Int) < k by omega)
        omega
      · rw [← pw_base b e, ← pw_base b (e % (k : Int) - k), pw_ord k1 k3 k4, pw_ord k1 k3 k4, Int.sub_emod_right, Int.emod_emod_of_dvd e (Int.dvd_refl _)]
    · by_cases g2 : c < e
      · refine ⟨e % (k : Int), ?_, ?_⟩
        · have h1 := Int.emod_nonneg e (show (k : Int) ≠ 0 by omega)
          have h2 := Int.emod_lt_of_pos e (show (0 : Int) < k by omega)
          omega
        · rw [← pw_base b e, ← pw_base b (e % (k : Int)), pw_ord k1 k3 k4, pw_ord k1 k3 k4, Int.emod_emod_of_dvd e (Int.dvd_refl _)]
      · exact ⟨e, by omega, rfl⟩
  · rintro ⟨e, h1, rfl⟩
    exact ⟨e, by omega, rfl⟩
/-! ### reach -/
abbrev Sps : Type := List (Nat × Int × Int)
def stepP (m : Nat) (S : Nat → Prop) (q : Nat × Int × Int) (x : Nat) : Prop := ∃ s, S s ∧ ∃ e : Int, (q.2.1 ≤ e ∧ e ≤ q.2.2) ∧ x = s * pw q.1 e m % m
def reachFrom (m : Nat) (S : Nat → Prop) (l : Sps) : Nat → Prop := l.foldl (stepP m) S
def reachP (m : Nat) (l : Sps) : Nat → Prop := reachFrom m (fun x => x = 1 % m) l
theorem reach_snoc (m : Nat) (S : Nat → Prop) (l : Sps) (q : Nat × Int × Int) : reachFrom m S (l ++ [q]) = stepP m (reachFrom m S l) q := by
  unfold reachFrom
  rw [List.foldl_append]
  rfl
theorem stepP_congr {m : Nat} {S S' : Nat → Prop} {q : Nat × Int × Int} (h : ∀ x, S x ↔ S' x) (x : Nat) : stepP m S q x ↔ stepP m S' q x := by
  unfold stepP
  constructor
  · rintro ⟨s, a, b⟩
    exact ⟨s, (h s).mp a, b⟩
  · rintro ⟨s, a, b⟩
    exact ⟨s, (h s).mpr a, b⟩
theorem reachFrom_congr {m : Nat} : ∀ (l : Sps) {S S' : Nat → Prop}, (∀ x, S x ↔ S' x) → ∀ x, reachFrom m S l x ↔ reachFrom m S' l x
  | [], _, _, h => h
  | q :: l, _, _, h => reachFrom_congr l (fun x => stepP_congr h x)
/-- an ascending row of the rests of S -/
structure RowOf (m : Nat) (S : Nat → Prop) (L : List Nat) : Prop where
  asc : L.Pairwise (· < ·)
  mem : ∀ x, x ∈ L ↔ S x
  lt : ∀ x ∈ L, x < m
theorem asc_len : ∀ {L : List Nat} {a m : Nat}, L.Pairwise (· < ·) → (∀ x ∈ L, a ≤ x ∧ x < m) → L.length ≤ m - a
  | [], a, m, _, _ => Nat.zero_le _
  | y :: L, a, m, h, hb => by
    rw [List.pairwise_cons] at h
    have h1 := hb y List.mem_cons_self
    have := asc_len (a := y + 1) (m := m) h.2 fun x hx => ⟨h.1 x hx, (hb x (List.mem_cons_of_mem _ hx)).2⟩
    rw [List.length_cons]
    omega
theorem RowOf.len {m : Nat} {S : Nat → Prop} {L : List Nat} (r : RowOf m S L) : L.length ≤ m := asc_len (a := 0) r.asc fun x hx => ⟨Nat.zero_le _, r.lt x hx⟩
theorem asc_ext : ∀ {L M : List Nat}, L.Pairwise (· < ·) → M.Pairwise (· < ·) → (∀ x, x ∈ L ↔ x ∈ M) → L = M
  | [], [], _, _, _ => rfl
  | [], y :: M, _, _, h => absurd ((h y).mpr List.mem_cons_self) (by simp)
  | x :: L, [], _, _, h => absurd ((h x).mp List.mem_cons_self) (by simp)
  | x :: L, y :: M, h1, h2, h => by
    rw [List.pairwise_cons] at h1 h2
    have exy : x = y := by
      have a := (h x).mp List.mem_cons_self
      have b := (h y).mpr List.mem_cons_self
      rcases List.mem_cons.mp a with z | z
      · exact z
      · rcases List.mem_cons.mp b with w | w
        · exact w.symm
        · have := h1.1 y w
          have := h2.1 x z
          omega
    subst exy
    rw [asc_ext h1.2 h2.2 fun z => ?_]
    constructor
    · intro hz
      rcases List.mem_cons.mp ((h z).mp (List.mem_cons_of_mem _ hz)) with w | w
      · have := h1.1 z hz
        omega
      · exact w
    · intro hz
      rcases List.mem_cons.mp ((h z).mpr (List.mem_cons_of_mem _ hz)) with w | w
      · have := h2.1 z hz
        omega
      · exact w
theorem RowOf.eq {m : Nat} {S S' : Nat → Prop} {L M : List Nat} (r : RowOf m S L) (r' : RowOf m S' M) (h : ∀ x, S x ↔ S' x) : L = M :=
  asc_ext r.asc r'.asc fun x => by rw [r.mem, r'.mem, h]
end K81

set_option Elab.async false
set_option linter.all false
set_option maxRecDepth 100000
set_option maxHeartbeats 4000000
namespace K81
open PySem PySem.Spec PyProof.Rows L2 Bk Evl
/-- a row of nats -/
abbrev nv (L : List Nat) : List V := L.map fun k => V.int (k : Nat)
theorem nv_map {α : Type} (f : α → Nat) (l : List α) : nv (l.map f) = l.map fun x => V.int (f x : Nat) := by
  show (l.map f).map _ = _
  rw [List.map_map]
  rfl
theorem nv_at {L : List Nat} {i : Nat} {x : V} (h : (nv L)[i]? = some x) : ∃ k, L[i]? = some k ∧ x = V.int (k : Nat) := by
  rw [List.getElem?_map] at h
  obtain ⟨k, hk, rfl⟩ := Option.map_eq_some_iff.mp h
  exact ⟨k, hk, rfl⟩
theorem given_all (n : Nat) (v : Nat → V) : given n (fun _ => true) v = (List.range n).map v := by
  unfold given
  rw [List.filter_eq_self.mpr fun _ _ => rfl]
section
variable {P : Program} {w : World} {K : PySem.W.Frag} {mg : Str → Option Value} {base : Heap}
/-! ### powers_of -/
def spPowersOf (K : PySem.W.Frag) : Sp := fun vs H Q _ => ∃ (b m : Nat) (lo hi : Int), vs = [.int b, .int m, .int lo, .int hi] ∧ (1 ≤ m ∧ m ≤ 12) ∧ b < m ∧ Nat.gcd b m = 1 ∧ (lo ≤ 0 ∧ 0 ≤ hi) ∧
  ∀ f L H', H' f = some (.lst (nv L)) → (∀ x, x ∈ L ↔ ∃ e : Int, (lo ≤ e ∧ e ≤ hi) ∧ x = pw b e m) → L.length ≤ 12 → H f = none → Ext H H' → Q (.ref f) H'
theorem sc_powers_of : FnScope ["rest", "modulus", "low", "high", "found", "exponent"] ["rest", "modulus", "low", "high"] (defScope s_powers_of) := ⟨rfl, rfl, rfl, by decide +kernel, rfl, by decide +kernel, by decide +kernel⟩
theorem ok_powers_of (T : Txt K mg) : Ok P w K mg base 2 (He.ga K "powers_of") ["rest", "modulus", "low", "high"] (spPowersOf K) := by
  obtain ⟨fd_powers, F_powers, b_powers, k_powers, _⟩ := (ok_powers (P := P) (w := w) (base := base) T).ex
  refine fd_ok T.f_powers_of sc_powers_of (fun vs H Q E h => ?_) (fun _ _ _ _ _ _ us hl => match us, hl with | [_, _, _, _], _ => rfl) (fun cdv A outer s H vs Q E hr h => ?_)
  · obtain ⟨b, m, lo, hi, rfl, _⟩ := h
    rfl
  · obtain ⟨b, m, lo, hi, rfl, ⟨m1, m2⟩, hb, hg, ⟨hlo, hhi⟩, q⟩ := h
    have nd := sc_powers_of.nd
    refine ⟨_, (pss_cons (ps_set (i := 4) nd rfl (Or.inr rfl) (pe_call F_powers (hr.mono (by decide)) rfl T.g_powers k_powers b_powers .nil pass0 (pa_cons (pv 0) (pa_cons (pv 1) pa_nil)))) (pss_cons (ps_if (pt_cmpR op_ge (pe_op op_sub (pv 3) (pv 2)) (pe_callB call_len_seq rfl T.z_len (by decide +kernel) (pa_cons (pv 4) pa_nil)) (nomark _)) (pss_one (ps_ret (pv 4))) pss_nil) (pss_one (ps_ret (pe_lc (own := [("exponent", 5)]) (g := (gName 5)) (tt := tYes) rfl nd (pi_range2 rfl T.z_range (pa_cons (pv 2) (pa_cons (pe_op op_add (pv 3) pe_int) pa_nil))) (blkOk_by (own := [("exponent", 5)]) (N := ["rest", "modulus", "low", "high", "found", "exponent"]) (sc := defScope s_powers_of) (by decide +kernel)) (fun _ _ _ _ _ => (pg_name (i := 5) nd rfl (Or.inl rfl))) (fun _ _ _ _ _ => pts_nil) (fun _ _ _ _ _ => (pe_ix (ixK (K0 := K) (r := rIxL) ix_list) (pv 4) (pe_op op_mod (pe_callTy call_int1 rfl T.z_int (by decide +kernel) (pa_cons (pv 5) pa_nil)) (pe_callB (callK (K0 := K) (r := rLenQ) call_lenS) rfl T.z_len (by decide +kernel) (pa_cons (pv 4) pa_nil))) (by intro _ _; rfl)))))))), ?_⟩
    refine ⟨_, rfl, _, rfl, b, m, rfl, ⟨m1, by omega⟩, by omega, fun f k H1 hf k1 nd hk hf0 e1 => ?_⟩
    obtain ⟨o1, o2, o3⟩ := ord_of m1 m2 hb hg k1 nd hk
    refine ⟨_, rfl, _, rfl, _, _, rfl, rfl, _, rfl, f, _, rfl, .inl (SqL.of hf), _, _, rfl, rfl, _, rfl, ?_⟩
    rw [List.length_map, powL_len]
    refine ite2 (fun hd => ?_) (fun hd => ?_)
    · have hd' : (k : Int) ≤ hi - lo := of_decide_eq_true hd
      exact ⟨_, rfl, q f _ H1 hf (powL_all k1 o1 o2 hd') (by rw [powL_len]; exact o3) hf0 e1⟩
    · have hd' : ¬ (k : Int) ≤ hi - lo := fun z => hd (decide_eq_true z)
      refine ⟨_, rfl, _, rfl, _, _, rfl, rfl, lo, hi + 1, rfl, ⟨by omega, by omega, by omega, by omega⟩, fun D hD => ?_⟩
      refine lc_range (lo := lo) (n := (hi + 1 - lo).toNat) (Cw H1 (fun _ => true) (fun i => V.int (pw b (lo + (i : Int)) m : Nat)) D) ⟨hD, Ex.new hD, upd_same⟩ (fun i H5 hi5 p => ?_) (fun H5 p => ?_)
      · refine ⟨rfl, cw_turn p (by omega) (fun H6 e Q q => q H6 (Ex.refl H6)) (fun _ H6 e Q q => ?_)⟩
        have hf6 := e _ _ hf
        obtain ⟨j1, j2⟩ := powL_at (e := lo + (i : Int)) k1 o1 o2
        have hnn := Int.emod_nonneg (lo + (i : Int)) (show (k : Int) ≠ 0 by omega)
        refine ⟨_, rfl, _, rfl, .inl ⟨_, rfl, _, rfl, f, _, rfl, .inl (SqL.of hf6), _, _, rfl, rfl, ?_, f, _, _, V.int (pw b (lo + (i : Int)) m : Nat), rfl, rfl, SqL.of hf6, ?_, q H6 (Ex.refl H6)⟩⟩
        · rw [List.length_map, powL_len]
          omega
        · rw [List.length_map, powL_len]
          rw [show (lo + (i : Int)) % (k : Int) = (((lo + (i : Int)) % (k : Int)).toNat : Int) by omega]
          exact atI_nat (by rw [List.getElem?_map, j2]; rfl)
      · obtain ⟨p1, p2, p3⟩ := p
        rw [given_all] at p3
        refine q D ((List.range (hi + 1 - lo).toNat).map fun i : Nat => pw b (lo + (i : Int)) m) H5 (by rw [p3, nv_map]) (fun x => ?_) (by rw [List.length_map, List.length_range]; omega) ?_ (e1.trans p2)
        · rw [List.mem_map]
          constructor
          · rintro ⟨i, h1, rfl⟩
            have := List.mem_range.mp h1
            exact ⟨lo + i, by omega, rfl⟩
          · rintro ⟨e, h1, rfl⟩
            exact ⟨(e - lo).toNat, List.mem_range.mpr (by omega), by rw [show lo + (((e - lo).toNat : Nat) : Int) = e by omega]⟩
        · cases z : H D with
          | none => rfl
          | some o => rw [e1 _ _ z] at hD; cases hD
/-! ### spread -/
def tabT (ks : List Nat) : List (Key × V) := ks.map fun k : Nat => ((Sum.inl (k : Int) : Key), V.bl true)
theorem putK_tabT (ks : List Nat) (k : Nat) : putK (tabT ks) (Sum.inl (k : Int) : Key) (.bl true) = tabT (if k ∈ ks then ks else ks ++ [k]) := by
  unfold putK
  have e : ((tabT ks).any fun kv => decide (kv.1 = (Sum.inl (k : Int) : Key))) = decide (k ∈ ks) := by
    unfold tabT
    rw [List.any_map]
    rw [Bool.eq_iff_iff, List.any_eq_true, decide_eq_true_iff]
    constructor
    · rintro ⟨y, hy, h⟩
      have := Sum.inl.inj (of_decide_eq_true h)
      have : y = k := by omega
      rwa [← this]
    · intro h
      exact ⟨k, h, decide_eq_true rfl⟩
  rw [e]
  by_cases h : k ∈ ks
  · rw [decide_eq_true h, if_pos rfl, if_pos h]
    unfold tabT
    rw [List.map_map]
    refine List.map_congr_left fun y _ => ?_
    show (if (Sum.inl (y : Int) : Key) = Sum.inl (k : Int) then ((Sum.inl (y : Int) : Key), V.bl true) else _) = _
    split <;> rfl
  · rw [decide_eq_false h, if_neg Bool.false_ne_true, if_neg h]
    unfold tabT
    rw [List.map_append]
    rfl
theorem put_nodup {ks : List Nat} {k : Nat} (h : ks.Nodup) : (if k ∈ ks then ks else ks ++ [k]).Nodup := by
  split
  · exact h
  · rename_i hk
    rw [List.nodup_append]
    exact ⟨h, by simp, fun a ha b hb z => hk (by simp at hb; rw [← hb, ← z]; exact ha)⟩
theorem put_mem {ks : List Nat} {k x : Nat} : x ∈ (if k ∈ ks then ks else ks ++ [k]) ↔ x ∈ ks ∨ x = k := by
  split
  · rename_i hk
    exact ⟨.inl, fun z => z.elim id fun z => z ▸ hk⟩
  · simp
theorem nodup_lt {ks : List Nat} {m : Nat} (h : ks.Nodup) (hb : ∀ x ∈ ks, x < m) : ks.length ≤ m := by
  have h := List.Nodup.length_le_of_subset h (l₂ := List.range m) fun x hx => List.mem_range.mpr (hb x hx)
  rwa [List.length_range] at h
def spSpread (K : PySem.W.Frag) : Sp := fun vs H Q _ => ∃ (t a : Addr) (L B : List Nat) (m : Nat), vs = [.ref t, .ref a, .int m] ∧ SqT K H t (nv L) ∧ (SqL K H a (nv B) ∨ SqT K H a (nv B)) ∧ (1 ≤ m ∧ m ≤ 12) ∧ (∀ x ∈ L, x ≤ 1000000) ∧
  ∀ t' R H', PlT K H' t' (nv R) → RowOf m (fun x => ∃ r ∈ L, ∃ b ∈ B, x = r * b % m) R → Ext H H' → Q (.ref t') H'
theorem sc_spread : FnScope ["rests", "bases", "modulus", "found", "rest", "base"] ["rests", "bases", "modulus"] (defScope s_spread) := ⟨rfl, rfl, rfl, by decide +kernel, rfl, by decide +kernel, by decide +kernel⟩
theorem ok_spread (T : Txt K mg) : Ok P w K mg base 1 (He.ga K "spread") ["rests", "bases", "modulus"] (spSpread K) := by
  refine fd_ok T.f_spread sc_spread (fun vs H Q E h => ?_) (fun _ _ _ _ _ _ us hl => match us, hl with | [_, _, _], _ => rfl) (fun cdv A outer s H vs Q E hr h => ?_)
  · obtain ⟨t, a, L, B, m, rfl, _⟩ := h
    rfl
  · obtain ⟨t, a, L, B, m, rfl, hL, hB, ⟨m1, m2⟩, hx, q⟩ := h
    have nd := sc_spread.nd
    refine ⟨_, (pss_cons (ps_setDc2 (i := 3) (own := [("rest", 4), ("base", 5)]) (g := (gName 4)) (g1 := (gName 5)) (us := [5]) rfl nd rfl rfl (sw_trueD rfl rfl rfl (by decide +kernel)) (pi_tup (pv 0)) (blkOk_by (own := [("rest", 4), ("base", 5)]) (N := ["rests", "bases", "modulus", "found", "rest", "base"]) (sc := defScope s_spread) (by decide +kernel)) (by decide) (fun _ _ _ _ _ => (pg_name (i := 4) nd rfl (Or.inl rfl))) (fun _ _ _ _ _ => (piLtK (K0 := K) (pv 1))) (fun _ _ _ _ _ => (pg_name (i := 5) nd rfl (Or.inl rfl))) (fun _ _ _ _ _ => (pe_op op_mod (pe_callTy call_int1 rfl T.z_int (by decide +kernel) (pa_cons (pe_op op_mul (pv 4) (pv 5)) pa_nil)) (pv 2))) (fun _ _ _ _ _ => pe_bl)) (pss_one (ps_ret (pe_tupleP rfl T.z_tuple (pe_callB (call_sortedDI rfl) rfl T.z_sorted (by decide +kernel) (pa_cons (pv 3) pa_nil)))))), ?_⟩
    refine ⟨_, rfl, t, rfl, ⟨_, hL⟩, fun D hD => ?_⟩
    refine dc2_seq itseq_t (xs := nv L) (fun i H' => Ext H H' ∧ ∃ ks : List Nat, H' D = some (.dK (tabT ks)) ∧ ks.Nodup ∧ ∀ x, x ∈ ks ↔ ∃ r ∈ L.take i, ∃ b ∈ B, x = r * b % m) ⟨Ext.new hD _, [], upd_same, .nil, fun x => by simp⟩ (fun i H' _ p => sqt_ext hL p.1) (fun i x H' hx' p => ?_) (fun H' p => ?_) ?_ gName_mono
    · obtain ⟨r, hr, rfl⟩ := nv_at hx'
      have rb := hx r (List.mem_of_getElem? hr)
      have tk : L.take (i + 1) = L.take i ++ [r] := by rw [List.take_add_one, hr] <;> rfl
      refine ⟨rfl, _, rfl, a, nv B, rfl, ?_⟩
      have inner : ∃ (Pw : Nat → Hp → Prop), Pw 0 H' ∧ (∀ j H'', j ≤ (nv B).length → Pw j H'' → Ext H H'') ∧
          (∀ j y H'', (nv B)[j]? = some y → Pw j H'' → ∃ b, B[j]? = some b ∧ y = V.int (b : Nat) ∧ ∃ kvs k, V.int ((r : Int) * (b : Int) % (m : Int)) = kV k ∧ H'' D = some (.dK kvs) ∧ kvs.length < sizeLine ∧ Pw (j + 1) (upd H'' D (.dK (putK kvs k (.bl true))))) ∧
          ∀ H'', Pw (nv B).length H'' → Ext H H'' ∧ ∃ ks : List Nat, H'' D = some (.dK (tabT ks)) ∧ ks.Nodup ∧ ∀ x, x ∈ ks ↔ ∃ r ∈ L.take (i + 1), ∃ b ∈ B, x = r * b % m := by
        obtain ⟨e, ks, hks, nd, hm⟩ := p
        refine ⟨fun j H'' => Ext H H'' ∧ ∃ ks : List Nat, H'' D = some (.dK (tabT ks)) ∧ ks.Nodup ∧ ∀ x, x ∈ ks ↔ (∃ r ∈ L.take i, ∃ b ∈ B, x = r * b % m) ∨ ∃ b ∈ B.take j, x = r * b % m, ⟨e, ks, hks, nd, fun x => by rw [hm]; simp⟩, fun j H'' _ p => p.1, fun j y H'' hy p => ?_, fun H'' p => ?_⟩
        · obtain ⟨b, hb, rfl⟩ := nv_at hy
          obtain ⟨e, ks, hks, nd, hm⟩ := p
          have tk2 : B.take (j + 1) = B.take j ++ [b] := by rw [List.take_add_one, hb] <;> rfl
          have kl : ks.length ≤ m := nodup_lt nd fun x hx => by
            rcases (hm x).mp hx with ⟨_, _, _, _, rfl⟩ | ⟨_, _, rfl⟩ <;> exact Nat.mod_lt _ m1
          have ek : V.int ((r : Int) * (b : Int) % (m : Int)) = kV (Sum.inl ((r * b % m : Nat) : Int) : Key) := by
            show _ = V.int _
            rw [Int.natCast_emod, Int.natCast_mul]
          refine ⟨b, hb, rfl, _, _, ek, hks, by unfold tabT; rw [List.length_map]; exact small_lt (by omega), e.mut hD _, _, by rw [upd_same, putK_tabT], put_nodup nd, fun x => ?_⟩
          rw [put_mem, hm, tk2]
          constructor
          · rintro ((h | ⟨b', h1, h2⟩) | h)
            · exact .inl h
            · exact .inr ⟨b', List.mem_append_left _ h1, h2⟩
            · exact .inr ⟨b, by simp, h⟩
          · rintro (h | ⟨b', h1, h2⟩)
            · exact .inl (.inl h)
            · rcases List.mem_append.mp h1 with z | z
              · exact .inl (.inr ⟨b', z, h2⟩)
              · simp at z
                exact .inr (z ▸ h2)
        · obtain ⟨e, ks, hks, nd, hm⟩ := p
          refine ⟨e, ks, hks, nd, fun x => ?_⟩
          rw [hm, List.length_map, List.take_length, tk]
          constructor
          · rintro (⟨r', h1, h2⟩ | ⟨b, h1, h2⟩)
            · exact ⟨r', List.mem_append_left _ h1, h2⟩
            · exact ⟨r, by simp, b, h1, h2⟩
          · rintro ⟨r', h1, h2⟩
            rcases List.mem_append.mp h1 with z | z
            · exact .inl ⟨r', z, h2⟩
            · simp at z
              subst z
              exact .inr h2
      obtain ⟨Pw, w0, w1, w2, w3⟩ := inner
      have turn : ∀ (j : Nat) (y : V) (H'' : Hp), (nv B)[j]? = some y → Pw j H'' → _ := fun j y H'' hy p => w2 j y H'' hy p
      rcases hB with hB | hB
      · refine .inl ⟨sql_ext hB p.1, nv B, _, Pw, itseq_l, w0, fun j H'' hj pw => sql_ext hB (w1 j H'' hj pw), fun j y H'' hy pw => ?_, w3⟩
        obtain ⟨b, hb, rfl, kvs, k, g1, g2, g3, g4⟩ := w2 j y H'' hy pw
        exact ⟨rfl, _, rfl, _, rfl, _, _, rfl, rfl, .inl ⟨by omega, by omega⟩, .inl ⟨_, rfl, _, rfl, _, _, rfl, rfl, by omega, kvs, k, g1, g2, g3, g4⟩⟩
      · refine .inr ⟨sqt_ext hB p.1, nv B, _, Pw, itseq_t, w0, fun j H'' hj pw => sqt_ext hB (w1 j H'' hj pw), fun j y H'' hy pw => ?_, w3⟩
        obtain ⟨b, hb, rfl, kvs, k, g1, g2, g3, g4⟩ := w2 j y H'' hy pw
        exact ⟨rfl, _, rfl, _, rfl, _, _, rfl, rfl, .inl ⟨by omega, by omega⟩, .inl ⟨_, rfl, _, rfl, _, _, rfl, rfl, by omega, kvs, k, g1, g2, g3, g4⟩⟩
    · obtain ⟨e, ks, hks, nd, hm⟩ := p
      rw [List.length_map, List.take_length] at hm
      have klt : ∀ x ∈ ks, x < m := fun x hx => by
        obtain ⟨_, _, _, _, rfl⟩ := (hm x).mp hx
        exact Nat.mod_lt _ m1
      have kl := nodup_lt nd klt
      refine ⟨_, rfl, D, _, ks.map fun k : Nat => (k : Int), rfl, .inl hks, by unfold tabT; rw [List.map_map, List.map_map]; rfl, by rw [List.length_map]; omega, fun ys p perm rise hp => ?_⟩
      refine ⟨p, _, rfl, SqL.of upd_same, fun t' o ht oc od => ?_⟩
      have pos : ∀ y ∈ ys, 0 ≤ y := fun y hy => by
        obtain ⟨k, _, rfl⟩ := List.mem_map.mp (perm.mem_iff.mp hy)
        omega
      have eys : ys.map V.int = nv (ys.map Int.toNat) := by
        show _ = (ys.map Int.toNat).map fun k : Nat => V.int (k : Int)
        rw [List.map_map]
        refine List.map_congr_left fun y hy => ?_
        show V.int y = V.int ((y.toNat : Nat) : Int)
        rw [Int.toNat_of_nonneg (pos y hy)]
      have e3 := e.trans (Ext.new hp (.lst (ys.map V.int)))
      rw [eys] at e3 ht ⊢
      refine q t' (ys.map Int.toNat) _ (plt_new oc od) ⟨?_, fun x => ?_, fun x hx => ?_⟩ (e3.trans (Ext.new ht _))
      · rw [List.pairwise_map]
        have n1 : ys.Nodup := perm.nodup_iff.mpr (List.Pairwise.map _ (fun a b (h : a ≠ b) z => h (by omega)) nd)
        refine (List.pairwise_and_iff.mpr ⟨rise, n1⟩).imp_of_mem fun {a b} ha hb h => ?_
        have h1 : a ≤ b := h.1
        have h2 : a ≠ b := h.2
        have := pos a ha
        omega
      · rw [← hm, List.mem_map]
        constructor
        · rintro ⟨y, hy, rfl⟩
          obtain ⟨k, hk, rfl⟩ := List.mem_map.mp (perm.mem_iff.mp hy)
          exact hk
        · intro hx
          exact ⟨(x : Int), perm.mem_iff.mpr (List.mem_map.mpr ⟨x, hx, rfl⟩), rfl⟩
      · obtain ⟨y, hy, rfl⟩ := List.mem_map.mp hx
        obtain ⟨k, hk, rfl⟩ := List.mem_map.mp (perm.mem_iff.mp hy)
        exact klt k hk
    · rintro σ H' R R' ⟨v, hv, b, xs, e, h⟩ k
      exact ⟨v, hv, b, xs, e, h.imp (fun z => ⟨z.1, k _ _ z.2⟩) fun z => ⟨z.1, k _ _ z.2⟩⟩
end
end K81

set_option Elab.async false
set_option linter.all false
set_option maxRecDepth 100000
set_option maxHeartbeats 4000000
namespace K81
open PySem PySem.Spec PyProof.Rows L2 Bk Evl
def spanU (m b c : Nat) (g : Int → Int) (u : Nat) : Nat × Int × Int := (u, -(g u) - nearR m b u, g u + nearR m c u)
/-- the spans of a pattern with g of each rest -/
def spansU (m b c : Nat) (g : Int → Int) : Sps := (unitsL m).map (spanU m b c g)
theorem sumR_nonneg {m x : Int} : ∀ {l : Prs}, (∀ q ∈ l, 0 ≤ q.2) → 0 ≤ sumR m x l
  | [], _ => Int.le_refl 0
  | q :: l, h => by
    have h1 := h q List.mem_cons_self
    have h2 := sumR_nonneg (m := m) (x := x) fun q' hq' => h q' (List.mem_cons_of_mem _ hq')
    show 0 ≤ (if q.1 % m = x then q.2 else 0) + sumR m x l
    split <;> omega
theorem nearR_nonneg (m b : Nat) (u : Int) : 0 ≤ nearR m b u := by
  unfold nearR
  split
  · refine sumR_nonneg fun q hq => ?_
    obtain ⟨y, _, rfl⟩ := List.mem_map.mp hq
    exact Int.natCast_nonneg _
  · exact Int.le_refl 0
theorem getI_nonneg : ∀ {L : Prs} (x : Int), (∀ e ∈ L, 0 ≤ e.2) → 0 ≤ getI L x
  | [], x, _ => Int.le_refl 0
  | e :: L, x, h => by
    rw [getI_cons]
    split
    · exact h e List.mem_cons_self
    · exact getI_nonneg x fun e' he' => h e' (List.mem_cons_of_mem _ he')
theorem mem_unitsL {m u : Nat} : u ∈ unitsL m ↔ u < m ∧ Nat.gcd u m = 1 := by
  unfold unitsL
  rw [List.mem_filter, List.mem_range, decide_eq_true_iff]
/-- a pattern's counts: its keys ascend, none is negative -/
structure CntOk (L : Prs) : Prop where
  asc : L.Pairwise fun e f => e.1 < f.1
  nn : ∀ e ∈ L, 0 ≤ e.2
section
variable {P : Program} {w : World} {K : PySem.W.Frag} {mg : Str → Option Value} {base : Heap}
/-! ### reach_of -/
def spReachOf (K : PySem.W.Frag) : Sp := fun vs H Q _ => ∃ (r t : Addr) (a b c m : Nat) (L : Prs), vs = [.ref r, .int m, .ref t] ∧ RuleAt K H r a b c ∧ okRule a b c ∧ (1 ≤ m ∧ m ≤ 12) ∧ PairsAt K H t L ∧ CntOk L ∧
  ∀ t' R H', SqT K H' t' (nv R) → RowOf m (reachP m (spansU m b c (getI L))) R → Ext H H' → Q (.ref t') H'
theorem sc_reach_of : FnScope ["rule", "modulus", "counts", "here", "found", "rest", "near", "far", "many"] ["rule", "modulus", "counts"] (defScope s_reach_of) := ⟨rfl, rfl, rfl, by decide +kernel, rfl, by decide +kernel, by decide +kernel⟩
theorem ok_reach_of (T : Txt K mg) : Ok P w K mg base 4 (He.ga K "reach_of") ["rule", "modulus", "counts"] (spReachOf K) := by
  obtain ⟨fd_spares, F_spares, b_spares, k_spares, _⟩ := (ok_spares (P := P) (w := w) (base := base) T).ex
  obtain ⟨fd_spread, F_spread, b_spread, k_spread, _⟩ := (ok_spread (P := P) (w := w) (base := base) T).ex
  obtain ⟨fd_powers_of, F_powers_of, b_powers_of, k_powers_of, _⟩ := (ok_powers_of (P := P) (w := w) (base := base) T).ex
  refine fd_ok T.f_reach_of sc_reach_of (fun vs H Q E h => ?_) (fun _ _ _ _ _ _ us hl => match us, hl with | [_, _, _], _ => rfl) (fun cdv A outer s H vs Q E hr h => ?_)
  · obtain ⟨r, t, a, b, c, m, L, rfl, _⟩ := h
    rfl
  · obtain ⟨r, t, a, b, c, m, L, rfl, R, ok, ⟨m1, m2⟩, hp, cok, q⟩ := h
    have nd := sc_reach_of.nd
    refine ⟨_, (pss_cons (ps_par (i := 3) (j := 4) rfl nd rfl rfl (by decide) rfl rfl (pa_cons (pe_callTy (call_dictT rfl) rfl T.z_dict (by decide +kernel) (pa_cons (pv 2) pa_nil)) (pa_cons (pe_tup (pa_cons (pe_op op_mod (pe_callTy call_int1 rfl T.z_int (by decide +kernel) (pa_cons pe_int pa_nil)) (pv 1)) pa_nil)) pa_nil)) (by rfl)) (pss_cons (ps_for PassesOwn.never rfl (pi_items (pe_frz (pe_call F_spares (hr.mono (by decide)) rfl T.g_spares k_spares b_spares .nil pass0 (pa_cons (pv 0) (pa_cons (pv 1) pa_nil))))) (pg_tup rfl (pgs_cons (pg_name (i := 5) nd rfl (Or.inl rfl)) (pgs_cons (pg_tup rfl (pgs_cons (pg_name (i := 6) nd rfl (Or.inl rfl)) (pgs_cons (pg_name (i := 7) nd rfl (Or.inl rfl)) pgs_nil))) pgs_nil))) (pss_cons (ps_set (i := 8) nd rfl (Or.inl rfl) (pe_dget2 (ru hr) (pv 3) (pv 5) pe_int ⟨rfl, rfl, rfl, rfl⟩)) (pss_one (ps_set (i := 4) nd rfl (Or.inl rfl) (pe_call F_spread (hr.mono (by decide)) rfl T.g_spread k_spread b_spread .nil pass0 (pa_cons (pv 4) (pa_cons (pe_call F_powers_of (hr.mono (by decide)) rfl T.g_powers_of k_powers_of b_powers_of .nil pass0 (pa_cons (pv 5) (pa_cons (pv 1) (pa_cons (pe_op op_sub (pe_un un_neg (pv 8)) (pv 6)) (pa_cons (pe_op op_add (pv 8) (pv 7)) pa_nil))))) (pa_cons (pv 1) pa_nil)))))))) (pss_one (ps_ret (pv 4))))), ?_⟩
    obtain ⟨ps1, pl1, pp1⟩ := dictOf hp
    refine ⟨_, rfl, t, ps1, _, rfl, pl1, pp1, fun d hd => ?_⟩
    rw [merge_entI (nodup_asc cok.asc)]
    have e1 := Ext.new hd (.dK (L.map entI))
    have k1 : upd H d (.dK (L.map entI)) d = some (.dK (L.map entI)) := upd_same
    generalize upd H d (.dK (L.map entI)) = H1 at e1 k1 ⊢
    refine .inl ⟨_, rfl, _, rfl, _, _, rfl, rfl, by omega, by show 1 ≤ sizeLine; decide, fun f hf => ?_⟩
    have em : V.int ((1 : Int) % (m : Int)) = V.int ((1 % m : Nat) : Int) := by rw [Int.natCast_emod]; rfl
    have e2 := Ext.new hf (.tup [.int ((1 : Int) % (m : Int))])
    have k2 : SqT K (upd H1 f (.tup [.int ((1 : Int) % (m : Int))])) f (nv [1 % m]) := SqT.of (by rw [upd_same, em]; rfl)
    generalize upd H1 f (.tup [.int ((1 : Int) % (m : Int))]) = H2 at e2 k2 ⊢
    refine ⟨_, _, rfl, ?_⟩
    have k1 := e2 _ _ k1
    have e02 := e1.trans e2
    refine ⟨_, rfl, _, rfl, r, a, b, c, m, rfl, R.ext e02, ok, ⟨m1, by omega⟩, fun sd kvs H3 hsd0 hsd sp e3 => ?_⟩
    refine ⟨sd, _, rfl, hsd, True.intro, fun od => ⟨sd, od, kvs, rfl, upd_same, ?_⟩⟩
    have e03 : Ext H (upd H3 sd (.frz od (.dK kvs))) := (e02.trans e3).mut (by
      cases z : H sd with
      | none => rfl
      | some o => rw [e02 _ _ z] at hsd0; cases hsd0) _
    have e23 : Ext H2 (upd H3 sd (.frz od (.dK kvs))) := e3.mut hsd0 _
    have k1 := e23 _ _ k1
    have k2 := sqt_ext k2 e23
    have sp : SpAt (upd H3 sd (.frz od (.dK kvs))) (nearR m b) (nearR m c) kvs (unitsL m) := SpAt.mapP sp fun x xs e => by rw [upd_ne (ne_of e hsd (by intro z; cases z))]; exact e
    have hsd : upd H3 sd (.frz od (.dK kvs)) sd = some (.frz od (.dK kvs)) := upd_same
    generalize upd H3 sd (.frz od (.dK kvs)) = H4 at e03 e23 k1 k2 sp hsd ⊢
    have klen : kvs.length = (unitsL m).length := sp.length
    refine for_items (fun i σ H' => ∃ (f : Addr) (R : List Nat) (x1 x2 x3 x4 : Option V), σ = [some (.ref r), some (.int m), some (.ref t), some (.ref d), some (.ref f), x1, x2, x3, x4] ∧ SqT K H' f (nv R) ∧ RowOf m (reachP m (((unitsL m).take i).map (spanU m b c (getI L)))) R ∧ Ext H4 H')
      ⟨f, [1 % m], _, _, _, _, rfl, k2, ⟨by simp, fun x => by simp [reachP, reachFrom], fun x hx => by simp at hx; rw [hx]; exact Nat.mod_lt _ m1⟩, Ext.refl _⟩ ?_ ?_ ?_
    · rintro i σ H' _ ⟨f, R, x1, x2, x3, x4, rfl, _, _, e⟩
      exact e _ _ hsd
    · rintro i k v T' σ H' hkv ⟨f, R, x1, x2, x3, x4, rfl, hf, row, e⟩ hT
      obtain ⟨u, hu, hk, tt, rfl, htt⟩ := paired_at sp i (k, v) hkv
      dsimp only at hk
      subst hk
      have tk : (unitsL m).take (i + 1) = (unitsL m).take i ++ [u] := by rw [List.take_add_one, hu] <;> rfl
      obtain ⟨ul, ug⟩ := mem_unitsL.mp (List.mem_of_getElem? hu)
      have e5 := e.trans (Ext.new hT (.tup [.int (u : Int), .ref tt]))
      have htt5 := e5 _ _ htt
      have k15 := e5 _ _ k1
      have hf5 := sqt_ext hf (Ext.new hT (.tup [.int (u : Int), .ref tt]))
      have hT5 : upd H' T' (.tup [.int (u : Int), .ref tt]) T' = some (.tup [.int (u : Int), .ref tt]) := upd_same
      refine ⟨T', [.int (u : Int), .ref tt], rfl, SqT.of hT5, rfl, _, _, rfl, _, _, rfl, ⟨tt, _, rfl, SqT.of htt5, rfl, _, _, rfl, _, _, rfl, rfl, rfl, ?_⟩⟩
      refine ⟨_, rfl, d, rfl, .inl ⟨_, .inl k15⟩, _, rfl, _, .inl ⟨L.map entI, Sum.inl (u : Int), .inl k15, rfl, rfl⟩, ?_⟩
      rw [getD_entI]
      have nn := getI_nonneg (u : Int) cok.nn
      have n1 := nearR_nonneg m b u
      have n2 := nearR_nonneg m c u
      refine ⟨_, rfl, _, rfl, _, rfl, _, rfl, _, rfl, _, rfl, _, _, rfl, rfl, _, rfl, _, rfl, _, _, rfl, rfl, u, m, _, _, rfl, ⟨m1, m2⟩, ul, ug, ⟨by omega, by omega⟩, fun pf PL H6 hpf hPL lPL hpf0 e6 => ?_⟩
      refine ⟨_, rfl, f, pf, R, PL, m, rfl, sqt_ext hf5 e6, .inl (SqL.of hpf), ⟨m1, m2⟩, fun x hx => by have := row.lt x hx; omega, fun t7 R7 H7 pl7 row7 e7 => ?_⟩
      refine ⟨t7, R7, _, _, _, _, rfl, pl7.sqt, ⟨row7.asc, fun x => ?_, row7.lt⟩, (e5.trans e6).trans e7⟩
      rw [row7.mem, tk, List.map_append]
      unfold reachP
      show _ ↔ reachFrom m _ (_ ++ [spanU m b c (getI L) u]) x
      rw [reach_snoc]
      unfold stepP
      constructor
      · rintro ⟨s, hs, p, hp, rfl⟩
        obtain ⟨ex, h1, rfl⟩ := (hPL p).mp hp
        exact ⟨s, (row.mem s).mp hs, ex, h1, rfl⟩
      · rintro ⟨s, hs, ex, h1, rfl⟩
        exact ⟨s, (row.mem s).mpr hs, _, (hPL _).mpr ⟨ex, h1, rfl⟩, rfl⟩
    · rintro σ H' ⟨f, R, x1, x2, x3, x4, rfl, hf, row, e⟩
      rw [klen, List.take_length] at row
      exact ⟨_, rfl, q f R H' hf row (e03.trans e)⟩
/-! ### goes_by -/
def spGoesBy (K : PySem.W.Frag) : Sp := fun vs H Q _ => ∃ (r t : Addr) (a b c m : Nat) (L : Prs), vs = [.ref r, .int m, .ref t] ∧ RuleAt K H r a b c ∧ okRule a b c ∧ (1 ≤ m ∧ m ≤ 12) ∧ PairsAt K H t L ∧ CntOk L ∧
  ∀ (g : Bool) H', (g = true ↔ reachP m (spansU m b c (getI L)) (m - 1)) → Ext H H' → Q (.bl g) H'
theorem sc_goes_by : FnScope ["rule", "modulus", "counts"] ["rule", "modulus", "counts"] (defScope s_goes_by) := ⟨rfl, rfl, rfl, by decide +kernel, rfl, by decide +kernel, by decide +kernel⟩
theorem ok_goes_by (T : Txt K mg) : Ok P w K mg base 5 (He.ga K "goes_by") ["rule", "modulus", "counts"] (spGoesBy K) := by
  obtain ⟨fd_reach_of, F_reach_of, b_reach_of, k_reach_of, _⟩ := (ok_reach_of (P := P) (w := w) (base := base) T).ex
  refine fd_ok T.f_goes_by sc_goes_by (fun vs H Q E h => ?_) (fun _ _ _ _ _ _ us hl => match us, hl with | [_, _, _], _ => rfl) (fun cdv A outer s H vs Q E hr h => ?_)
  · obtain ⟨r, t, a, b, c, m, L, rfl, _⟩ := h
    rfl
  · obtain ⟨r, t, a, b, c, m, L, rfl, R, ok, ⟨m1, m2⟩, hp, cok, q⟩ := h
    have nd := sc_goes_by.nd
    refine ⟨_, (pss_one (ps_ret (pe_cmpR op_in_seq (pe_op op_sub (pv 1) pe_int) (pe_call F_reach_of (hr.mono (by decide)) rfl T.g_reach_of k_reach_of b_reach_of .nil pass0 (pa_cons (pv 0) (pa_cons (pv 1) (pa_cons (pv 2) pa_nil)))) rfl))), ?_⟩
    refine ⟨_, rfl, _, _, rfl, rfl, _, rfl, _, rfl, _, rfl, r, t, a, b, c, m, L, rfl, R, ok, ⟨m1, m2⟩, hp, cok, fun t' R' H' ht' row e => ?_⟩
    refine ⟨t', _, rfl, .inr ht', rfl, flat_nats _, ?_⟩
    show Q (.bl (inV (V.int ((m : Int) - 1)) (nv R'))) H'
    rw [show ((m : Int) - 1) = ((m - 1 : Nat) : Int) by omega, inV_nats]
    exact q _ H' (by rw [decide_eq_true_iff, row.mem]) e
end
end K81

set_option Elab.async false
set_option linter.all false
set_option maxRecDepth 100000
set_option maxHeartbeats 4000000
namespace K81
open PySem PySem.Spec PyProof.Rows L2 Bk Evl
/-- the counts of a core -/
def cntR (m : Nat) (cl : Prs) (x : Int) : Int := if 2 < (m : Int) ∧ 1 < x then sumR m x cl else 0
theorem coreStep_pos {s : Prs × Nat} {q : Int × Int} (h : ∀ e ∈ s.1, 0 < e.2) : ∀ e ∈ (coreStep s q).1, 0 < e.2 := by
  unfold coreStep
  dsimp only
  split
  · rename_i hp
    intro e he
    rcases List.mem_append.mp he with z | z
    · exact h e z
    · simp at z
      rw [z]
      exact hp
  · exact h
theorem coreGo_pos : ∀ (l : Prs) {s : Prs × Nat}, (∀ e ∈ s.1, 0 < e.2) → ∀ e ∈ (l.foldl coreStep s).1, 0 < e.2
  | [], _, h => h
  | _ :: l, _, h => coreGo_pos l (coreStep_pos h)
theorem coreF_pos (l : Prs) (s : Nat) : ∀ e ∈ (coreF l s).1, 0 < e.2 := coreGo_pos l (fun e he => by cases he)
theorem cntok_of {m : Nat} {l L : Prs} (g : CntOf (m : Int) l L) (h : ∀ e ∈ l, 0 ≤ e.2) : CntOk L := by
  refine ⟨g.asc, fun e he => ?_⟩
  rw [← getI_mem (nodup_asc g.asc) he, g.get]
  split
  · exact sumR_nonneg h
  · exact Int.le_refl 0
theorem reach_spans_congr {m b c : Nat} {g g' : Int → Int} (h : ∀ u ∈ unitsL m, g (u : Nat) = g' (u : Nat)) : spansU m b c g = spansU m b c g' := by
  unfold spansU
  refine List.map_congr_left fun u hu => ?_
  unfold spanU
  rw [h u hu]
theorem modF_bd {l : Prs} {a : Nat} (a1 : 1 ≤ a) : 1 ≤ modF l a ∧ modF l a ≤ a := by
  have h := shF_mul l a
  obtain ⟨h1, h2, h3, h4⟩ := mul_le2 h a1
  have e : modF l a = (shF l a).1 := by
    unfold modF
    exact Nat.div_eq_of_eq_mul_left h3 h.symm
  rw [e]
  exact ⟨h1, h2⟩
theorem unitsL_asc (m : Nat) : (unitsL m).Pairwise (· < ·) := List.Pairwise.filter _ List.pairwise_lt_range
/-- one more of u -/
def plusOne (g : Int → Int) (u : Nat) (x : Int) : Int := g x + (if 1 < u ∧ x = (u : Int) then 1 else 0)
section
variable {P : Program} {w : World} {K : PySem.W.Frag} {mg : Str → Option Value} {base : Heap}
theorem TabAt.ext {H H' : Hp} {d : Addr} {es : Prs} (t : TabAt H d es) (k : Ext H H') : TabAt H' d es := ⟨k _ _ t.1, t.2⟩
/-! ### with_one -/
def spWithOne (K : PySem.W.Frag) : Sp := fun vs H Q _ => ∃ (r x : Addr) (a b c u : Nat) (l : Prs) (L : Trs), vs = [.ref r, .ref x, .int u] ∧ RuleAt K H r a b c ∧ okRule a b c ∧ CoreAt K H x r a b c l L ∧ FacOk l ∧ u ∈ unitsL (modF l a) ∧
  ∀ (g : Bool) H', (g = true ↔ reachP (modF l a) (spansU (modF l a) b c (plusOne (cntR (modF l a) (clF l a)) u)) (modF l a - 1)) → Ext H H' → Q (.bl g) H'
theorem sc_with_one : FnScope ["rule", "core", "rest", "counts"] ["rule", "core", "rest"] (defScope s_with_one) := ⟨rfl, rfl, rfl, by decide +kernel, rfl, by decide +kernel, by decide +kernel⟩
theorem ok_with_one (T : Txt K mg) : Ok P w K mg base 6 (He.ga K "with_one") ["rule", "core", "rest"] (spWithOne K) := by
  obtain ⟨fd_counts_of, F_counts_of, b_counts_of, k_counts_of, _⟩ := (ok_counts_of (P := P) (w := w) (base := base) T).ex
  obtain ⟨fd_added, F_added, b_added, k_added, _⟩ := (ok_added (P := P) (w := w) (base := base) T).ex
  obtain ⟨fd_goes_by, F_goes_by, b_goes_by, k_goes_by, _⟩ := (ok_goes_by (P := P) (w := w) (base := base) T).ex
  refine fd_ok T.f_with_one sc_with_one (fun vs H Q E h => ?_) (fun _ _ _ _ _ _ us hl => match us, hl with | [_, _, _], _ => rfl) (fun cdv A outer s H vs Q E hr h => ?_)
  · obtain ⟨r, x, a, b, c, u, l, L, rfl, _⟩ := h
    rfl
  · obtain ⟨r, x, a, b, c, u, l, L, rfl, R, ok, C, fo, hu, q⟩ := h
    have nd := sc_with_one.nd
    refine ⟨_, (pss_cons (ps_set (i := 3) nd rfl (Or.inl rfl) (pe_callTy (call_dictT rfl) rfl T.z_dict (by decide +kernel) (pa_cons (pe_call F_counts_of (hr.mono (by decide)) rfl T.g_counts_of k_counts_of b_counts_of .nil pass0 (pa_cons (pe_fld (pv 1) rfl) (pa_cons (pe_fld (pv 1) rfl) pa_nil))) pa_nil))) (Evl.pss_cut (ps_if (pt_cmpR op_gt (pv 2) pe_int (nomark _)) (pss_one (ps_set (i := 3) nd rfl (Or.inl rfl) (pe_call F_added (hr.mono (by decide)) rfl T.g_added k_added b_added .nil pass0 (pa_cons (pv 3) (pa_cons (pv 2) (pa_cons pe_int pa_nil)))))) pss_nil) (pss_one (ps_ret (pe_call F_goes_by (hr.mono (by decide)) rfl T.g_goes_by k_goes_by b_goes_by .nil pass0 (pa_cons (pv 0) (pa_cons (pe_fld (pv 1) rfl) (pa_cons (pe_tupleP rfl T.z_tuple (pe_callB (cr_sortedItK rfl) rfl T.z_sorted (by decide +kernel) (pa_cons (pe_bm0 PySem.F.plainAttrs_dict PySem.F.slot_dict_items PySem.F.type_dict_items mt_itemsK (pv 3)) pa_nil))) pa_nil)))))))), ?_⟩
    obtain ⟨dx, t, s, hx, hp, _⟩ := C.ex
    obtain ⟨⟨a1, a2⟩, hb, hc⟩ := id ok
    obtain ⟨m1, m2⟩ := modF_bd (l := l) (show 1 ≤ a by omega)
    have hlen : (clF l a).length ≤ 900 := Nat.le_trans (Nat.le_trans (coreF_len _ _) fo.len) (by decide)
    have hnn : ∀ e ∈ clF l a, 0 ≤ e.2 := fun e he => Int.le_of_lt (coreF_pos _ _ e he)
    have hu2 := mem_unitsL.mp hu
    have hcn : ∀ y, cntR (modF l a) (clF l a) y = if 2 < (modF l a : Int) ∧ 1 < y then sumR (modF l a) y (clF l a) else 0 := fun y => rfl
    generalize modF l a = m at hx m1 m2 q hu2 hcn ⊢
    generalize clF l a = cl at hp hlen hnn q hcn ⊢
    refine ⟨_, rfl, x, CC K, dx, _, _, rfl, hx, T.c_Core, T.n_Core_modulus, cf_modulus _ _ _ _, _, rfl, x, CC K, dx, _, _, rfl, hx, T.c_Core, T.n_Core_factors, cf_factors _ _ _ _, m, t, cl, rfl, by omega, hp, hlen, fun t1 L1 H1 p1 g1 e1 => ?_⟩
    obtain ⟨ps1, pl1, pp1⟩ := dictOf p1
    refine ⟨t1, ps1, _, rfl, pl1, pp1, fun d1 hd1 => ?_⟩
    rw [merge_entI (nodup_asc g1.asc)]
    have e2 := Ext.new hd1 (.dK (L1.map entI))
    have k1 : TabAt (upd H1 d1 (.dK (L1.map entI))) d1 L1 := ⟨upd_same, nodup_asc g1.asc⟩
    generalize upd H1 d1 (.dK (L1.map entI)) = H2 at e2 k1 ⊢
    have e02 := e1.trans e2
    have L1len : L1.length ≤ m := by
      have : (L1.map fun e => e.1.toNat).length ≤ m := nodup_lt (m := m) (by
        refine List.pairwise_map.mpr (g1.asc.imp_of_mem fun {e f} he hf h => ?_)
        have := (g1.bd e he).1
        have := (g1.bd f hf).1
        omega) fun y hy => by
          obtain ⟨e, he, rfl⟩ := List.mem_map.mp hy
          have := g1.bd e he
          omega
      rwa [List.length_map] at this
    refine ⟨fun σ' H' => ∃ (d : Addr) (es : Prs), σ' = [some (.ref r), some (.ref x), some (.int u), some (.ref d)] ∧ TabAt H' d es ∧ Ext H H' ∧ (∀ e ∈ es, 0 ≤ e.2) ∧ (∀ y ∈ unitsL m, getI es (y : Nat) = plusOne (cntR m cl) u (y : Nat)), ?_, ?_⟩
    · have base1 : ∀ y : Int, getI L1 y = cntR m cl y := fun y => (g1.get y).trans (hcn y).symm
      have nn1 := (cntok_of g1 hnn).nn
      refine ⟨_, rfl, _, _, rfl, rfl, _, rfl, ?_⟩
      refine ite2 (fun h1 => ?_) (fun h1 => ?_)
      · have h1' : 1 < u := by have := of_decide_eq_true h1; omega
        refine ⟨_, rfl, _, rfl, d1, L1, u, 1, rfl, k1, by omega, fun p H3 hp3 t3 e3 => ⟨p, _, rfl, t3, e02.trans e3, fun e he => ?_, fun y _ => ?_⟩⟩
        · rw [← getI_mem t3.2 he, getI_put]
          have := getI_nonneg (u : Int) nn1
          have := getI_nonneg e.1 nn1
          split <;> omega
        · rw [getI_put, base1, base1]
          unfold plusOne
          by_cases z : (y : Int) = (u : Int)
          · rw [if_pos z, if_pos ⟨h1', z⟩, z]
          · rw [if_neg z, if_neg (fun h => z h.2), Int.add_zero]
      · have h1' : ¬ 1 < u := fun z => h1 (decide_eq_true (by omega))
        refine ⟨d1, L1, rfl, k1, e02, nn1, fun y _ => ?_⟩
        rw [base1]
        unfold plusOne
        rw [if_neg (fun h => h1' h.1), Int.add_zero]
    · rintro σ' H3 ⟨d, es, rfl, td, e3, nn, hg⟩
      refine ⟨_, rfl, _, rfl, x, CC K, dx, _, _, rfl, e3 _ _ hx, T.c_Core, T.n_Core_modulus, cf_modulus _ _ _ _, ?_⟩
      refine ⟨_, rfl, .inr (.inr (.inl ⟨rfl, .inl ⟨_, td.1⟩⟩)), d, _, rfl, rfl, td.1, fun vp hvp => ?_⟩
      have ndv : d ≠ vp := ne_of_none td.1 hvp
      refine ⟨vp, d, es, rfl, upd_same, by rw [upd_ne ndv]; exact td.1, fun H4 lp ps2 k4 hperm hsort hln hlp hpr => ?_⟩
      refine ⟨lp, _, rfl, SqL.of hlp, fun t' o ht oc od => ?_⟩
      have e4 : Ext H3 H4 := fun x o e => k4 x o (by rw [upd_ne (ne_of_none e hvp)]; exact e)
      have e5 := (e3.trans e4).trans (Ext.new ht (.frz o (.tup (ps2.map fun z => V.ref z.1))))
      have mm : (ps2.map (·.1)).map V.ref = ps2.map fun z => V.ref z.1 := by rw [List.map_map] <;> rfl
      have pa : PairsAt K (upd H4 t' (.frz o (.tup (ps2.map fun z => V.ref z.1)))) t' (ps2.map (·.2)) := ⟨ps2.map (·.1), by rw [mm]; exact plt_new oc od, paired_maps _ _ ps2 fun z hz => SqT.of (by rw [upd_ne (ne_of_none (hpr z hz).2 ht)]; exact (hpr z hz).2)⟩
      refine ⟨r, t', a, b, c, m, _, rfl, R.ext e5, ok, ⟨m1, by omega⟩, pa, ⟨asc_of hperm hsort td.2, fun e he => nn e (hperm.mem_iff.mp he)⟩, fun g H5 hgo e6 => ?_⟩
      refine q g H5 ?_ (e5.trans e6)
      rw [hgo, reach_spans_congr fun y hy => by rw [getI_perm hperm td.2, hg y hy]]
/-! ### helping_rests -/
def spHelping (K : PySem.W.Frag) : Sp := fun vs H Q _ => ∃ (r n : Addr) (a b c : Nat) (l : Prs) (v : V), vs = [.ref r, .ref n] ∧ RuleAt K H r a b c ∧ okRule a b c ∧ NumAt K H n l v ∧ FacOk l ∧
  ∀ t M H', SqT K H' t (nv M) → M.Pairwise (· < ·) → (∀ u, u ∈ M ↔ u ∈ unitsL (modF l a) ∧ reachP (modF l a) (spansU (modF l a) b c (plusOne (cntR (modF l a) (clF l a)) u)) (modF l a - 1)) → Ext H H' → Q (.ref t) H'
theorem sc_helping_rests : FnScope ["rule", "number", "core", "rest"] ["rule", "number"] (defScope s_helping_rests) := ⟨rfl, rfl, rfl, by decide +kernel, rfl, by decide +kernel, by decide +kernel⟩
theorem ok_helping_rests_k (T : Txt K mg) : OkK P w K mg base 7 (He.ga K "helping_rests") ["rule", "number"] ["number", "rule"] swap2 (spHelping K) := by
  obtain ⟨fd_check_pair, F_check_pair, b_check_pair, k_check_pair, _⟩ := (ok_check_pair (P := P) (w := w) (base := base) T).ex
  obtain ⟨fd_Core_init, F_Core_init, b_Core_init, k_Core_init, _⟩ := (ok_Core_init (P := P) (w := w) (base := base) T).ex
  obtain ⟨fd_units, F_units, b_units, k_units, _⟩ := (ok_units (P := P) (w := w) (base := base) T).ex
  obtain ⟨fd_with_one, F_with_one, b_with_one, k_with_one, _⟩ := (ok_with_one (P := P) (w := w) (base := base) T).ex
  refine fd_okK T.f_helping_rests sc_helping_rests (fun vs H Q E h => ?_) (fun _ _ _ _ _ _ us hl => match us, hl with | [_, _], _ => rfl) swap2_rel (fun _ _ _ _ _ _ us hl => match us, hl with | [_, _], _ => rfl) (fun cdv A outer s H vs Q E hr h => ?_)
  · obtain ⟨r, n, a, b, c, l, v, rfl, _⟩ := h
    rfl
  · obtain ⟨r, n, a, b, c, l, v, rfl, R, ok, N, fo, q⟩ := h
    have nd := sc_helping_rests.nd
    refine ⟨_, (pss_cons (ps_expr (pe_call F_check_pair (hr.mono (by decide)) rfl T.g_check_pair k_check_pair b_check_pair .nil pass0 (pa_cons (pv 0) (pa_cons (pv 1) pa_nil)))) (pss_cons (ps_set (i := 2) nd rfl (Or.inr rfl) (pe_make T.mk_Core F_Core_init (hr.mono (by decide)) rfl T.g_Core b_Core_init .nil pass0 (pa_cons (pv 0) (pa_cons (pv 1) pa_nil)))) (pss_one (ps_ret (pe_tupleP rfl T.z_tuple (pe_lc (own := [("rest", 3)]) (g := (gName 3)) rfl nd (pi_tup (pe_call F_units (hr.mono (by decide)) rfl T.g_units k_units b_units .nil pass0 (pa_cons (pe_fld (pv 2) rfl) pa_nil))) (blkOk_by (own := [("rest", 3)]) (N := ["rule", "number", "core", "rest"]) (sc := defScope s_helping_rests) (by decide +kernel)) (fun _ _ _ _ _ => (pg_name (i := 3) nd rfl (Or.inl rfl))) (fun _ _ _ _ _ => (pts_one (pt_val (pe_call F_with_one (hr.mono (by decide)) rfl T.g_with_one k_with_one b_with_one .nil pass0 (pa_cons (pv 0) (pa_cons (pv 2) (pa_cons (pv 3) pa_nil))))))) (fun _ _ _ _ _ => (pv 3)))))))), ?_⟩
    obtain ⟨dr, mo, hr0, hmo⟩ := R.ex
    obtain ⟨dn, tn, hn, hp⟩ := id N.ex
    refine ⟨_, rfl, _, rfl, r, n, a, b, c, l, v, rfl, R, N, _, rfl, _, rfl, ?_⟩
    intro x dx nx ndx nex
    have e1 : Ext H (upd (upd H dx (.own x)) x (.ins (CC K) dx [])) := fun y o e => by
      rw [upd_ne (ne_of_none e nx), upd_ne (ne_of_none e ndx)]
      exact e
    refine ⟨x, r, n, dx, a, b, c, l, v, rfl, upd_same, ne_of_none hr0 nx, ne_of_none hn nx, R.ext e1, ok, N.ext e1, fo, fun L H1 C1 b1 => ⟨rfl, ?_⟩⟩
    have e2 : Ext H H1 := fun y o e => b1 y o (e1 _ _ e) (ne_of_none e nx)
    obtain ⟨dx', t, s, hx, hp', _⟩ := id C1.ex
    obtain ⟨⟨a1, a2⟩, _, _⟩ := id ok
    obtain ⟨m1, m2⟩ := modF_bd (l := l) (show 1 ≤ a by omega)
    refine ⟨_, rfl, x, CC K, dx', _, _, rfl, hx, T.c_Core, T.n_Core_modulus, cf_modulus _ _ _ _, _, rfl, ⟨m1, by omega⟩, fun t2 H2 pl2 e3 => ⟨t2, rfl, ⟨_, pl2.sqt⟩, fun D hD => ?_⟩⟩
    have e4 := e2.trans e3
    refine lc_tup (xs := nv (unitsL (modF l a))) (fun i H' => Ext H2 H' ∧ ∃ M : List Nat, H' D = some (.lst (nv M)) ∧ M.Sublist ((unitsL (modF l a)).take i) ∧ ∀ u, u ∈ M ↔ u ∈ (unitsL (modF l a)).take i ∧ reachP (modF l a) (spansU (modF l a) b c (plusOne (cntR (modF l a) (clF l a)) u)) (modF l a - 1))
      ⟨Ext.new hD _, [], upd_same, by simp, fun u => by simp⟩ (fun i H' _ p => sqt_ext pl2.sqt p.1) (fun i y H' hy p => ?_) (fun H' p => ?_)
    · obtain ⟨u, hu, rfl⟩ := nv_at hy
      obtain ⟨e5, M, hM, hsub, hmem⟩ := p
      have tk : (unitsL (modF l a)).take (i + 1) = (unitsL (modF l a)).take i ++ [u] := by rw [List.take_add_one, hu] <;> rfl
      have il := (List.getElem?_eq_some_iff.mp hu).1
      have ul := unitsL_len (modF l a)
      have nd := unitsL_nodup (modF l a)
      have hni : u ∉ (unitsL (modF l a)).take i := fun z => by
        rw [← List.take_append_drop (i + 1) (unitsL (modF l a)), tk, List.nodup_append] at nd
        have nd3 := nd.1
        rw [List.nodup_append] at nd3
        exact nd3.2.2 u z u (by simp) rfl
      refine ⟨rfl, _, rfl, _, rfl, _, rfl, r, x, a, b, c, u, l, L, rfl, R.ext (e4.trans e5), ok, C1.ext (e3.trans e5), fo, List.mem_of_getElem? hu, fun g H3 hg e6 => ⟨g, rfl, ?_⟩⟩
      have hM3 := e6 _ _ hM
      cases g with
      | false =>
        refine iteF ⟨e5.trans e6, M, hM3, tk ▸ hsub.trans (List.sublist_append_left _ _), fun w => ?_⟩
        rw [hmem, tk]
        constructor
        · rintro ⟨h1, h2⟩
          exact ⟨List.mem_append_left _ h1, h2⟩
        · rintro ⟨h1, h2⟩
          rcases List.mem_append.mp h1 with z | z
          · exact ⟨z, h2⟩
          · simp at z
            subst z
            exact absurd (hg.mpr h2) Bool.false_ne_true
      | true =>
        have hml : M.length ≤ modF l a := Nat.le_trans hsub.length_le (by rw [List.length_take]; omega)
        refine iteT ⟨_, rfl, nv M, hM3, by rw [List.length_map]; exact small_lt (by omega), fun y o e => ?_, M ++ [u], by rw [upd_same]; show _ = some (HO.lst (List.map _ (M ++ [u]))); rw [List.map_append]; rfl, tk ▸ hsub.append (List.Sublist.refl _), fun w => ?_⟩
        · rw [upd_ne (ne_of_none e hD)]
          exact e6 _ _ (e5 _ _ e)
        · rw [List.mem_append, hmem, tk, List.mem_append]
          constructor
          · rintro (⟨h1, h2⟩ | h1)
            · exact ⟨.inl h1, h2⟩
            · refine ⟨.inr h1, ?_⟩
              simp at h1
              subst h1
              exact hg.mp rfl
          · rintro ⟨h1 | h1, h2⟩
            · exact .inl ⟨h1, h2⟩
            · exact .inr h1
    · obtain ⟨e5, M, hM, hsub, hmem⟩ := p
      have hl2 : (nv (unitsL (modF l a))).length = (unitsL (modF l a)).length := List.length_map _
      rw [hl2, List.take_length] at hsub hmem
      refine ⟨D, _, rfl, SqL.of hM, fun t3 o ht oc od => ?_⟩
      exact q t3 M _ (plt_new oc od).sqt ((unitsL_asc _).sublist hsub) hmem ((e4.trans e5).trans (Ext.new ht _))
theorem ok_helping_rests (T : Txt K mg) : Ok P w K mg base 7 (He.ga K "helping_rests") ["rule", "number"] (spHelping K) := (ok_helping_rests_k T).ok
/-! ### goes -/
def spGoes (K : PySem.W.Frag) : Sp := fun vs H Q _ => ∃ (r n : Addr) (a b c : Nat) (l : Prs) (v : V), vs = [.ref r, .ref n] ∧ RuleAt K H r a b c ∧ okRule a b c ∧ NumAt K H n l v ∧ FacOk l ∧
  ∀ (g : Bool) H', (g = true ↔ reachP (modF l a) (spansU (modF l a) b c (cntR (modF l a) (clF l a))) (modF l a - 1)) → Ext H H' → Q (.bl g) H'
theorem sc_goes : FnScope ["rule", "number", "core"] ["rule", "number"] (defScope s_goes) := ⟨rfl, rfl, rfl, by decide +kernel, rfl, by decide +kernel, by decide +kernel⟩
theorem ok_goes (T : Txt K mg) : Ok P w K mg base 7 (He.ga K "goes") ["rule", "number"] (spGoes K) := by
  obtain ⟨fd_check_pair, F_check_pair, b_check_pair, k_check_pair, _⟩ := (ok_check_pair (P := P) (w := w) (base := base) T).ex
  obtain ⟨fd_Core_init, F_Core_init, b_Core_init, k_Core_init, _⟩ := (ok_Core_init (P := P) (w := w) (base := base) T).ex
  obtain ⟨fd_goes_by, F_goes_by, b_goes_by, k_goes_by, _⟩ := (ok_goes_by (P := P) (w := w) (base := base) T).ex
  obtain ⟨fd_counts_of, F_counts_of, b_counts_of, k_counts_of, _⟩ := (ok_counts_of (P := P) (w := w) (base := base) T).ex
  refine fd_ok T.f_goes sc_goes (fun vs H Q E h => ?_) (fun _ _ _ _ _ _ us hl => match us, hl with | [_, _], _ => rfl) (fun cdv A outer s H vs Q E hr h => ?_)
  · obtain ⟨r, n, a, b, c, l, v, rfl, _⟩ := h
    rfl
  · obtain ⟨r, n, a, b, c, l, v, rfl, R, ok, N, fo, q⟩ := h
    have nd := sc_goes.nd
    refine ⟨_, (pss_cons (ps_expr (pe_call F_check_pair (hr.mono (by decide)) rfl T.g_check_pair k_check_pair b_check_pair .nil pass0 (pa_cons (pv 0) (pa_cons (pv 1) pa_nil)))) (pss_cons (ps_set (i := 2) nd rfl (Or.inl rfl) (pe_make T.mk_Core F_Core_init (hr.mono (by decide)) rfl T.g_Core b_Core_init .nil pass0 (pa_cons (pv 0) (pa_cons (pv 1) pa_nil)))) (pss_one (ps_ret (pe_call F_goes_by (hr.mono (by decide)) rfl T.g_goes_by k_goes_by b_goes_by .nil pass0 (pa_cons (pv 0) (pa_cons (pe_fld (pv 2) rfl) (pa_cons (pe_call F_counts_of (hr.mono (by decide)) rfl T.g_counts_of k_counts_of b_counts_of .nil pass0 (pa_cons (pe_fld (pv 2) rfl) (pa_cons (pe_fld (pv 2) rfl) pa_nil))) pa_nil)))))))), ?_⟩
    obtain ⟨dr, mo, hr0, hmo⟩ := R.ex
    obtain ⟨dn, tn, hn, hp⟩ := id N.ex
    refine ⟨_, rfl, _, rfl, r, n, a, b, c, l, v, rfl, R, N, _, rfl, _, rfl, ?_⟩
    intro x dx nx ndx nex
    have e1 : Ext H (upd (upd H dx (.own x)) x (.ins (CC K) dx [])) := fun y o e => by
      rw [upd_ne (ne_of_none e nx), upd_ne (ne_of_none e ndx)]
      exact e
    refine ⟨x, r, n, dx, a, b, c, l, v, rfl, upd_same, ne_of_none hr0 nx, ne_of_none hn nx, R.ext e1, ok, N.ext e1, fo, fun L H1 C1 b1 => ⟨rfl, ?_⟩⟩
    have e2 : Ext H H1 := fun y o e => b1 y o (e1 _ _ e) (ne_of_none e nx)
    obtain ⟨dx', t, s, hx, hp', _⟩ := id C1.ex
    obtain ⟨⟨a1, a2⟩, _, _⟩ := id ok
    obtain ⟨m1, m2⟩ := modF_bd (l := l) (show 1 ≤ a by omega)
    have hlen : (clF l a).length ≤ 900 := Nat.le_trans (Nat.le_trans (coreF_len _ _) fo.len) (by decide)
    have hnn : ∀ e ∈ clF l a, 0 ≤ e.2 := fun e he => Int.le_of_lt (coreF_pos _ _ e he)
    refine ⟨_, rfl, _, rfl, x, CC K, dx', _, _, rfl, hx, T.c_Core, T.n_Core_modulus, cf_modulus _ _ _ _, _, rfl, x, CC K, dx', _, _, rfl, hx, T.c_Core, T.n_Core_modulus, cf_modulus _ _ _ _, _, rfl, x, CC K, dx', _, _, rfl, hx, T.c_Core, T.n_Core_factors, cf_factors _ _ _ _, _, t, _, rfl, by omega, hp', hlen, fun t1 L1 H2 p1 g1 e3 => ?_⟩
    refine ⟨r, t1, a, b, c, _, L1, rfl, R.ext (e2.trans e3), ok, ⟨m1, by omega⟩, p1, cntok_of g1 hnn, fun g H3 hg e4 => ?_⟩
    refine q g H3 ?_ ((e2.trans e3).trans e4)
    rw [hg, reach_spans_congr (g' := cntR (modF l a) (clF l a)) fun y _ => g1.get y]
end
end K81

set_option Elab.async false
set_option linter.all false
set_option maxRecDepth 100000
set_option maxHeartbeats 4000000
namespace K81
open PySem PySem.Spec PyProof.Rows L2 Bk Evl
/-! ### Number.times -/
def addI (es : Prs) (q : Int × Int) : Prs := putI es q.1 (getI es q.1 + q.2)
def timesI (l l2 : Prs) : Prs := l2.foldl addI l
theorem timesI_snoc (l l2 : Prs) (i : Nat) (q : Int × Int) (h : l2[i]? = some q) : timesI l (l2.take (i + 1)) = addI (timesI l (l2.take i)) q := by
  unfold timesI
  rw [List.take_add_one, h, List.foldl_append]
  rfl
theorem timesI_nodup : ∀ (l2 l : Prs), (l.map (·.1)).Nodup → ((timesI l l2).map (·.1)).Nodup
  | [], _, h => h
  | q :: l2, l, h => timesI_nodup l2 (addI l q) (nodup_put h)
theorem timesI_get : ∀ (l2 l : Prs) (x : Int), (l2.map (·.1)).Nodup → getI (timesI l l2) x = getI l x + getI l2 x
  | [], l, x, _ => by show getI l x = getI l x + 0; omega
  | q :: l2, l, x, h => by
    rw [List.map_cons, List.nodup_cons] at h
    show getI (timesI (addI l q) l2) x = _
    rw [timesI_get l2 _ x h.2, getI_cons]
    unfold addI
    rw [getI_put]
    by_cases z : x = q.1
    · rw [if_pos z, if_pos z.symm, z, getI_out h.1]
      omega
    · rw [if_neg z, if_neg (fun w => z w.symm)]
theorem timesI_keys : ∀ (l2 l : Prs) (x : Int), x ∈ (timesI l l2).map (·.1) ↔ x ∈ l.map (·.1) ∨ x ∈ l2.map (·.1)
  | [], l, x => by simp [timesI]
  | q :: l2, l, x => by
    show x ∈ (timesI (addI l q) l2).map (·.1) ↔ _
    rw [timesI_keys l2]
    unfold addI
    rw [mem_put, List.map_cons, List.mem_cons]
    constructor
    · rintro ((h | h) | h)
      · exact .inr (.inl h)
      · exact .inl h
      · exact .inr (.inr h)
    · rintro (h | h | h)
      · exact .inl (.inr h)
      · exact .inl (.inl h)
      · exact .inr h
theorem timesI_len : ∀ (l2 l : Prs), (timesI l l2).length ≤ l.length + l2.length
  | [], _ => Nat.le_refl _
  | q :: l2, l => by
    have h := timesI_len l2 (addI l q)
    have := len_put l q.1 (getI l q.1 + q.2)
    show (timesI (addI l q) l2).length ≤ _
    unfold addI at h
    unfold addI
    rw [List.length_cons]
    omega
theorem FacOk.nd {l : Prs} (f : FacOk l) : (l.map (·.1)).Nodup := nodup_asc f.asc
theorem FacOk.nn {l : Prs} (f : FacOk l) : ∀ e ∈ l, 0 ≤ e.2 := fun e he => by
  obtain ⟨_, _, _, _, _, h, _⟩ := f.one e he
  omega
theorem facOne_times {l l2 : Prs} (f : FacOk l) (f2 : FacOk l2) (hx : ∀ e ∈ timesI l l2, e.2 ≤ 10 ^ 30) : ∀ e ∈ timesI l l2, FacOne e := by
  intro e he
  have hk := (timesI_keys l2 l e.1).mp (List.mem_map.mpr ⟨e, he, rfl⟩)
  have hg := getI_mem (timesI_nodup l2 l f.nd) he
  rw [timesI_get l2 l e.1 f2.nd] at hg
  have n1 := getI_nonneg e.1 f.nn
  have n2 := getI_nonneg e.1 f2.nn
  rcases hk with h | h
  · obtain ⟨e', he', ee⟩ := List.mem_map.mp h
    obtain ⟨p, p1, p2, p3, p4, p5, p6⟩ := f.one e' he'
    have := getI_mem f.nd he'
    rw [ee] at this p1
    exact ⟨p, p1, p2, p3, p4, by omega, hx e he⟩
  · obtain ⟨e', he', ee⟩ := List.mem_map.mp h
    obtain ⟨p, p1, p2, p3, p4, p5, p6⟩ := f2.one e' he'
    have := getI_mem f2.nd he'
    rw [ee] at this p1
    exact ⟨p, p1, p2, p3, p4, by omega, hx e he⟩
section
variable {P : Program} {w : World} {K : PySem.W.Frag} {mg : Str → Option Value} {base : Heap}
def spTimes (K : PySem.W.Frag) : Sp := fun vs H Q _ => ∃ (n n2 : Addr) (l l2 : Prs) (v v2 : V), vs = [.ref n, .ref n2] ∧ NumAt K H n l v ∧ NumAt K H n2 l2 v2 ∧ FacOk l ∧ FacOk l2 ∧ (timesI l l2).length ≤ 12 ∧ (∀ e ∈ timesI l l2, e.2 ≤ 10 ^ 30) ∧
  ∀ p L H', NumAt K H' p L (valueP L) → L.Perm (timesI l l2) → FacOk L → Ext H H' → Q (.ref p) H'
theorem sc_Number_times : FnScope ["self", "other", "found", "prime", "exponent"] ["self", "other"] (defScope s_Number_times) := ⟨rfl, rfl, rfl, by decide +kernel, rfl, by decide +kernel, by decide +kernel⟩
theorem ok_Number_times (T : Txt K mg) : Ok P w K mg base 8 (He.ma K (He.ga K "Number") "times") ["self", "other"] (spTimes K) := by
  obtain ⟨fd_check_value, F_check_value, b_check_value, k_check_value, _⟩ := (ok_check_value (P := P) (w := w) (base := base) T).ex
  obtain ⟨fd_number_with, F_number_with, b_number_with, k_number_with, _⟩ := (ok_number_with (P := P) (w := w) (base := base) T).ex
  obtain ⟨t_MOST_PRIMES, m_MOST_PRIMES⟩ := T.i_MOST_PRIMES
  obtain ⟨t_MOST_EXPONENT, m_MOST_EXPONENT⟩ := T.i_MOST_EXPONENT
  refine fd_ok T.f_Number_times sc_Number_times (fun vs H Q E h => ?_) (fun _ _ _ _ _ _ us hl => match us, hl with | [_, _], _ => rfl) (fun cdv A outer s H vs Q E hr h => ?_)
  · obtain ⟨n, n2, l, l2, v, v2, rfl, _⟩ := h
    rfl
  · obtain ⟨n, n2, l, l2, v, v2, rfl, N, N2, fo, fo2, hlen, hmx, q⟩ := h
    have nd := sc_Number_times.nd
    refine ⟨_, (pss_cons (ps_expr (pe_call F_check_value (hr.mono (by decide)) rfl T.g_check_value k_check_value b_check_value .nil pass0 (pa_cons (pv 1) pa_nil))) (pss_cons (ps_set (i := 2) nd rfl (Or.inl rfl) (pe_callTy (call_dictT rfl) rfl T.z_dict (by decide +kernel) (pa_cons (pe_fld (pv 0) rfl) pa_nil))) (pss_cons (ps_for PassesOwn.never rfl (pi_tup (pe_fld (pv 1) rfl)) (pg_tup rfl (pgs_cons (pg_name (i := 3) nd rfl (Or.inl rfl)) (pgs_cons (pg_name (i := 4) nd rfl (Or.inl rfl)) pgs_nil))) (pss_one (ps_asg (pe_op op_add (pe_dget2 (ru hr) (pv 2) (pv 3) pe_int ⟨rfl, rfl, rfl, rfl⟩) (pv 4)) (pg_sub (pv 2) (pv 3) (set_dict (ru hr)))))) (pss_cons (ps_if (pt_cmpR op_gt (pe_callB call_lenD rfl T.z_len (by decide +kernel) (pa_cons (pv 2) pa_nil)) (pe_glob (v := .int 12) rfl m_MOST_PRIMES ⟨_, rfl⟩) (nomark _)) (pss_one ps_never) pss_nil) (pss_cons (ps_if (pt_val (pe_callB (cr_any rfl) rfl T.z_any (by decide +kernel) (pa_cons (pe_lock (pe_lc (own := [("exponent", 4)]) (g := (gName 4)) (tt := tYes) rfl nd (pi_values (pv 2)) (blkOk_by (own := [("exponent", 4)]) (N := ["self", "other", "found", "prime", "exponent"]) (sc := defScope s_Number_times) (by decide +kernel)) (fun _ _ _ _ _ => (pg_name (i := 4) nd rfl (Or.inl rfl))) (fun _ _ _ _ _ => pts_nil) (fun _ _ _ _ _ => (pe_cmpR op_gt (pv 4) (pe_glob (v := .int (10 ^ 30)) rfl m_MOST_EXPONENT ⟨_, rfl⟩) (nomark _))))) pa_nil))) (pss_one ps_never) pss_nil) (pss_one (ps_ret (pe_call F_number_with (hr.mono (by decide)) rfl T.g_number_with k_number_with b_number_with .nil pass0 (pa_cons (pe_tupleP rfl T.z_tuple (pe_callB (cr_sortedItK rfl) rfl T.z_sorted (by decide +kernel) (pa_cons (pe_bm0 PySem.F.plainAttrs_dict PySem.F.slot_dict_items PySem.F.type_dict_items mt_itemsK (pv 2)) pa_nil))) pa_nil))))))))), ?_⟩
    obtain ⟨dn, t, hn, hp⟩ := id N.ex
    obtain ⟨dn2, t2, hn2, hp2⟩ := id N2.ex
    obtain ⟨ps2, h1, h2⟩ := hp2.sq
    refine ⟨_, rfl, n2, dn2, _, rfl, hn2, ?_⟩
    obtain ⟨ps1, pl1, pp1⟩ := dictOf hp
    refine ⟨_, rfl, n, CN K, dn, _, _, rfl, hn, T.c_Number, T.n_Number_factors, nf_factors _ _, t, ps1, _, rfl, pl1, pp1, fun d hd => ?_⟩
    rw [merge_entI fo.nd]
    have e1 := Ext.new hd (.dK (l.map entI))
    have k1 : TabAt (upd H d (.dK (l.map entI))) d l := ⟨upd_same, fo.nd⟩
    generalize upd H d (.dK (l.map entI)) = H1 at e1 k1 ⊢
    have hlt := fo.len
    have hl2 := fo2.len
    refine ⟨_, rfl, n2, CN K, dn2, _, _, rfl, e1 _ _ hn2, T.c_Number, T.n_Number_factors, nf_factors _ _, t2, rfl, ⟨_, sqt_ext h1 e1⟩, ?_⟩
    refine for_tup (xs := ps2.map V.ref) (fun i σ H' => ∃ (u v : Option V), σ = [some (.ref n), some (.ref n2), some (.ref d), u, v] ∧ TabAt H' d (timesI l (l2.take i)) ∧ Ext H H') ⟨_, _, rfl, k1, e1⟩ ?_ ?_ ?_
    · rintro i σ H' _ ⟨u, v, rfl, _, e⟩
      exact sqt_ext h1 e
    · rintro i x σ H' hx ⟨u, v, rfl, td, e⟩
      rw [List.getElem?_map] at hx
      obtain ⟨p, hpi, rfl⟩ := Option.map_eq_some_iff.mp hx
      obtain ⟨⟨q1, q2⟩, hq, hsq⟩ := paired_at h2 i p hpi
      dsimp only at hsq
      have ll := timesI_len (l2.take i) l
      have : (l2.take i).length ≤ l2.length := by rw [List.length_take]; omega
      rw [timesI_snoc l l2 i _ hq]
      refine ⟨p, _, rfl, sqt_ext hsq e, rfl, _, _, rfl, _, _, rfl, rfl, ?_⟩
      refine ⟨_, rfl, d, rfl, .inl ⟨_, .inl td.1⟩, _, rfl, _, .inl ⟨(timesI l (l2.take i)).map entI, Sum.inl q1, .inl td.1, rfl, rfl⟩, _, rfl, getI (timesI l (l2.take i)) q1, q2, getD_entI _ _, rfl, ?_⟩
      refine ⟨_, rfl, _, rfl, d, _, rfl, .inl ⟨_, Sum.inl q1, td.1, rfl, by rw [List.length_map]; exact small_lt (by omega), rfl⟩, ?_⟩
      rw [putK_entI]
      exact ⟨_, _, rfl, ⟨upd_same, nodup_put td.2⟩, e.mut hd _⟩
    · rintro σ H' ⟨u, v, rfl, td, e⟩
      have hpl : (ps2.map V.ref).length = l2.length := by rw [List.length_map, h2.length]
      rw [hpl, List.take_length] at td
      generalize hes : timesI l l2 = es at td hlen hmx q
      refine ⟨_, rfl, d, _, rfl, td.1, _, _, rfl, rfl, _, rfl, ?_⟩
      rw [List.length_map, decide_eq_false (show ¬ (es.length : Int) > 12 by omega)]
      refine iteF ⟨d, _, td.1, True.intro, fun od => ⟨_, rfl, d, od, _, rfl, upd_same, fun D hD => ?_⟩⟩
      have ndD : d ≠ D := fun z => by rw [← z, upd_same] at hD; cases hD
      refine lc_seq itseq_d (xs := (es.map entI).map fun kv => kv.2) (fun i H2 => H2 = upd (upd H' d (.frz od (.dK (es.map entI)))) D (.lst ((List.replicate i false).map V.bl))) rfl (fun i H2 _ p => by rw [p, upd_ne ndD, upd_same]) (fun i y H2 hy p => ?_) (fun H2 p => ?_)
      · rw [List.map_map, List.getElem?_map] at hy
        obtain ⟨en, hen, rfl⟩ := Option.map_eq_some_iff.mp hy
        have il := (List.getElem?_eq_some_iff.mp hen).1
        refine ⟨rfl, ?_⟩
        unfold tYes
        dsimp only
        rw [if_pos rfl]
        refine ⟨_, rfl, _, _, rfl, rfl, ?_⟩
        have hle := hmx en (List.mem_of_getElem? hen)
        subst p
        refine ⟨_, upd_same, by rw [List.length_map, List.length_replicate]; exact small_lt (by omega), ?_⟩
        rw [upd_upd]
        congr 2
        rw [List.replicate_succ', List.map_append]
        congr 1
        show [V.bl (decide (10 ^ 30 < en.2))] = _
        rw [decide_eq_false (by omega)]
        rfl
      · subst p
        refine ⟨by rw [upd_ne ndD, upd_same], D, List.replicate ((es.map entI).map fun kv => kv.2).length false, rfl, SqL.of (by rw [upd_ne ndD.symm, upd_same]), ?_⟩
        have ea : (List.replicate ((es.map entI).map fun kv => kv.2).length false).any id = false := by simp
        refine ⟨_, rfl, ?_⟩
        rw [ea]
        refine iteF ?_
        have e3 : Ext H (upd (upd (upd H' d (.frz od (.dK (es.map entI)))) D (.lst ((List.replicate ((es.map entI).map fun kv => kv.2).length false).map V.bl))) d (.dK (es.map entI))) := fun x o z => by
          rw [upd_ne (ne_of_none z hd), upd_ne, upd_ne (ne_of_none z hd)]
          · exact e _ _ z
          · intro w
            rw [w] at z
            rw [upd_ne (fun z2 => ndD z2.symm)] at hD
            rw [e _ _ z] at hD
            cases hD
        have td3 : TabAt (upd (upd (upd H' d (.frz od (.dK (es.map entI)))) D (.lst ((List.replicate ((es.map entI).map fun kv => kv.2).length false).map V.bl))) d (.dK (es.map entI))) d es := ⟨upd_same, td.2⟩
        generalize upd (upd (upd H' d (.frz od (.dK (es.map entI)))) D (.lst ((List.replicate ((es.map entI).map fun kv => kv.2).length false).map V.bl))) d (.dK (es.map entI)) = H3 at e3 td3 ⊢
        refine ⟨_, rfl, .inr (.inr (.inl ⟨rfl, .inl ⟨_, td3.1⟩⟩)), d, _, rfl, rfl, td3.1, fun vp hvp => ?_⟩
        have ndv : d ≠ vp := ne_of_none td3.1 hvp
        refine ⟨vp, d, es, rfl, upd_same, by rw [upd_ne ndv]; exact td3.1, fun H4 lp ps3 k4 hperm hsort hln hlp hpr => ?_⟩
        refine ⟨lp, _, rfl, SqL.of hlp, fun t' o ht oc od => ?_⟩
        have e4 : Ext H3 H4 := fun x o e => k4 x o (by rw [upd_ne (ne_of_none e hvp)]; exact e)
        have e5 := (e3.trans e4).trans (Ext.new ht (.frz o (.tup (ps3.map fun z => V.ref z.1))))
        have mm : (ps3.map (·.1)).map V.ref = ps3.map fun z => V.ref z.1 := by rw [List.map_map] <;> rfl
        have pa : PairsAt K (upd H4 t' (.frz o (.tup (ps3.map fun z => V.ref z.1)))) t' (ps3.map (·.2)) := ⟨ps3.map (·.1), by rw [mm]; exact plt_new oc od, paired_maps _ _ ps3 fun z hz => SqT.of (by rw [upd_ne (ne_of_none (hpr z hz).2 ht)]; exact (hpr z hz).2)⟩
        have one : ∀ e ∈ ps3.map (·.2), FacOne e := fun e he => by
          have := hperm.mem_iff.mp he
          rw [← hes] at this hmx
          exact facOne_times fo fo2 hmx e this
        refine ⟨t', ps3.map (·.2), rfl, pa, one, fun p H5 NP e6 => q p _ H5 NP hperm ⟨by rw [hperm.length_eq]; exact hlen, one, asc_of hperm hsort td.2⟩ (e5.trans e6)⟩
end
end K81

set_option Elab.async false
set_option linter.all false
set_option maxRecDepth 100000
set_option maxHeartbeats 4000000
namespace K81
open PySem PySem.Spec PyProof.Rows L2 Bk Evl
/-! ### the mill -/
def MillAt (H : Hp) (d : Addr) : Prop := ∃ m f : Int, H d = some (.lst [.int m, .int f]) ∧ (0 ≤ m ∧ m < 2147483159) ∧ 0 ≤ f
theorem MillAt.ext {H H' : Hp} {d : Addr} (M : MillAt H d) (k : Ext H H') : MillAt H' d := let ⟨m, f, h, r⟩ := M; ⟨m, f, k _ _ h, r⟩
theorem mill_ne {H : Hp} {d x : Addr} {o : HO} (M : MillAt H d) (h : H x = some o) (c : ∀ xs, o ≠ .lst xs) : x ≠ d := fun z => by
  obtain ⟨m, f, hd, _⟩ := M
  rw [z, hd] at h
  exact c _ (Option.some.inj h).symm
theorem mill_new {H : Hp} {d x : Addr} (M : MillAt H d) (h : H x = none) : x ≠ d := fun z => by
  obtain ⟨m, f, hd, _⟩ := M
  rw [z, hd] at h
  cases h
theorem divp_mid {i j : Int} (h0 : 0 < j) (h1 : j ≤ 10 ^ 30) : CDivP i j := by
  refine ⟨h0, ?_⟩
  have e : j.natAbs.log2 < 100 := PySem.Flt.log2_lt_of (by decide) (by
    have : (10 : Int) ^ 30 < 2 ^ 100 := by decide
    have : ((2 : Nat) ^ 100 : Int) = 2 ^ 100 := by norm_cast
    omega)
  show (decide ((if j == 0 then 0 else j.natAbs.log2 / 30 + 1) > 300) && _) = false
  rw [if_neg (by simpa using (show j ≠ 0 by omega)), decide_eq_false (by omega)]
  rfl
theorem own_bits {ns : List Int} {i : Nat} (hi : i < ns.length) (hb : ∀ i ∈ ns, Builtin.Int.intBits i ≤ 1048576) : ns[i].natAbs.log2 ≤ 1048576 := by
  have hb2 := hb _ (List.getElem_mem hi)
  unfold Builtin.Int.intBits at hb2
  split at hb2
  · rename_i z
    have : ns[i] = 0 := by simpa using z
    rw [this]
    decide
  · omega
section
variable {P : Program} {w : World} {K : PySem.W.Frag} {mg : Str → Option Value} {base : Heap}
def spMill (K : PySem.W.Frag) : Sp := fun vs H Q _ => ∃ (a : Addr) (ns : List Int) (t : Nat), vs = [.ref a, .int t] ∧ SqL K H a (ns.map V.int) ∧ ns.length ≤ 1000 ∧ (∀ i ∈ ns, Builtin.Int.intBits i ≤ 1048576) ∧ t ≤ 100 ∧
  ∀ p H', H p = none → MillAt H' p → Ext H H' → Q (.ref p) H'
theorem sc_ulaw_mill : FnScope ["_law_cells", "_law_turn", "_law_mixed", "_law_cell", "_law_own"] ["_law_cells", "_law_turn"] (defScope s_ulaw_mill) := ⟨rfl, rfl, rfl, by decide +kernel, rfl, by decide +kernel, by decide +kernel⟩
theorem ok_ulaw_mill (T : Txt K mg) : Ok P w K mg base 1 (He.ga K "_law_mill") ["_law_cells", "_law_turn"] (spMill K) := by
  refine fd_ok T.f_ulaw_mill sc_ulaw_mill (fun vs H Q E h => ?_) (fun _ _ _ _ _ _ us hl => match us, hl with | [_, _], _ => rfl) (fun cdv A outer s H vs Q E hr h => ?_)
  · obtain ⟨a, ns, t, rfl, _⟩ := h
    rfl
  · obtain ⟨a, ns, t, rfl, hs, hl, hb, ht, q⟩ := h
    have nd := sc_ulaw_mill.nd
    refine ⟨_, (pss_cons (ps_set (i := 2) nd rfl (Or.inl rfl) (pe_op op_add pe_int (pe_op op_mul pe_int (pv 1)))) (pss_cons (ps_for PassesOwn.never rfl (pi_list (pe_slice sl_list (pv 0) po_none (po_some pe_int))) (pg_name (i := 3) nd rfl (Or.inl rfl)) (pss_one (ps_set (i := 2) nd rfl (Or.inl rfl) (pe_op op_mod (pe_callTy call_int1 rfl T.z_int (by decide +kernel) (pa_cons (pe_op op_add (pe_op op_add (pe_op op_mul (pv 2) pe_int) (pv 3)) pe_int) pa_nil)) pe_int)))) (Evl.pss_cut (ps_set (i := 4) nd rfl (Or.inl rfl) (pe_ifExp (pt_cmpR op_lt (pv 1) (pe_callB call_len_seq rfl T.z_len (by decide +kernel) (pa_cons (pv 0) pa_nil)) (nomark _)) (pe_ix ix_list (pv 0) (pv 1) (by intro _ _; rfl)) pe_int)) (pss_one (ps_ret (pe_lst (pa_cons (pe_op op_mod (pe_callTy call_int1 rfl T.z_int (by decide +kernel) (pa_cons (pe_op op_add (pe_op op_mul (pv 2) pe_int) (pv 4)) pa_nil)) pe_int) (pa_cons (pe_ifExp (pt_cmpR op_ge (pe_callB call_abs rfl T.z_abs (by decide +kernel) (pa_cons (pv 4) pa_nil)) (pe_op op_pow pe_int pe_int) (nomark _)) (pe_callB call_abs rfl T.z_abs (by decide +kernel) (pa_cons (pv 4) pa_nil)) pe_int) pa_nil)))))))), ?_⟩
    have hz' : (ns.map V.int).length = ns.length := List.length_map _
    refine ⟨_, rfl, _, _, rfl, rfl, .inl ⟨by decide, by decide⟩, _, _, rfl, rfl, ?_⟩
    refine ⟨_, rfl, _, rfl, a, _, rfl, hs, fun p hp => ⟨p, rfl, ⟨_, SqL.of upd_same⟩, ?_⟩⟩
    have e1 := Ext.new hp (.lst (cutV (ns.map V.int) none (some 4)))
    have k1 : upd H p (.lst (cutV (ns.map V.int) none (some 4))) p = some (.lst (cutV (ns.map V.int) none (some 4))) := upd_same
    generalize upd H p (.lst (cutV (ns.map V.int) none (some 4))) = H1 at e1 k1 ⊢
    refine for_list (xs := cutV (ns.map V.int) none (some 4)) (fun i σ H' => ∃ (m : Int) (u : Option V), σ = [some (.ref a), some (.int t), some (.int m), u, none] ∧ H' = H1 ∧ (0 ≤ m ∧ m < 2147483159)) ⟨_, _, rfl, rfl, by omega, by omega⟩ ?_ ?_ ?_
    · rintro i σ H' _ ⟨m, u, rfl, rfl, _⟩
      exact SqL.of k1
    · rintro i x σ H' hx ⟨m, u, rfl, rfl, hm1, hm2⟩
      obtain ⟨c, _, rfl⟩ : ∃ c ∈ ns, V.int c = x := List.mem_map.mp (List.mem_of_mem_drop (List.mem_of_mem_take (List.mem_of_getElem? hx)))
      refine ⟨_, rfl, _, _, rfl, rfl, .inl ⟨by omega, by omega⟩, _, rfl, _, _, rfl, rfl, _, _, rfl, rfl, .inl ⟨_, rfl, _, _, rfl, rfl, (show (0 : Int) < 2147483159 by decide), ?_⟩⟩
      exact ⟨_, _, rfl, rfl, Int.emod_nonneg _ (by decide), Int.emod_lt_of_pos _ (by decide)⟩
    · rintro σ H' ⟨m, u, rfl, rfl, hm1, hm2⟩
      refine ⟨fun σ' H'' => ∃ (own : Int), σ' = [some (.ref a), some (.int t), some (.int m), u, some (.int own)] ∧ H'' = H' ∧ own.natAbs.log2 ≤ 1048576, ?_, ?_⟩
      · refine ⟨_, rfl, _, rfl, a, _, rfl, .inl (sql_ext hs e1), _, _, rfl, rfl, _, rfl, ?_⟩
        rw [hz']
        refine ite2 (fun hlt => ?_) (fun _ => ⟨0, rfl, rfl, by decide⟩)
        have hlt' : t < ns.length := by have := of_decide_eq_true hlt; omega
        exact ⟨_, rfl, _, rfl, a, _, t, .int ns[t], rfl, rfl, sql_ext hs e1, atI_nat (by rw [List.getElem?_map, List.getElem?_eq_getElem hlt']; rfl), ns[t], rfl, rfl, own_bits hlt' hb⟩
      · rintro σ' H'' ⟨own, rfl, rfl, ho⟩
        refine ⟨_, rfl, _, _, rfl, rfl, .inl ⟨by omega, by omega⟩, _, rfl, _, _, rfl, rfl, .inl ⟨_, rfl, _, _, rfl, rfl, (show (0 : Int) < 2147483159 by decide), ?_⟩⟩
        have b1 := Int.emod_nonneg (m * 71 + own) (show (2147483159 : Int) ≠ 0 by decide)
        have b2 := Int.emod_lt_of_pos (m * 71 + own) (show (0 : Int) < 2147483159 by decide)
        refine ⟨_, rfl, _, rfl, _, _, rfl, rfl, ⟨by decide, by decide, by decide⟩, _, _, rfl, rfl, _, rfl, ?_⟩
        have fin : ∀ f : Int, 0 ≤ f → 2 ≤ sizeLine ∧ ∀ d, H'' d = none → Q (.ref d) (upd H'' d (.lst [.int ((m * 71 + own) % 2147483159), .int f])) := fun f hf => by
          refine ⟨by decide, fun d hd => q d _ ?_ ⟨_, f, upd_same, ⟨b1, b2⟩, hf⟩ (e1.trans (Ext.new hd _))⟩
          cases z : H d with
          | none => rfl
          | some o => rw [e1 _ _ z] at hd; cases hd
        exact ite2 (fun _ => ⟨_, rfl, _, rfl, fin (if own < 0 then -own else own) (by split <;> omega)⟩) (fun _ => fin 0 (Int.le_refl 0))
def spGrain : Sp := fun vs H Q _ => ∃ (d : Addr) (n : Nat), vs = [.ref d, .int n] ∧ MillAt H d ∧ (1 ≤ n ∧ n ≤ 10 ^ 30) ∧ ∀ (k : Nat) H', k < n → MillAt H' d → But d H H' → Q (.int k) H'
theorem sc_ulaw_grain : FnScope ["_law_mill_here", "_law_amount", "_law_figure"] ["_law_mill_here", "_law_amount"] (defScope s_ulaw_grain) := ⟨rfl, rfl, rfl, by decide +kernel, rfl, by decide +kernel, by decide +kernel⟩
theorem ok_ulaw_grain (T : Txt K mg) : Ok P w K mg base 1 (He.ga K "_law_grain") ["_law_mill_here", "_law_amount"] spGrain := by
  refine fd_ok T.f_ulaw_grain sc_ulaw_grain (fun vs H Q E h => ?_) (fun _ _ _ _ _ _ us hl => match us, hl with | [_, _], _ => rfl) (fun cdv A outer s H vs Q E hr h => ?_)
  · obtain ⟨d, n, rfl, _⟩ := h
    rfl
  · obtain ⟨d, n, rfl, ⟨m, f, hd, ⟨m1, m2⟩, hf⟩, ⟨n1, n2⟩, q⟩ := h
    have nd := sc_ulaw_grain.nd
    refine ⟨_, (pss_cons (ps_if (pt_cmpR op_gt (pe_ix ix_list (pv 0) pe_int (by intro _ _; rfl)) pe_int (nomark _)) (pss_cons (ps_asg (pe_callB call_divmodW rfl T.z_divmod (by decide +kernel) (pa_cons (pe_ix ix_list (pv 0) pe_int (by intro _ _; rfl)) (pa_cons (pv 1) pa_nil))) (pg_tup rfl (pgs_cons (pg_sub (pv 0) pe_int set_list) (pgs_cons (pg_name (i := 2) nd rfl (Or.inl rfl)) pgs_nil)))) (pss_one (ps_ret (pv 2)))) pss_nil) (pss_cons (ps_asg (pe_op op_mod (pe_callTy call_int1 rfl T.z_int (by decide +kernel) (pa_cons (pe_op op_add (pe_op op_mul (pe_ix ix_list (pv 0) pe_int (by intro _ _; rfl)) pe_int) pe_int) pa_nil)) pe_int) (pg_sub (pv 0) pe_int set_list)) (pss_one (ps_ret (pe_op op_mod (pe_callTy call_int1 rfl T.z_int (by decide +kernel) (pa_cons (pe_op op_fdiv (pe_ix ix_list (pv 0) pe_int (by intro _ _; rfl)) pe_int) pa_nil)) (pv 1)))))), ?_⟩
    refine ⟨_, rfl, d, _, 1, _, rfl, rfl, SqL.of hd, rfl, _, _, rfl, rfl, _, rfl, ?_⟩
    refine ite2 (fun hb => ?_) (fun hb => ?_)
    · have hf0 : 0 < f := of_decide_eq_true hb
      have n30 : (n : Int) ≤ 10 ^ 30 := by exact_mod_cast n2
      refine ⟨_, rfl, d, _, 1, _, rfl, rfl, SqL.of hd, rfl, _, rfl, f, n, rfl, divp_mid (by omega) n30, fun p hp => ?_⟩
      have npd : d ≠ p := ne_of_none hd hp
      refine ⟨p, _, rfl, SqT.of upd_same, rfl, _, _, rfl, ?_⟩
      refine ⟨_, rfl, d, _, 1, 1, rfl, rfl, by rw [upd_ne npd]; exact hd, rfl, ?_⟩
      refine ⟨_, _, rfl, rfl, _, rfl, ?_⟩
      have e0 := Int.emod_nonneg f (show (n : Int) ≠ 0 by omega)
      have e3 := Int.emod_lt_of_pos f (show (0 : Int) < (n : Int) by omega)
      have e1 : f % (n : Int) = (((f % (n : Int)).toNat : Nat) : Int) := by omega
      show Q (.int (f % (n : Int))) _
      rw [e1]
      refine q _ _ (by omega) ⟨m, f / n, upd_same, ⟨m1, m2⟩, Int.ediv_nonneg hf (by omega)⟩ fun x o e ne => ?_
      rw [upd_ne ne, upd_ne (ne_of_none e hp)]
      exact e
    · refine ⟨_, rfl, d, _, 0, _, rfl, rfl, SqL.of hd, rfl, _, _, rfl, rfl, .inl ⟨by omega, by omega⟩, _, _, rfl, rfl, .inl ⟨_, rfl, _, _, rfl, rfl, (show (0 : Int) < 2147483159 by decide), ?_⟩⟩
      have b1 := Int.emod_nonneg (m * 46457 + 4271) (show (2147483159 : Int) ≠ 0 by decide)
      have b2 := Int.emod_lt_of_pos (m * 46457 + 4271) (show (0 : Int) < 2147483159 by decide)
      refine ⟨_, rfl, d, _, 0, 0, rfl, rfl, hd, rfl, ?_⟩
      refine ⟨_, rfl, d, _, 0, _, rfl, rfl, SqL.of upd_same, rfl, _, _, rfl, rfl, ⟨by decide, by decide⟩, .inl ⟨_, rfl, _, rfl, _, _, rfl, rfl, by omega, ?_⟩⟩
      have e0 := Int.emod_nonneg (((m * 46457 + 4271) % 2147483159) / 256) (show (n : Int) ≠ 0 by omega)
      have e3 := Int.emod_lt_of_pos (((m * 46457 + 4271) % 2147483159) / 256) (show (0 : Int) < (n : Int) by omega)
      have e1 : ((m * 46457 + 4271) % 2147483159) / 256 % (n : Int) = (((((m * 46457 + 4271) % 2147483159) / 256 % (n : Int)).toNat : Nat) : Int) := by omega
      show Q (.int (((m * 46457 + 4271) % 2147483159) / 256 % (n : Int))) _
      rw [e1]
      refine q _ _ (by omega) ⟨((m * 46457 + 4271) % 2147483159), f, upd_same, ⟨b1, b2⟩, hf⟩ fun x o e ne => ?_
      rw [upd_ne ne]
      exact e
/-! ### _law_measure, _law_spec, _law_made -/
theorem sc_ulaw_measure : FnScope ["_law_great_here", "_law_small"] ["_law_great_here", "_law_small"] (defScope s_ulaw_measure) := ⟨rfl, rfl, rfl, by decide +kernel, rfl, by decide +kernel, by decide +kernel⟩
theorem ok_ulaw_measure (T : Txt K mg) : Ok P w K mg base 1 (He.ga K "_law_measure") ["_law_great_here", "_law_small"] spGcd := by
  refine fd_ok T.f_ulaw_measure sc_ulaw_measure (fun vs H Q E h => ?_) (fun _ _ _ _ _ _ us hl => match us, hl with | [_, _], _ => rfl) (fun cdv A outer s H vs Q E hr h => ?_)
  · obtain ⟨i, j, rfl, _⟩ := h
    rfl
  · obtain ⟨i, j, rfl, q⟩ := h
    have nd := sc_ulaw_measure.nd
    refine ⟨_, (pss_cons (ps_while PassesOwn.never (pt_cmpR op_gt (pv 1) pe_int (nomark _)) (pss_one (ps_par (i := 0) (j := 1) rfl nd rfl rfl (by decide) rfl rfl (pa_cons (pv 1) (pa_cons (pe_op op_mod (pe_callTy call_int1 rfl T.z_int (by decide +kernel) (pa_cons (pv 0) pa_nil)) (pv 1)) pa_nil)) (by rfl)))) (pss_one (ps_ret (pv 0)))), ?_⟩
    refine ⟨fun m σ H' => ∃ a b : Nat, σ = [some (.int a), some (.int b)] ∧ H' = H ∧ Nat.gcd a b = Nat.gcd i j ∧ m = b, ⟨j, i, j, rfl, rfl, rfl, rfl⟩, ?_⟩
    rintro m σ H1 ⟨a, b, rfl, e1, hg, rfl⟩
    cases e1
    refine ⟨_, rfl, _, _, rfl, rfl, _, rfl, ?_⟩
    refine ite2 (fun hb => ?_) (fun hb => ?_)
    · have hb' : 0 < m := by have := of_decide_eq_true hb; omega
      refine ⟨fun σ H' => ∃ a' b' : Nat, σ = [some (.int a'), some (.int b')] ∧ H' = H ∧ Nat.gcd a' b' = Nat.gcd i j ∧ b' < m, fun σ' H' ⟨a', b', e1, e2, e3, e4⟩ => ⟨b', e4, a', b', e1, e2, e3, rfl⟩, ?_⟩
      refine ⟨_, rfl, _, rfl, .inl ⟨_, rfl, _, rfl, _, _, rfl, rfl, (by omega), ?_⟩⟩
      refine ⟨_, _, rfl, m, a % m, ?_, rfl, ?_, Nat.mod_lt _ hb'⟩
      · show [some (V.int m), some (V.int ((a : Int) % (m : Int)))] = _
        rw [show ((a : Int) % (m : Int)) = ((a % m : Nat) : Int) by omega]
      · rw [← hg, Nat.gcd_comm a m, Nat.gcd_rec m a, Nat.gcd_comm]
    · have hb' : m = 0 := by
        have : ¬ (0 : Int) < (m : Int) := fun z => hb (decide_eq_true z)
        omega
      subst hb'
      refine ⟨_, rfl, ?_⟩
      rw [Nat.gcd_zero_right] at hg
      subst hg
      exact q
/-- the shares of a rule with a -/
def fineL (a : Nat) : List Nat := ((List.range 12).filter fun k => decide (Nat.gcd a (k + 1) = 1)).map (· + 1)
theorem fineL_mem {a c : Nat} (h : c ∈ fineL a) : shareB a c = true := by
  unfold fineL at h
  obtain ⟨k, hk, rfl⟩ := List.mem_map.mp h
  obtain ⟨h1, h2⟩ := List.mem_filter.mp hk
  have h3 := List.mem_range.mp h1
  have h4 : Nat.gcd (k + 1) a = 1 := (Nat.gcd_comm _ _).trans (of_decide_eq_true h2)
  unfold shareB
  rw [decide_eq_true (by omega), decide_eq_true (by omega), decide_eq_true h4]
  rfl
theorem shareB_one (a : Nat) : shareB a 1 = true := by
  unfold shareB
  rw [decide_eq_true (Nat.gcd_one_left a)]
  rfl
theorem fineL_len (a : Nat) : 1 ≤ (fineL a).length ∧ (fineL a).length ≤ 12 := by
  unfold fineL
  rw [List.length_map]
  refine ⟨List.length_pos_of_mem (a := 0) (List.mem_filter.mpr ⟨by simp, by simp⟩), Nat.le_trans (List.length_filter_le _ _) (by simp)⟩
def spSpec : Sp := fun vs H Q _ => ∃ d : Addr, vs = [.ref d] ∧ MillAt H d ∧ ∀ (a b c : Nat) t H', okRule a b c → H' t = some (.tup [.int a, .int b, .int c]) → H t = none → MillAt H' d → But d H H' → Q (.ref t) H'
theorem sc_ulaw_spec : FnScope ["_law_mill_here", "_law_a", "_law_fine", "_law_k"] ["_law_mill_here"] (defScope s_ulaw_spec) := ⟨rfl, rfl, rfl, by decide +kernel, rfl, by decide +kernel, by decide +kernel⟩
theorem ok_ulaw_spec (T : Txt K mg) : Ok P w K mg base 2 (He.ga K "_law_spec") ["_law_mill_here"] spSpec := by
  obtain ⟨fd_ulaw_grain, F_ulaw_grain, b_ulaw_grain, k_ulaw_grain, _⟩ := (ok_ulaw_grain (P := P) (w := w) (base := base) T).ex
  obtain ⟨fd_ulaw_measure, F_ulaw_measure, b_ulaw_measure, k_ulaw_measure, _⟩ := (ok_ulaw_measure (P := P) (w := w) (base := base) T).ex
  refine fd_ok T.f_ulaw_spec sc_ulaw_spec (fun vs H Q E h => ?_) (fun _ _ _ _ _ _ us hl => match us, hl with | [_], _ => rfl) (fun cdv A outer s H vs Q E hr h => ?_)
  · obtain ⟨d, rfl, _⟩ := h
    rfl
  · obtain ⟨d, rfl, M, q⟩ := h
    have nd := sc_ulaw_spec.nd
    refine ⟨_, (pss_cons (ps_set (i := 1) nd rfl (Or.inr rfl) (pe_op op_add pe_int (pe_call F_ulaw_grain (hr.mono (by decide)) rfl T.g_ulaw_grain k_ulaw_grain b_ulaw_grain .nil pass0 (pa_cons (pv 0) (pa_cons pe_int pa_nil))))) (pss_cons (ps_setLc (i := 2) (own := [("_law_k", 3)]) (g := (gName 3)) rfl nd rfl rfl (sw_true rfl rfl rfl (by decide +kernel)) (pi_range2 rfl T.z_range (pa_cons pe_int (pa_cons pe_int pa_nil))) (blkOk_by (own := [("_law_k", 3)]) (N := ["_law_mill_here", "_law_a", "_law_fine", "_law_k"]) (sc := defScope s_ulaw_spec) (by decide +kernel)) (fun _ _ _ _ _ => (pg_name (i := 3) nd rfl (Or.inl rfl))) (fun _ _ _ _ _ => (pts_one (pt_cmpR op_eq (pe_call F_ulaw_measure (hr.mono (by decide)) rfl T.g_ulaw_measure k_ulaw_measure b_ulaw_measure .nil pass0 (pa_cons (pv 1) (pa_cons (pv 3) pa_nil))) pe_int (nomark _)))) (fun _ _ _ _ _ => (pv 3))) (pss_cons (ps_if (pt_cmpR op_eq (pe_call F_ulaw_grain (hr.mono (by decide)) rfl T.g_ulaw_grain k_ulaw_grain b_ulaw_grain .nil pass0 (pa_cons (pv 0) (pa_cons pe_int pa_nil))) pe_int (nomark _)) (pss_one (ps_ret (pe_tup (pa_cons (pv 1) (pa_cons pe_int (pa_cons pe_int pa_nil)))))) pss_nil) (pss_one (ps_ret (pe_tup (pa_cons (pv 1) (pa_cons (pe_ix ix_list (pv 2) (pe_call F_ulaw_grain (hr.mono (by decide)) rfl T.g_ulaw_grain k_ulaw_grain b_ulaw_grain .nil pass0 (pa_cons (pv 0) (pa_cons (pe_callB call_len_seq rfl T.z_len (by decide +kernel) (pa_cons (pv 2) pa_nil)) pa_nil))) (by intro _ _; rfl)) (pa_cons (pe_ix ix_list (pv 2) (pe_call F_ulaw_grain (hr.mono (by decide)) rfl T.g_ulaw_grain k_ulaw_grain b_ulaw_grain .nil pass0 (pa_cons (pv 0) (pa_cons (pe_callB call_len_seq rfl T.z_len (by decide +kernel) (pa_cons (pv 2) pa_nil)) pa_nil))) (by intro _ _; rfl)) pa_nil))))))))), ?_⟩
    refine ⟨_, rfl, d, 11, rfl, M, ⟨by decide, by decide⟩, fun k1 H1 hk1 M1 b1 => ⟨_, _, rfl, rfl, ?_⟩⟩
    have fr : ∀ {H2 : Hp} {x : Addr}, MillAt H2 d → But d H H2 → H2 x = none → H x = none := fun {H2 x} M2 b2 hx => by
      cases z : H x with
      | none => rfl
      | some o =>
        rw [b2 _ _ z (mill_new M2 hx)] at hx
        cases hx
    refine ⟨1, 13, rfl, ⟨by decide, by decide, by decide, by decide⟩, fun D hD => ?_⟩
    have ea : (2 : Int) + (k1 : Int) = ((2 + k1 : Nat) : Int) := by omega
    generalize hka : 2 + k1 = a at ea
    refine lc_range (lo := 1) (n := 12) (Cw H1 (fun k => decide (Nat.gcd a (k + 1) = 1)) (fun k => V.int (1 + (k : Int))) D) ⟨hD, Ex.new hD, upd_same⟩ (fun k H5 hk p => ?_) (fun H5 p => ?_)
    · refine ⟨rfl, cw_turn p (by omega) (fun H1 e Q q => ?_) (fun _ H1 e Q q => ⟨_, rfl, q H1 (Ex.refl H1)⟩)⟩
      refine ⟨_, rfl, _, rfl, a, k + 1, ?_, ⟨rfl, _, rfl, ?_⟩⟩
      · show [V.int ((2 : Int) + (k1 : Int)), V.int (1 + (k : Int))] = _
        rw [ea, show (1 + (k : Int)) = ((k + 1 : Nat) : Int) by omega]
      · rw [show decide (V.int ((Nat.gcd a (k + 1) : Nat) : Int) = V.int 1) = decide (Nat.gcd a (k + 1) = 1) from decide_eq_decide.mpr ⟨fun z => by injection z with z; omega, fun z => by rw [z]; rfl⟩]
        exact q H1 (Ex.refl H1)
    · obtain ⟨p1, p2, p3⟩ := p
      have e3 : H5 D = some (.lst (nv (fineL a))) := by
        rw [p3]
        unfold given fineL
        rw [nv_map]
        congr 2
        refine List.map_congr_left fun x _ => ?_
        show V.int (1 + (x : Int)) = V.int ((x + 1 : Nat) : Int)
        congr 1
        omega
      have M5 := M1.ext p2
      have b5 : But d H H5 := b1.trans ((show Ext H1 H5 from p2).but d)
      have nDd := mill_new M1 hD
      have a2 : 2 ≤ a ∧ a ≤ 12 := by omega
      obtain ⟨l1, l2⟩ := fineL_len a
      have hlv : (nv (fineL a)).length = (fineL a).length := List.length_map _
      refine ⟨_, rfl, d, 3, rfl, M5, ⟨by decide, by decide⟩, fun k6 H6 hk6 M6 b6 => ⟨rfl, _, rfl, ?_⟩⟩
      have e6 := b6 _ _ e3 nDd
      have b56 := b5.trans b6
      refine ite2 (fun _ => ?_) (fun _ => ?_)
      · refine ⟨_, rfl, by show 3 ≤ sizeLine; decide, fun t ht => ?_⟩
        refine q a 1 1 t _ ⟨a2, shareB_one a, shareB_one a⟩ (by rw [upd_same]; show some (HO.tup [V.int ((2 : Int) + (k1 : Int)), _, _]) = _; rw [ea]; rfl) (fr M6 b56 ht) (M6.ext (Ext.new ht _)) (b56.trans ((Ext.new ht _).but d))
      · have at_ : ∀ (k : Nat), k < (fineL a).length → ∃ c : Nat, (nv (fineL a))[k]? = some (V.int c) ∧ shareB a c = true := fun k hk => ⟨(fineL a)[k], by rw [List.getElem?_map, List.getElem?_eq_getElem hk]; rfl, fineL_mem (List.getElem_mem hk)⟩
        refine ⟨_, rfl, _, rfl, _, rfl, _, rfl, D, nv (fineL a), rfl, .inl (SqL.of e6), d, _, rfl, M6, ⟨by rw [hlv]; exact l1, by rw [hlv]; omega⟩, fun k7 H7 hk7 M7 b7 => ?_⟩
        obtain ⟨b, ab, sb⟩ := at_ k7 (by rwa [hlv] at hk7)
        have e7 := b7 _ _ e6 nDd
        refine ⟨D, _, k7, _, rfl, rfl, SqL.of e7, atI_nat ab, ?_⟩
        refine ⟨_, rfl, _, rfl, _, rfl, D, nv (fineL a), rfl, .inl (SqL.of e7), d, _, rfl, M7, ⟨by rw [hlv]; exact l1, by rw [hlv]; omega⟩, fun k8 H8 hk8 M8 b8 => ?_⟩
        obtain ⟨c, ac, sc⟩ := at_ k8 (by rwa [hlv] at hk8)
        have e8 := b8 _ _ e7 nDd
        refine ⟨D, _, k8, _, rfl, rfl, SqL.of e8, atI_nat ac, by show 3 ≤ sizeLine; decide, fun t ht => ?_⟩
        have b58 := (b56.trans b7).trans b8
        exact q a b c t _ ⟨a2, sb, sc⟩ (by rw [upd_same]; show some (HO.tup [V.int ((2 : Int) + (k1 : Int)), _, _]) = _; rw [ea]) (fr M8 b58 ht) (M8.ext (Ext.new ht _)) (b58.trans ((Ext.new ht _).but d))
def spMade (K : PySem.W.Frag) : Sp := fun vs H Q _ => ∃ (t : Addr) (a b c : Nat), vs = [.ref t] ∧ SqT K H t [.int a, .int b, .int c] ∧ okRule a b c ∧ ∀ r H', RuleAt K H' r a b c → Ext H H' → Q (.ref r) H'
theorem sc_ulaw_made : FnScope ["_law_spec_here"] ["_law_spec_here"] (defScope s_ulaw_made) := ⟨rfl, rfl, rfl, by decide +kernel, rfl, by decide +kernel, by decide +kernel⟩
theorem ok_ulaw_made (T : Txt K mg) : Ok P w K mg base 6 (He.ga K "_law_made") ["_law_spec_here"] (spMade K) := by
  obtain ⟨fd_Rule_init, F_Rule_init, b_Rule_init, k_Rule_init, _⟩ := (ok_Rule_init (P := P) (w := w) (base := base) T).ex
  refine fd_ok T.f_ulaw_made sc_ulaw_made (fun vs H Q E h => ?_) (fun _ _ _ _ _ _ us hl => match us, hl with | [_], _ => rfl) (fun cdv A outer s H vs Q E hr h => ?_)
  · obtain ⟨t, a, b, c, rfl, _⟩ := h
    rfl
  · obtain ⟨t, a, b, c, rfl, ht, ok, q⟩ := h
    have nd := sc_ulaw_made.nd
    refine ⟨_, (pss_one (ps_ret (pe_make T.mk_Rule F_Rule_init (hr.mono (by decide)) rfl T.g_Rule b_Rule_init .nil pass0 (pa_cons (pe_ix ix_tup (pv 0) pe_int (by intro _ _; rfl)) (pa_cons (pe_ix ix_tup (pv 0) pe_int (by intro _ _; rfl)) (pa_cons (pe_ix ix_tup (pv 0) pe_int (by intro _ _; rfl)) pa_nil)))))), ?_⟩
    refine ⟨_, rfl, t, _, 0, _, rfl, rfl, ht, rfl, _, rfl, t, _, 1, _, rfl, rfl, ht, rfl, _, rfl, t, _, 2, _, rfl, rfl, ht, rfl, ?_⟩
    intro r dr hr0 hdr nr
    refine ⟨r, dr, a, b, c, rfl, upd_same, ok, fun H7 R7 k7 => ⟨rfl, ?_⟩⟩
    refine q r H7 R7 fun x o e => ?_
    have x1 := ne_of_none e hr0
    exact k7 x o (by rw [upd_ne x1, upd_ne (ne_of_none e hdr)]; exact e) x1
end
end K81

set_option Elab.async false
set_option linter.all false
set_option maxRecDepth 100000
set_option maxHeartbeats 4000000
namespace K81
open PySem PySem.Spec PyProof.Rows L2 Bk Evl
theorem paired_app {α β : Type} {F : α → β → Prop} : ∀ {a c : List α} {b d : List β}, Paired F a b → Paired F c d → Paired F (a ++ c) (b ++ d)
  | _, _, _, _, .nil, h => h
  | _, _, _, _, .cons x t, h => .cons x (paired_app t h)
section
variable {P : Program} {w : World} {K : PySem.W.Frag} {mg : Str → Option Value} {base : Heap}
/-! ### _law_split -/
def spSplit (K : PySem.W.Frag) : Sp := fun vs H Q _ => ∃ n : Nat, vs = [.int n] ∧ (1 ≤ n ∧ n ≤ 1000000) ∧ ∀ t H', PairsAt K H' t (toI (facN n)) → H t = none → Ext H H' → Q (.ref t) H'
theorem takeOut_more : ∀ (f g v p : Nat), 1 ≤ v → 2 ≤ p → v < 2 ^ f → f ≤ g → takeOut g v p = takeOut f v p
  | 0, g, v, p, h1, _, h2, _ => by rw [Nat.pow_zero] at h2; omega
  | f + 1, g, v, p, h1, hp, h2, hg => by
    obtain ⟨g', rfl⟩ : ∃ g', g = g' + 1 := ⟨g - 1, by omega⟩
    by_cases h : v % p = 0
    · rw [takeOut_step _ _ _ h, takeOut_step _ _ _ h]
      have hd := Nat.div_add_mod v p
      rw [h, Nat.add_zero] at hd
      have pos : 1 ≤ v / p := by
        rcases Nat.eq_zero_or_pos (v / p) with z | z
        · rw [z, Nat.mul_zero] at hd; omega
        · exact z
      have lt : v / p < 2 ^ f := by
        rw [Nat.pow_succ] at h2
        have : 2 * (v / p) ≤ p * (v / p) := Nat.mul_le_mul_right _ hp
        omega
      rw [takeOut_more f g' (v / p) p pos hp lt (by omega)]
    · rw [takeOut_stop _ _ _ h, takeOut_stop _ _ _ h]
theorem sc_ulaw_split : FnScope ["_law_amount", "_law_found", "_law_left", "_law_k", "_law_many", "_law_turn"] ["_law_amount"] (defScope s_ulaw_split) := ⟨rfl, rfl, rfl, by decide +kernel, rfl, by decide +kernel, by decide +kernel⟩
theorem ok_ulaw_split (T : Txt K mg) : Ok P w K mg base 1 (He.ga K "_law_split") ["_law_amount"] (spSplit K) := by
  refine fd_ok T.f_ulaw_split sc_ulaw_split (fun vs H Q E h => ?_) (fun _ _ _ _ _ _ us hl => match us, hl with | [_], _ => rfl) (fun cdv A outer s H vs Q E hr h => ?_)
  · obtain ⟨n, rfl, _⟩ := h
    rfl
  · obtain ⟨n, rfl, ⟨n1, n2⟩, q⟩ := h
    have nd := sc_ulaw_split.nd
    refine ⟨_, (pss_cons (ps_par (i := 1) (j := 2) rfl nd rfl rfl (by decide) rfl rfl (pa_cons (pe_lst pa_nil) (pa_cons (pv 0) pa_nil)) (by rfl)) (Evl.pss_cut (ps_for PassesOwn.never rfl (pi_range2 rfl T.z_range (pa_cons pe_int (pa_cons (pe_op op_add (pv 0) pe_int) pa_nil))) (pg_name (i := 3) nd rfl (Or.inl rfl)) (pss_cons (ps_if (pt_cmpR op_gt (pe_op op_mul (pv 3) (pv 3)) (pv 2) (nomark _)) (pss_one ps_break) pss_nil) (pss_cons (ps_set (i := 4) nd rfl (Or.inl rfl) pe_int) (pss_cons (ps_for PassesOwn.never rfl (pi_range1 rfl T.z_range (pa_cons pe_int pa_nil)) (pg_name (i := 5) nd rfl (Or.inl rfl)) (pss_one (ps_if (pt_cmpR op_eq (pe_op op_mod (pe_callTy call_int1 rfl T.z_int (by decide +kernel) (pa_cons (pv 2) pa_nil)) (pv 3)) pe_int (nomark _)) (pss_one (ps_par (i := 2) (j := 4) rfl nd rfl rfl (by decide) rfl rfl (pa_cons (pe_op op_fdiv (pv 2) (pv 3)) (pa_cons (pe_op op_add (pv 4) pe_int) pa_nil)) (by rfl))) pss_nil))) (pss_one (ps_if (pt_cmpR op_gt (pv 4) pe_int (nomark _)) (pss_one (ps_expr (pe_bm PySem.F.plainAttrs_list PySem.F.slot_list_append PySem.F.type_list_append mt_append (pv 1) (pa_cons (pe_tup (pa_cons (pv 3) (pa_cons (pv 4) pa_nil))) pa_nil)))) pss_nil)))))) (pss_one (ps_ret (pe_tupleP rfl T.z_tuple (pe_op op_cat (pv 1) (pe_op op_rep (pe_lst (pa_cons (pe_tup (pa_cons (pv 2) (pa_cons pe_int pa_nil))) pa_nil)) (pe_callTy call_int1 rfl T.z_int (by decide +kernel) (pa_cons (pe_cmpR op_gt (pv 2) pe_int (nomark _)) pa_nil))))))))), ?_⟩
    refine ⟨by show 0 ≤ sizeLine; decide, fun fl hfl => ⟨_, rfl, _, _, rfl, ?_⟩⟩
    refine ⟨fun σ' H' => ∃ (v : Nat) (l : List (Nat × Nat)) (u3 u4 u5 : Option V), σ' = [some (.int n), some (.ref fl), some (.int v), u3, u4, u5] ∧ PList H' fl (toI l) ∧ Ext H H' ∧ l ++ (if 1 < v then [(v, 1)] else []) = facN n ∧ 1 ≤ v ∧ l.length ≤ 1000, ?_, ?_⟩
    · refine ⟨_, rfl, _, _, rfl, rfl, 2, (n : Int) + 1, rfl, ⟨by decide, by decide, by omega, by omega⟩, ?_⟩
      refine for_range (lo := 2) (n := ((n : Int) + 1 - 2).toNat) (fun i σ' H' => ∃ (v f : Nat) (l : List (Nat × Nat)) (u3 u4 u5 : Option V), σ' = [some (.int n), some (.ref fl), some (.int v), u3, u4, u5] ∧ PList H' fl (toI l) ∧ Ext H H' ∧ l ++ facGo f v (2 + i) = facN n ∧ (1 ≤ v ∧ v ≤ n) ∧ 1002 ≤ 2 + i + f ∧ l.length ≤ i ∧ i ≤ 1000)
        ⟨n, 1000, [], _, _, _, rfl, ⟨[], upd_same, .nil⟩, Ext.new hfl _, rfl, ⟨n1, Nat.le_refl n⟩, by omega, Nat.le_refl 0, by omega⟩ ?_ ?_
      · rintro i σ' H1 hi ⟨v, f, l, u3, u4, u5, rfl, hl, e1, hf, ⟨v1, v2⟩, hpf, hli, hi2⟩
        have ep : (2 : Int) + (i : Int) = ((2 + i : Nat) : Int) := by omega
        generalize hpp : 2 + i = p at ep hf hpf
        refine ⟨_, rfl, _, rfl, _, _, rfl, rfl, .inl ⟨by omega, by omega⟩, _, rfl, _, _, rfl, rfl, _, rfl, ?_⟩
        have epp : ((2 : Int) + (i : Int)) * ((2 : Int) + (i : Int)) = ((p * p : Nat) : Int) := by rw [ep]; exact (Int.natCast_mul p p).symm
        show if decide ((v : Int) < ((2 : Int) + (i : Int)) * ((2 : Int) + (i : Int))) = true then _ else _
        rw [epp]
        refine ite2 (fun hgt => ?_) (fun hgt => ?_)
        · have hgt' : ¬ p * p ≤ v := by have := of_decide_eq_true hgt; omega
          have fe : facGo f v p = if 1 < v then [(v, 1)] else [] := by
            cases f with
            | zero => rfl
            | succ k => exact if_neg hgt'
          rw [fe] at hf
          exact ⟨v, l, _, _, _, rfl, hl, e1, hf, v1, by omega⟩
        · have hle' : p * p ≤ v := Nat.not_lt.mp fun z => hgt (decide_eq_true (by omega))
          have hp3 : p ≤ 1000 := by
            refine Classical.byContradiction fun z => ?_
            have : 1001 * 1001 ≤ p * p := Nat.mul_le_mul (by omega) (by omega)
            omega
          obtain ⟨f', rfl⟩ : ∃ f', f = f' + 1 := ⟨f - 1, by omega⟩
          unfold facGo at hf
          rw [if_pos hle'] at hf
          have t20 : takeOut 40 v p = takeOut 20 v p := takeOut_more 20 40 v p v1 (by omega) (lt20 (by omega)) (by decide)
          refine ⟨40, rfl, by decide, by decide, ?_⟩
          refine for_range (lo := 0) (n := 40) (fun j σ2 H2 => ∃ (v' m' : Nat) (u : Option V), σ2 = [some (.int n), some (.ref fl), some (.int v'), some (.int ((2 : Int) + (i : Int))), some (.int m'), u] ∧ H2 = H1 ∧ (takeOut (40 - j) v' p).1 = (takeOut 40 v p).1 ∧ m' + (takeOut (40 - j) v' p).2 = (takeOut 40 v p).2)
            ⟨v, 0, _, rfl, rfl, rfl, Nat.zero_add _⟩ ?_ ?_
          · rintro j σ2 H2 hj ⟨v', m', u, rfl, rfl, t1, t2⟩
            obtain ⟨g, hg⟩ : ∃ g, 40 - j = g + 1 := ⟨39 - j, by omega⟩
            have hg2 : 40 - (j + 1) = g := by omega
            refine ⟨_, rfl, .inl ⟨_, rfl, _, rfl, _, _, rfl, rfl, by omega, rfl, _, rfl, ?_⟩⟩
            show if decide (V.int ((v' : Int) % ((2 : Int) + (i : Int))) = V.int 0) = true then _ else _
            rw [ep, dec_mod]
            refine ite2 (fun h0 => ?_) (fun h0 => ?_)
            · have h0' : v' % p = 0 := of_decide_eq_true h0
              rw [hg, takeOut_step _ _ _ h0'] at t1 t2
              refine ⟨_, rfl, _, rfl, _, _, rfl, rfl, ⟨by omega, by omega⟩, _, rfl, _, _, rfl, rfl, _, _, rfl, v' / p, m' + 1, some (.int (0 + (j : Int))), ?_, rfl, ?_, ?_⟩
              · show [some (V.int n), some (V.ref fl), some (V.int ((v' : Int) / (p : Int))), some (V.int (p : Int)), some (V.int ((m' : Int) + 1)), some (V.int (0 + (j : Int)))] = _
                rw [show ((v' : Int) / (p : Int)) = ((v' / p : Nat) : Int) from (Int.natCast_ediv v' p).symm]
                rfl
              · rw [hg2]; exact t1
              · rw [hg2]
                dsimp only at t2
                omega
            · have h0' : ¬ v' % p = 0 := fun z => h0 (decide_eq_true z)
              rw [hg, takeOut_stop _ _ _ h0'] at t1 t2
              refine ⟨v', m', _, rfl, rfl, ?_, ?_⟩
              · rw [hg2, takeOut_stop _ _ _ h0']; exact t1
              · rw [hg2, takeOut_stop _ _ _ h0']; exact t2
          · rintro σ2 H2 ⟨v', j, u, rfl, rfl, t1, t2⟩
            have t1 : v' = (takeOut 20 v p).1 := t20 ▸ t1
            have t2 : j = (takeOut 20 v p).2 := t20 ▸ t2
            have vpos := takeOut_pos 20 v p v1 (by omega)
            have vle := takeOut_le 20 v p
            rw [← t1] at vpos vle
            refine ⟨_, rfl, _, _, rfl, rfl, _, rfl, ?_⟩
            refine ite2 (fun hj => ?_) (fun hj => ?_)
            · have hj' : 0 < j := by have := of_decide_eq_true hj; omega
              rw [← t2, if_pos hj', ← t1] at hf
              obtain ⟨ps, g1, g2⟩ := id hl
              refine ⟨_, rfl, .inl ⟨rfl, _, SqL.of g1⟩, _, rfl, _, rfl, by show 2 ≤ sizeLine; decide, fun tp htp => ?_⟩
              obtain ⟨g3, g4⟩ := hl.snoc (a := (2 : Int) + (i : Int)) (b := j) htp _ g1
              have nft : fl ≠ tp := ne_of_none g1 htp
              refine ⟨fl, _, _, rfl, rfl, by rw [upd_ne nft]; exact g1, ?_, ?_⟩
              · rw [g3]
                unfold toI
                rw [List.length_map]
                exact small_lt (by omega)
              · refine ⟨v', f', l ++ [(p, j)], _, _, _, rfl, ?_, ?_, by rw [List.append_assoc, show 2 + (i + 1) = p + 1 by omega]; exact hf, ⟨vpos, by omega⟩, by omega, by rw [List.length_append, List.length_singleton]; omega, by omega⟩
                · have : toI (l ++ [(p, j)]) = toI l ++ [((2 : Int) + (i : Int), (j : Int))] := by unfold toI; rw [List.map_append, ep]; rfl
                  rw [this]
                  exact g4
                · intro x o e
                  rw [upd_ne (ne_of_none e hfl), upd_ne (ne_of_none (e1 x o e) htp)]
                  exact e1 x o e
            · have hj' : ¬ 0 < j := fun z => hj (decide_eq_true (by omega))
              rw [← t2, if_neg hj', ← t1] at hf
              exact ⟨v', f', l, _, _, _, rfl, hl, e1, by rw [show 2 + (i + 1) = p + 1 by omega]; exact hf, ⟨vpos, by omega⟩, by omega, by omega, by omega⟩
      · rintro σ' H1 ⟨v, f, l, u3, u4, u5, rfl, hl, e1, hf, ⟨v1, v2⟩, hpf, hli, hi2⟩
        have ei : ((n : Int) + 1 - 2).toNat = n - 1 := by omega
        rw [ei] at hf hli hi2 hpf
        have hgt' : ¬ (2 + (n - 1)) * (2 + (n - 1)) ≤ v := fun z => by
          have : (n + 1) * (n + 1) ≤ v := by rwa [show 2 + (n - 1) = n + 1 by omega] at z
          have : (n + 1) * 1 ≤ (n + 1) * (n + 1) := Nat.mul_le_mul_left _ (by omega)
          omega
        have fe : facGo f v (2 + (n - 1)) = if 1 < v then [(v, 1)] else [] := by
          cases f with
          | zero => rfl
          | succ k => exact if_neg hgt'
        rw [fe] at hf
        exact ⟨v, l, _, _, _, rfl, hl, e1, hf, v1, by omega⟩
    · rintro σ' H1 ⟨v, l, u3, u4, u5, rfl, hl, e1, hf, v1, hll⟩
      obtain ⟨ps, g1, g2⟩ := id hl
      refine ⟨_, rfl, _, rfl, by show 2 ≤ sizeLine; decide, fun tp htp => ⟨by show 1 ≤ sizeLine; decide, fun pl hpl => ?_⟩⟩
      have nft : fl ≠ tp := ne_of_none g1 htp
      have nfp : fl ≠ pl := ne_of_none (show upd H1 tp (.tup [.int v, .int 1]) fl = _ by rw [upd_ne nft]; exact g1) hpl
      have ntp : tp ≠ pl := fun z => by rw [← z, upd_same] at hpl; cases hpl
      have e2 := (e1.trans (Ext.new htp (.tup [.int v, .int 1]))).trans (Ext.new hpl (.lst [.ref tp]))
      have g1' : upd (upd H1 tp (.tup [.int v, .int 1])) pl (.lst [.ref tp]) fl = some (.lst (ps.map V.ref)) := by rw [upd_ne nfp, upd_ne nft]; exact g1
      have htp' : upd (upd H1 tp (.tup [.int v, .int 1])) pl (.lst [.ref tp]) tp = some (.tup [.int v, .int 1]) := by rw [upd_ne ntp, upd_same]
      have hpl' : upd (upd H1 tp (.tup [.int v, .int 1])) pl (.lst [.ref tp]) pl = some (.lst [.ref tp]) := upd_same
      have g2' : Paired (fun p (q : Int × Int) => upd (upd H1 tp (.tup [.int v, .int 1])) pl (.lst [.ref tp]) p = some (.tup [.int q.1, .int q.2])) ps (toI l) := L2.Paired.mapP g2 fun c q w => (Ext.new hpl _) _ _ ((Ext.new htp _) _ _ w)
      generalize upd (upd H1 tp (.tup [.int v, .int 1])) pl (.lst [.ref tp]) = H2 at e2 g1' htp' hpl' g2' ⊢
      have lps : ps.length = l.length := by rw [g2.length]; unfold toI; rw [List.length_map]
      refine ⟨_, rfl, _, _, rfl, rfl, .inr ⟨_, rfl, ?_⟩⟩
      have fin2 : ∀ (L : List (Nat × Nat)) (qs : List Addr) (r : Addr), L.length ≤ 1 → Paired (fun p (q : Int × Int) => H2 p = some (.tup [.int q.1, .int q.2])) qs (toI L) → l ++ L = facN n → H2 r = none →
          (∃ l b xs zs, V.ref fl = .ref l ∧ V.ref r = .ref b ∧ upd H2 r (.lst (qs.map V.ref)) l = some (.lst xs) ∧ upd H2 r (.lst (qs.map V.ref)) b = some (.lst zs) ∧ xs.length + zs.length ≤ sizeLine ∧ ∀ p, upd H2 r (.lst (qs.map V.ref)) p = none → kTupP K (.ref p) (upd (upd H2 r (.lst (qs.map V.ref))) p (.lst (xs ++ zs))) fun v H' => Q v H') := fun L qs r hL hq hf hr => by
        have nfr : fl ≠ r := ne_of_none g1' hr
        have lq : qs.length ≤ 1 := by rw [hq.length]; unfold toI; rw [List.length_map]; exact hL
        refine ⟨fl, r, ps.map V.ref, qs.map V.ref, rfl, rfl, by rw [upd_ne nfr]; exact g1', upd_same, by rw [List.length_map, List.length_map]; exact Nat.le_trans (show ps.length + qs.length ≤ 1001 by omega) (by decide), fun r2 hr2 => ⟨r2, _, rfl, SqL.of upd_same, fun t o ht oc od => ?_⟩⟩
        have e3 := e2.trans (Ext.new hr (.lst (qs.map V.ref)))
        have e4 := (e3.trans (Ext.new hr2 (.lst (ps.map V.ref ++ qs.map V.ref)))).trans (Ext.new ht (.frz o (.tup (ps.map V.ref ++ qs.map V.ref))))
        refine q t _ ⟨ps ++ qs, ?_, ?_⟩ ?_ e4
        · rw [List.map_append]; exact plt_new oc od
        · have : toI (facN n) = toI l ++ toI L := by rw [← hf]; unfold toI; rw [List.map_append]
          rw [this]
          have k : ∀ c (z : Int × Int), H2 c = some (.tup [.int z.1, .int z.2]) → SqT K (upd (upd (upd H2 r (.lst (qs.map V.ref))) r2 (.lst (ps.map V.ref ++ qs.map V.ref))) t (.frz o (.tup (ps.map V.ref ++ qs.map V.ref)))) c [.int z.1, .int z.2] := fun c z w => SqT.of ((Ext.new ht _) _ _ ((Ext.new hr2 _) _ _ ((Ext.new hr _) _ _ w)))
          exact paired_app (L2.Paired.mapP g2' k) (L2.Paired.mapP hq k)
        · cases z : H t with
          | none => rfl
          | some u => rw [((e3.trans (Ext.new hr2 (.lst (ps.map V.ref ++ qs.map V.ref)))) _ _ z)] at ht; cases ht
      by_cases hv : 1 < v
      · have hb : decide ((1 : Int) < (v : Int)) = true := decide_eq_true (by omega)
        rw [if_pos hv] at hf
        refine ⟨pl, _, _, rfl, rfl, hpl', ?_⟩
        show _ ∧ _
        rw [hb]
        refine ⟨by decide, by decide, by show 1 * 1 ≤ sizeLine; decide, fun r hr => ?_⟩
        exact fin2 [(v, 1)] [tp] r (by simp) (.cons htp' .nil) hf hr
      · have hb : decide ((1 : Int) < (v : Int)) = false := decide_eq_false (by omega)
        rw [if_neg hv] at hf
        refine ⟨pl, _, _, rfl, rfl, hpl', ?_⟩
        show _ ∧ _
        rw [hb]
        refine ⟨by decide, by decide, by show 1 * 0 ≤ sizeLine; decide, fun r hr => ?_⟩
        exact fin2 [] [] r (by simp) .nil hf hr
end
end K81

set_option Elab.async false
set_option linter.all false
set_option maxRecDepth 100000
set_option maxHeartbeats 4000000
namespace K81
open PySem PySem.Spec PyProof.Rows L2 Bk Evl
def menuL : List Nat := [2, 3, 5, 7, 11, 13, 17, 19, 23, 29, 31, 37, 101, 997, 999983]
theorem menu_ok : ∀ p ∈ menuL, 2 ≤ p ∧ p ≤ 1000000 ∧ primeB p = true := by decide +kernel
theorem menu_asc : menuL.Pairwise (· < ·) := by decide +kernel
theorem big_sub : ((10 : Int) ^ (30 : Int).toNat - (10 : Int) ^ (4 : Int).toNat) = ((10 ^ 30 - 10 ^ 4 : Nat) : Int) := by decide
theorem small_kinds (x : Int) (hx : 1 ≤ x ∧ x ≤ 10 ^ 30 - 10 ^ 4) : ∀ k : Nat, k < 5 → ∃ y : Int, [V.int 1, V.int 1, V.int 2, V.int 3, V.int x][k]? = some (V.int y) ∧ 1 ≤ y ∧ y ≤ 10 ^ 30 - 10 ^ 4
  | 0, _ => ⟨1, rfl, by decide, by decide⟩
  | 1, _ => ⟨1, rfl, by decide, by decide⟩
  | 2, _ => ⟨2, rfl, by decide, by decide⟩
  | 3, _ => ⟨3, rfl, by decide, by decide⟩
  | 4, _ => ⟨x, rfl, hx.1, hx.2⟩
  | k + 5, h => by omega
section
variable {P : Program} {w : World} {K : PySem.W.Frag} {mg : Str → Option Value} {base : Heap}
/-! ### _law_great -/
def spGreat (K : PySem.W.Frag) : Sp := fun vs H Q _ => ∃ (d : Addr) (n : Nat), vs = [.ref d, .int n] ∧ MillAt H d ∧ n ≤ 12 ∧ ∀ l t H', PairsAt K H' t l → FacOk l → l.length ≤ n → (∀ q ∈ l, q.2 ≤ 10 ^ 30 - 10 ^ 4) → H t = none → MillAt H' d → But d H H' → Q (.ref t) H'
theorem sc_ulaw_great : FnScope ["_law_mill_here", "_law_most", "_law_menu", "_law_found", "_law_k"] ["_law_mill_here", "_law_most"] (defScope s_ulaw_great) := ⟨rfl, rfl, rfl, by decide +kernel, rfl, by decide +kernel, by decide +kernel⟩
theorem ok_ulaw_great (T : Txt K mg) : Ok P w K mg base 2 (He.ga K "_law_great") ["_law_mill_here", "_law_most"] (spGreat K) := by
  obtain ⟨fd_ulaw_grain, F_ulaw_grain, b_ulaw_grain, k_ulaw_grain, _⟩ := (ok_ulaw_grain (P := P) (w := w) (base := base) T).ex
  refine fd_ok T.f_ulaw_great sc_ulaw_great (fun vs H Q E h => ?_) (fun _ _ _ _ _ _ us hl => match us, hl with | [_, _], _ => rfl) (fun cdv A outer s H vs Q E hr h => ?_)
  · obtain ⟨d, n, rfl, _⟩ := h
    rfl
  · obtain ⟨d, n, rfl, M, hn, q⟩ := h
    have nd := sc_ulaw_great.nd
    refine ⟨_, (pss_cons (ps_par (i := 2) (j := 3) rfl nd rfl rfl (by decide) rfl rfl (pa_cons (pe_lst (pa_cons pe_int (pa_cons pe_int (pa_cons pe_int (pa_cons pe_int (pa_cons pe_int (pa_cons pe_int (pa_cons pe_int (pa_cons pe_int (pa_cons pe_int (pa_cons pe_int (pa_cons pe_int (pa_cons pe_int (pa_cons pe_int (pa_cons pe_int (pa_cons pe_int pa_nil)))))))))))))))) (pa_cons (pe_lst pa_nil) pa_nil)) (by rfl)) (pss_cons (ps_for PassesOwn.never rfl (pi_list (pv 2)) (pg_name (i := 4) nd rfl (Or.inl rfl)) (pss_one (ps_if (PW.pt (pw_and (pt_cmpR op_lt (pe_callB call_len_seq rfl T.z_len (by decide +kernel) (pa_cons (pv 3) pa_nil)) (pv 1) (nomark _)) (pw_and1 (pt_cmpR op_eq (pe_call F_ulaw_grain (hr.mono (by decide)) rfl T.g_ulaw_grain k_ulaw_grain b_ulaw_grain .nil pass0 (pa_cons (pv 0) (pa_cons pe_int pa_nil))) pe_int (nomark _))))) (pss_one (ps_expr (pe_bm PySem.F.plainAttrs_list PySem.F.slot_list_append PySem.F.type_list_append mt_append (pv 3) (pa_cons (pe_tup (pa_cons (pv 4) (pa_cons (pe_ix ix_list (pe_lst (pa_cons pe_int (pa_cons pe_int (pa_cons pe_int (pa_cons pe_int (pa_cons (pe_op op_add pe_int (pe_call F_ulaw_grain (hr.mono (by decide)) rfl T.g_ulaw_grain k_ulaw_grain b_ulaw_grain .nil pass0 (pa_cons (pv 0) (pa_cons (pe_op op_sub (pe_op op_pow pe_int pe_int) (pe_op op_pow pe_int pe_int)) pa_nil)))) pa_nil)))))) (pe_call F_ulaw_grain (hr.mono (by decide)) rfl T.g_ulaw_grain k_ulaw_grain b_ulaw_grain .nil pass0 (pa_cons (pv 0) (pa_cons pe_int pa_nil))) (by intro _ _; rfl)) pa_nil))) pa_nil)))) pss_nil))) (pss_one (ps_ret (pe_tupleP rfl T.z_tuple (pv 3)))))), ?_⟩
    refine ⟨by show 15 ≤ sizeLine; decide, fun mn hmn => ⟨by show 0 ≤ sizeLine; decide, fun fl hfl => ⟨_, _, rfl, ?_⟩⟩⟩
    have nmd := mill_new M hmn
    have M1 := M.ext (Ext.new hmn (.lst (nv menuL)))
    have nfd := mill_new M1 hfl
    have nfm : mn ≠ fl := fun z => by rw [← z, upd_same] at hfl; cases hfl
    have fr0 : H fl = none := by rw [upd_ne (Ne.symm nfm)] at hfl; exact hfl
    have hm2 : upd (upd H mn (.lst (nv menuL))) fl (.lst []) mn = some (.lst (nv menuL)) := by rw [upd_ne nfm, upd_same]
    refine ⟨_, rfl, mn, rfl, ⟨_, SqL.of hm2⟩, ?_⟩
    have b2 : But d H (upd (upd H mn (.lst (nv menuL))) fl (.lst [])) := fun x o e _ => by rw [upd_ne (ne_of_none e fr0), upd_ne (ne_of_none e hmn)]; exact e
    refine for_list (xs := nv menuL) (fun i σ H' => ∃ (u : Option V) (l : Prs), σ = [some (.ref d), some (.int n), some (.ref mn), some (.ref fl), u] ∧ PList H' fl l ∧ MillAt H' d ∧ But d H H' ∧ H' mn = some (.lst (nv menuL)) ∧ l.length ≤ n ∧ (l.map (·.1)).Sublist ((menuL.take i).map fun k : Nat => (k : Int)) ∧ ∀ q ∈ l, 1 ≤ q.2 ∧ q.2 ≤ 10 ^ 30 - 10 ^ 4)
      ⟨_, [], rfl, ⟨[], upd_same, .nil⟩, M1.ext (Ext.new hfl _), b2, hm2, Nat.zero_le n, by simp, fun q hq => by cases hq⟩ ?_ ?_ ?_
    · rintro i σ H' _ ⟨u, l, rfl, _, _, _, hm, _⟩
      exact SqL.of hm
    · rintro i x σ H1 hx ⟨u, l, rfl, pl, Mi, bi, hm, hl, hsub, hex⟩
      obtain ⟨p, hp, rfl⟩ := nv_at hx
      have tk : (menuL.take (i + 1)).map (fun k : Nat => (k : Int)) = (menuL.take i).map (fun k : Nat => (k : Int)) ++ [(p : Int)] := by rw [List.take_add_one, hp, List.map_append] <;> rfl
      have skip : ∀ H2, MillAt H2 d → But d H1 H2 → ∃ (u : Option V) (l : Prs), [some (V.ref d), some (.int n), some (.ref mn), some (.ref fl), some (.int p)] = [some (V.ref d), some (.int n), some (.ref mn), some (.ref fl), u] ∧ PList H2 fl l ∧ MillAt H2 d ∧ But d H H2 ∧ H2 mn = some (.lst (nv menuL)) ∧ l.length ≤ n ∧ (l.map (·.1)).Sublist ((menuL.take (i + 1)).map fun k : Nat => (k : Int)) ∧ ∀ q ∈ l, 1 ≤ q.2 ∧ q.2 ≤ 10 ^ 30 - 10 ^ 4 := fun H2 M2 b12 => by
        obtain ⟨ps, g1, g2⟩ := id pl
        refine ⟨_, l, rfl, ⟨ps, b12 _ _ g1 nfd, L2.Paired.mapP g2 fun c q w => b12 _ _ w (mill_ne Mi w (by intro _ z; cases z))⟩, M2, bi.trans b12, b12 _ _ hm nmd, hl, ?_, hex⟩
        rw [tk]
        exact hsub.trans (List.sublist_append_left _ _)
      obtain ⟨ps, g1, g2⟩ := id pl
      have lps : (ps.map V.ref).length = l.length := by rw [List.length_map, g2.length]
      refine ⟨_, rfl, fl, _, rfl, .inl (SqL.of g1), _, rfl, _, _, rfl, rfl, _, rfl, ?_⟩
      refine ite2 (fun hlt => ?_) (fun _ => skip H1 Mi (But.refl d H1))
      have hlt' : l.length < n := by have := of_decide_eq_true hlt; omega
      refine ⟨_, rfl, d, 4, rfl, Mi, ⟨by decide, by decide⟩, fun k2 H2 hk2 M2 b12 => ⟨rfl, _, rfl, ?_⟩⟩
      refine ite2 (fun _ => ?_) (fun _ => skip H2 M2 b12)
      have g12 := b12 _ _ g1 nfd
      refine ⟨_, rfl, .inl ⟨rfl, _, SqL.of g12⟩, _, rfl, ?_⟩
      refine ⟨_, rfl, _, _, rfl, rfl, ⟨by decide, by decide, by decide⟩, _, _, rfl, rfl, ⟨by decide, by decide, by decide⟩, _, _, rfl, rfl, d, 10 ^ 30 - 10 ^ 4, ?_, M2, ⟨by decide, by decide⟩, fun k3 H3 hk3 M3 b23 => ?_⟩
      · show [V.ref d, V.int ((10 : Int) ^ (30 : Int).toNat - (10 : Int) ^ (4 : Int).toNat)] = _
        rw [big_sub]
      refine ⟨_, _, rfl, rfl, by show 5 ≤ sizeLine; decide, fun pl5 hpl5 => ?_⟩
      have n5d := mill_new M3 hpl5
      have M4 := M3.ext (Ext.new hpl5 (.lst [.int 1, .int 1, .int 2, .int 3, .int (1 + (k3 : Int))]))
      have b34 : But d H3 (upd H3 pl5 (.lst [.int 1, .int 1, .int 2, .int 3, .int (1 + (k3 : Int))])) := (Ext.new hpl5 _).but d
      have h54 : upd H3 pl5 (.lst [.int 1, .int 1, .int 2, .int 3, .int (1 + (k3 : Int))]) pl5 = some (.lst [.int 1, .int 1, .int 2, .int 3, .int (1 + (k3 : Int))]) := upd_same
      refine ⟨_, rfl, d, 5, rfl, M4, ⟨by decide, by decide⟩, fun k6 H6 hk6 M6 b46 => ?_⟩
      have h56 := b46 _ _ h54 n5d
      have b16 : But d H1 H6 := ((b12.trans b23).trans b34).trans b46
      obtain ⟨y, hy, y1, y2⟩ := small_kinds (1 + (k3 : Int)) ⟨by omega, by have : ((10 ^ 30 - 10 ^ 4 : Nat) : Int) = 10 ^ 30 - 10 ^ 4 := (by decide); omega⟩ k6 hk6
      refine ⟨pl5, _, k6, _, rfl, rfl, SqL.of h56, atI_nat hy, by show 2 ≤ sizeLine; decide, fun tp htp => ?_⟩
      have g16 := b16 _ _ g1 nfd
      have pl6 : PList H6 fl l := ⟨ps, g16, L2.Paired.mapP g2 fun c q w => b16 _ _ w (mill_ne Mi w (by intro _ z; cases z))⟩
      obtain ⟨g3, g4⟩ := pl6.snoc (a := p) (b := y) htp _ g16
      have nft : fl ≠ tp := ne_of_none g16 htp
      refine ⟨fl, _, _, rfl, rfl, by rw [upd_ne nft]; exact g16, by rw [lps]; exact small_lt (by omega), ?_⟩
      refine ⟨_, l ++ [((p : Int), y)], rfl, g4, ?_, fun x o e ne => ?_, ?_, by rw [List.length_append, List.length_singleton]; omega, ?_, ?_⟩
      · obtain ⟨mm, ff, hd6, r⟩ := M6
        refine ⟨mm, ff, ?_, r⟩
        rw [upd_ne nfd.symm, upd_ne (ne_of_none hd6 htp)]
        exact hd6
      · have e6 := b16 _ _ (bi _ _ e ne) ne
        rw [upd_ne (ne_of_none e fr0), upd_ne (ne_of_none e6 htp)]
        exact e6
      · have hm6 := b16 _ _ hm nmd
        rw [upd_ne nfm, upd_ne (ne_of_none hm6 htp)]
        exact hm6
      · rw [tk, List.map_append]
        exact hsub.append (List.Sublist.refl _)
      · intro q hq
        rcases List.mem_append.mp hq with z | z
        · exact hex q z
        · simp at z
          rw [z]
          exact ⟨y1, y2⟩
    · rintro σ H1 ⟨u, l, rfl, pl, Mi, bi, hm, hl, hsub, hex⟩
      obtain ⟨ps, g1, g2⟩ := id pl
      refine ⟨_, rfl, fl, _, rfl, SqL.of g1, fun t o ht oc od => ?_⟩
      have hsub2 : (l.map (·.1)).Sublist (menuL.map fun k : Nat => (k : Int)) := hsub.trans (List.Sublist.map _ (List.take_sublist _ _))
      have m30 : (10 : Int) ^ 30 - 10 ^ 4 ≤ 10 ^ 30 := by decide
      refine q l t _ (pl.pairs ht oc od _ g1) ⟨by omega, fun z hz => ?_, ?_⟩ hl (fun z hz => (hex z hz).2) ?_ (Mi.ext (Ext.new ht _)) (bi.trans ((Ext.new ht _).but d))
      · obtain ⟨p, hp, e⟩ := List.mem_map.mp (hsub2.subset (List.mem_map.mpr ⟨z, hz, rfl⟩))
        obtain ⟨p1, p2, p3⟩ := menu_ok p hp
        have := hex z hz
        exact ⟨p, e.symm, p1, p2, p3, by omega, by omega⟩
      · refine List.pairwise_map.mp (List.Pairwise.sublist hsub2 ?_)
        rw [List.pairwise_map]
        exact menu_asc.imp fun {a b} h => Int.ofNat_lt.mpr h
      · cases z : H t with
        | none => rfl
        | some u =>
          rw [bi _ _ z (mill_new Mi ht)] at ht
          cases ht
end
end K81

set_option Elab.async false
set_option linter.all false
set_option maxRecDepth 100000
set_option maxHeartbeats 4000000
namespace K81
open PySem PySem.Spec PyProof.Rows L2 Bk Evl
section
variable {P : Program} {w : World} {K : PySem.W.Frag} {mg : Str → Option Value} {base : Heap}
/-! ### _law_shared -/
def spLShared (K : PySem.W.Frag) : Sp := fun vs H Q _ => ∃ (t : Addr) (l : Prs) (a : Nat), vs = [.ref t, .int a] ∧ PairsAt K H t l ∧ PrP l ∧ (∀ q ∈ l, 0 ≤ q.2) ∧ (1 ≤ a ∧ a ≤ 12) ∧ Q (.int (shF l a).2) H
theorem dvd_iff {v f p a : Nat} (h : v * f = a) (f1 : 1 ≤ f) (p1 : 1 ≤ p) : a % (f * p) = 0 ↔ v % p = 0 := by
  rw [← h, Nat.mul_comm v f, Nat.mul_mod_mul_left]
  constructor
  · intro z
    rcases Nat.mul_eq_zero.mp z with w | w
    · omega
    · exact w
  · intro z
    rw [z]
    rfl
theorem sc_ulaw_shared : FnScope ["_law_factors_here", "_law_amount", "_law_found", "_law_k", "_law_many", "_law_turn"] ["_law_factors_here", "_law_amount"] (defScope s_ulaw_shared) := ⟨rfl, rfl, rfl, by decide +kernel, rfl, by decide +kernel, by decide +kernel⟩
theorem ok_ulaw_shared (T : Txt K mg) : Ok P w K mg base 1 (He.ga K "_law_shared") ["_law_factors_here", "_law_amount"] (spLShared K) := by
  refine fd_ok T.f_ulaw_shared sc_ulaw_shared (fun vs H Q E h => ?_) (fun _ _ _ _ _ _ us hl => match us, hl with | [_, _], _ => rfl) (fun cdv A outer s H vs Q E hr h => ?_)
  · obtain ⟨t, l, a, rfl, _⟩ := h
    rfl
  · obtain ⟨t, l, a, rfl, hp, ok, nn, ⟨a1, a2⟩, q⟩ := h
    have nd := sc_ulaw_shared.nd
    refine ⟨_, (pss_cons (ps_set (i := 2) nd rfl (Or.inl rfl) pe_int) (pss_cons (ps_for PassesOwn.never rfl (pi_tup (pv 0)) (pg_tup rfl (pgs_cons (pg_name (i := 3) nd rfl (Or.inl rfl)) (pgs_cons (pg_name (i := 4) nd rfl (Or.inl rfl)) pgs_nil))) (pss_one (ps_for PassesOwn.never rfl (pi_range1 rfl T.z_range (pa_cons (pe_callB (call_min2 rfl) rfl T.z_min (by decide +kernel) (pa_cons (pv 4) (pa_cons pe_int pa_nil))) pa_nil)) (pg_name (i := 5) nd rfl (Or.inl rfl)) (pss_one (ps_if (pt_cmpR op_eq (pe_op op_mod (pe_callTy call_int1 rfl T.z_int (by decide +kernel) (pa_cons (pv 1) pa_nil)) (pe_op op_mul (pv 2) (pv 3))) pe_int (nomark _)) (pss_one (ps_set (i := 2) nd rfl (Or.inl rfl) (pe_op op_mul (pv 2) (pv 3)))) pss_nil))))) (pss_one (ps_ret (pv 2))))), ?_⟩
    obtain ⟨ps, h1, h2⟩ := hp.sq
    refine ⟨_, rfl, t, rfl, ⟨_, h1⟩, ?_⟩
    refine for_tup (xs := ps.map V.ref) (fun i σ H' => ∃ (u v x : Option V), σ = [some (.ref t), some (.int a), some (.int (shF (l.take i) a).2), u, v, x] ∧ H' = H) ⟨_, _, _, rfl, rfl⟩ ?_ ?_ ?_
    · rintro i σ H' _ ⟨u, v, x, rfl, rfl⟩
      exact h1
    · rintro i x σ H1 hx ⟨u, v, y, rfl, rfl⟩
      rw [List.getElem?_map] at hx
      obtain ⟨p, hpi, rfl⟩ := Option.map_eq_some_iff.mp hx
      obtain ⟨⟨q1, q2⟩, hq, hsq⟩ := paired_at h2 i p hpi
      dsimp only at hsq
      obtain ⟨pn, e, n1, n2⟩ := ok _ (List.mem_of_getElem? hq)
      have q0 := nn _ (List.mem_of_getElem? hq)
      dsimp only at e q0
      subst e
      have hm := shF_mul (l.take i) a
      rw [shF_snoc l a i _ hq]
      generalize shF (l.take i) a = cs at hm ⊢
      obtain ⟨v, f⟩ := cs
      dsimp only at hm ⊢
      obtain ⟨v1, v2, f1, f2⟩ := mul_le2 hm a1
      have pe : (pn : Int).toNat = pn := rfl
      refine ⟨p, _, rfl, hsq, rfl, _, _, rfl, _, _, rfl, rfl, ?_⟩
      refine ⟨_, rfl, q2, 8, rfl, ?_⟩
      generalize hjj : (if (8 : Int) < q2 then (8 : Int) else q2) = j
      have hj : j = min q2 8 ∧ 0 ≤ j ∧ j ≤ 8 := by
        rw [← hjj]
        split <;> omega
      refine ⟨j, rfl, by omega, by omega, ?_⟩
      refine for_range (lo := 0) (n := j.toNat) (fun i σ' H' => ∃ (v' f' fu : Nat) (e' : Int) (u : Option V), σ' = [some (.ref t), some (.int a), some (.int f'), some (.int pn), some (.int q2), u] ∧ H' = H1 ∧ (takeUp fu v' pn e').1 = (takeUp 20 v pn q2).1 ∧ f' * pn ^ (takeUp fu v' pn e').2 = f * pn ^ (takeUp 20 v pn q2).2 ∧ v' * f' = a ∧ v' < 2 ^ fu ∧ (¬ v' % pn = 0 ∨ (e' = q2 - i ∧ v' * 2 ^ i ≤ 12)))
        ⟨v, f, 20, q2, _, rfl, rfl, rfl, rfl, hm, lt20 (by omega), .inr ⟨by omega, by rw [Nat.pow_zero]; omega⟩⟩ ?_ ?_
      · rintro i σ' H' hi ⟨v', f', fu, e', u, rfl, rfl, t1, t2, w1, w2, w3⟩
        obtain ⟨v1', v2', f1', f2'⟩ := mul_le2 w1 a1
        refine ⟨_, rfl, .inl ⟨_, rfl, _, rfl, _, rfl, _, _, rfl, rfl, .inl ⟨by omega, by omega⟩, _, _, rfl, rfl, ?_, rfl, _, rfl, ?_⟩⟩
        · have : 0 < (f' : Int) * (pn : Int) := Int.mul_pos (by omega) (by omega)
          exact this
        show if decide (V.int ((a : Int) % ((f' : Int) * (pn : Int))) = V.int 0) = true then _ else _
        rw [← Int.natCast_mul, dec_mod]
        have hd := dvd_iff w1 f1' (p := pn) (by omega)
        refine ite2 (fun h0 => ?_) (fun h0 => ?_)
        · have h0' : v' % pn = 0 := hd.mp (of_decide_eq_true h0)
          obtain ⟨he, hb⟩ := w3.resolve_left (fun z => z h0')
          have hep : 0 < e' := by omega
          obtain ⟨g, rfl⟩ : ∃ g, fu = g + 1 := by
            cases fu with
            | zero => rw [Nat.pow_zero] at w2; omega
            | succ g => exact ⟨g, rfl⟩
          rw [takeUp_step _ _ _ _ ⟨hep, h0'⟩] at t1 t2
          dsimp only at t1 t2
          have hdd := Nat.div_add_mod v' pn
          rw [h0', Nat.add_zero] at hdd
          have two : 2 * (v' / pn) ≤ v' := by
            have : 2 * (v' / pn) ≤ pn * (v' / pn) := Nat.mul_le_mul_right _ n1
            omega
          refine ⟨_, rfl, _, rfl, _, _, rfl, rfl, .inl ⟨by omega, by omega⟩, v' / pn, f' * pn, g, e' - 1, some (.int (0 + (i : Int))), ?_, rfl, t1, ?_, ?_, ?_, .inr ⟨by omega, ?_⟩⟩
          · show [some (V.ref t), some (V.int a), some (V.int ((f' : Int) * (pn : Int))), some (V.int pn), some (V.int q2), some (V.int (0 + (i : Int)))] = _
            rw [Int.natCast_mul]
          · rw [← t2, Nat.pow_succ, Nat.mul_assoc, Nat.mul_comm (pn ^ _) pn]
          · rw [← w1]
            calc v' / pn * (f' * pn) = (pn * (v' / pn)) * f' := by rw [Nat.mul_comm f' pn, ← Nat.mul_assoc, Nat.mul_comm (v' / pn) pn]
              _ = v' * f' := by rw [hdd]
          · rw [Nat.pow_succ] at w2
            omega
          · rw [Nat.pow_succ]
            have := Nat.mul_le_mul_right (2 ^ i) two
            calc v' / pn * (2 ^ i * 2) = 2 * (v' / pn) * 2 ^ i := by rw [Nat.mul_comm (2 ^ i) 2, ← Nat.mul_assoc, Nat.mul_comm (v' / pn) 2]
              _ ≤ v' * 2 ^ i := this
              _ ≤ 12 := hb
        · have h0' : ¬ v' % pn = 0 := fun z => h0 (decide_eq_true (hd.mpr z))
          exact ⟨v', f', fu, e', _, rfl, rfl, t1, t2, w1, w2, .inl h0'⟩
      · rintro σ' H' ⟨v', f', fu, e', u, rfl, rfl, t1, t2, w1, w2, w3⟩
        obtain ⟨v1', v2', f1', f2'⟩ := mul_le2 w1 a1
        have hno : ¬ (0 < e' ∧ v' % pn = 0) := fun z => by
          obtain ⟨he, hb⟩ := w3.resolve_left (fun w => w z.2)
          by_cases h8 : q2 ≤ 8
          · omega
          · have : j.toNat = 8 := by omega
            rw [this] at hb
            omega
        rw [takeUp_stop _ _ _ _ hno] at t1 t2
        dsimp only at t1 t2
        rw [Nat.pow_zero, Nat.mul_one] at t2
        have : (shStep (v, f) ((pn : Int), q2)).2 = f' := by
          unfold shStep
          dsimp only
          rw [pe, t2]
        rw [this]
        exact ⟨_, _, u, rfl, rfl⟩
    · rintro σ H1 ⟨u, v, x, rfl, rfl⟩
      have hlen : (ps.map V.ref).length = l.length := by rw [List.length_map, h2.length]
      rw [hlen, List.take_length]
      exact ⟨_, rfl, q⟩
/-! ### _law_core -/
def spLCore (K : PySem.W.Frag) : Sp := fun vs H Q _ => ∃ (s t : Addr) (a b c : Int) (an : Nat) (l : Prs), vs = [.ref s, .ref t] ∧ SqT K H s [.int a, .int b, .int c] ∧ a = an ∧ PairsAt K H t l ∧ FacOk l ∧ (1 ≤ an ∧ an ≤ 12) ∧
  ∀ p t' H', H' p = some (.tup [.int (modF l an), .ref t']) → PairsAt K H' t' (clF l an) → H p = none → Ext H H' → Q (.ref p) H'
theorem takeOut_8 {v p : Nat} (v1 : 1 ≤ v) (v2 : v ≤ 12) (hp : 2 ≤ p) : takeOut 8 v p = takeOut 20 v p := by
  have h : v < 2 ^ 4 := Nat.lt_of_le_of_lt v2 (by decide)
  rw [takeOut_more 4 8 v p v1 hp h (by decide), takeOut_more 4 20 v p v1 hp h (by decide)]
theorem sc_ulaw_core : FnScope ["_law_spec_here", "_law_factors_here", "_law_shared_here", "_law_found", "_law_k", "_law_many", "_law_left", "_law_turn"] ["_law_spec_here", "_law_factors_here"] (defScope s_ulaw_core) := ⟨rfl, rfl, rfl, by decide +kernel, rfl, by decide +kernel, by decide +kernel⟩
theorem ok_ulaw_core (T : Txt K mg) : Ok P w K mg base 2 (He.ga K "_law_core") ["_law_spec_here", "_law_factors_here"] (spLCore K) := by
  obtain ⟨fd_ulaw_shared, F_ulaw_shared, b_ulaw_shared, k_ulaw_shared, _⟩ := (ok_ulaw_shared (P := P) (w := w) (base := base) T).ex
  refine fd_ok T.f_ulaw_core sc_ulaw_core (fun vs H Q E h => ?_) (fun _ _ _ _ _ _ us hl => match us, hl with | [_, _], _ => rfl) (fun cdv A outer s H vs Q E hr h => ?_)
  · obtain ⟨s, t, a, b, c, an, l, rfl, _⟩ := h
    rfl
  · obtain ⟨s, t, a, b, c, an, l, rfl, hs, ea, hp, fo, ⟨a1, a2⟩, q⟩ := h
    have nd := sc_ulaw_core.nd
    refine ⟨_, (pss_cons (ps_par (i := 2) (j := 3) rfl nd rfl rfl (by decide) rfl rfl (pa_cons (pe_call F_ulaw_shared (hr.mono (by decide)) rfl T.g_ulaw_shared k_ulaw_shared b_ulaw_shared .nil pass0 (pa_cons (pv 1) (pa_cons (pe_ix ix_tup (pv 0) pe_int (by intro _ _; rfl)) pa_nil))) (pa_cons (pe_lst pa_nil) pa_nil)) (by rfl)) (pss_cons (ps_for PassesOwn.never rfl (pi_tup (pv 1)) (pg_tup rfl (pgs_cons (pg_name (i := 4) nd rfl (Or.inl rfl)) (pgs_cons (pg_name (i := 5) nd rfl (Or.inl rfl)) pgs_nil))) (pss_cons (ps_set (i := 6) nd rfl (Or.inl rfl) (pv 5)) (pss_cons (ps_for PassesOwn.never rfl (pi_range1 rfl T.z_range (pa_cons pe_int pa_nil)) (pg_name (i := 7) nd rfl (Or.inl rfl)) (pss_one (ps_if (pt_cmpR op_eq (pe_op op_mod (pe_callTy call_int1 rfl T.z_int (by decide +kernel) (pa_cons (pv 2) pa_nil)) (pv 4)) pe_int (nomark _)) (pss_one (ps_par (i := 2) (j := 6) rfl nd rfl rfl (by decide) rfl rfl (pa_cons (pe_op op_fdiv (pv 2) (pv 4)) (pa_cons (pe_op op_sub (pv 6) pe_int) pa_nil)) (by rfl))) pss_nil))) (pss_one (ps_if (pt_cmpR op_gt (pv 6) pe_int (nomark _)) (pss_one (ps_expr (pe_bm PySem.F.plainAttrs_list PySem.F.slot_list_append PySem.F.type_list_append mt_append (pv 3) (pa_cons (pe_tup (pa_cons (pv 4) (pa_cons (pv 6) pa_nil))) pa_nil)))) pss_nil))))) (pss_one (ps_ret (pe_tup (pa_cons (pe_op op_fdiv (pe_ix ix_tup (pv 0) pe_int (by intro _ _; rfl)) (pe_call F_ulaw_shared (hr.mono (by decide)) rfl T.g_ulaw_shared k_ulaw_shared b_ulaw_shared .nil pass0 (pa_cons (pv 1) (pa_cons (pe_ix ix_tup (pv 0) pe_int (by intro _ _; rfl)) pa_nil)))) (pa_cons (pe_tupleP rfl T.z_tuple (pv 3)) pa_nil))))))), ?_⟩
    subst ea
    obtain ⟨ps, h1, h2⟩ := hp.sq
    have prp := prp_of fo.one
    have hsm := shF_mul l an
    obtain ⟨_, _, sh1, sh2⟩ := mul_le2 hsm a1
    have hsd : modF l an = an / (shF l an).2 := rfl
    have hcl : clF l an = (coreF l (shF l an).2).1 := rfl
    have hlen := fo.len
    refine ⟨_, rfl, _, rfl, s, _, 0, _, rfl, rfl, hs, rfl, t, l, an, rfl, hp, prp, fo.nn, ⟨a1, a2⟩, by show 0 ≤ sizeLine; decide, fun fl hfl => ⟨_, _, rfl, ?_⟩⟩
    generalize hshg : (shF l an).2 = sh at sh1 sh2 hsd hcl
    refine ⟨_, rfl, t, rfl, ⟨_, sqt_ext h1 (Ext.new hfl _)⟩, ?_⟩
    refine for_tup (xs := ps.map V.ref) (fun i σ H' => ∃ (u1 u2 u3 u4 : Option V), σ = [some (.ref s), some (.ref t), some (.int (coreF (l.take i) sh).2), some (.ref fl), u1, u2, u3, u4] ∧ PList H' fl (coreF (l.take i) sh).1 ∧ Ext H H' ∧ (coreF (l.take i) sh).1.length ≤ i ∧ (1 ≤ (coreF (l.take i) sh).2 ∧ (coreF (l.take i) sh).2 ≤ 12))
      ⟨_, _, _, _, rfl, ⟨[], upd_same, .nil⟩, Ext.new hfl _, Nat.le_refl 0, sh1, by show sh ≤ 12; omega⟩ ?_ ?_ ?_
    · rintro i σ H' _ ⟨u1, u2, u3, u4, rfl, _, e, _⟩
      exact sqt_ext h1 e
    · rintro i x σ H1 hx ⟨u1, u2, u3, u4, rfl, pl, e1, hl2, v1, v2⟩
      rw [List.getElem?_map] at hx
      obtain ⟨p, hpi, rfl⟩ := Option.map_eq_some_iff.mp hx
      obtain ⟨⟨q1, q2⟩, hq, hsq⟩ := paired_at h2 i p hpi
      dsimp only at hsq
      have il : i < l.length := (List.getElem?_eq_some_iff.mp hq).1
      obtain ⟨pn, e, n1, n2⟩ := prp _ (List.mem_of_getElem? hq)
      dsimp only at e
      subst e
      rw [coreF_snoc l sh i _ hq]
      have ll := coreStep_len (coreF (l.take i) sh) ((pn : Int), q2)
      generalize coreF (l.take i) sh = cs at pl hl2 v1 v2 ll ⊢
      obtain ⟨ca, v⟩ := cs
      dsimp only at pl hl2 v1 v2 ll ⊢
      have pe : (pn : Int).toNat = pn := rfl
      refine ⟨p, _, rfl, sqt_ext hsq e1, rfl, _, _, rfl, _, _, rfl, rfl, _, rfl, ?_⟩
      refine ⟨8, rfl, by decide, by decide, ?_⟩
      refine for_range (lo := 0) (n := 8) (fun j σ2 H2 => ∃ (v' : Nat) (e' : Int) (u : Option V), σ2 = [some (.ref s), some (.ref t), some (.int v'), some (.ref fl), some (.int pn), some (.int q2), some (.int e'), u] ∧ H2 = H1 ∧ (takeOut (8 - j) v' pn).1 = (takeOut 8 v pn).1 ∧ q2 - e' + (takeOut (8 - j) v' pn).2 = (takeOut 8 v pn).2)
        ⟨v, q2, _, rfl, rfl, rfl, by show q2 - q2 + ((takeOut 8 v pn).2 : Int) = _; omega⟩ ?_ ?_
      · rintro j σ2 H2 hj ⟨v', e', u, rfl, rfl, t1, t2⟩
        obtain ⟨g, hg⟩ : ∃ g, 8 - j = g + 1 := ⟨7 - j, by omega⟩
        have hg2 : 8 - (j + 1) = g := by omega
        refine ⟨_, rfl, .inl ⟨_, rfl, _, rfl, _, _, rfl, rfl, by omega, rfl, _, rfl, ?_⟩⟩
        rw [dec_mod]
        refine ite2 (fun h0 => ?_) (fun h0 => ?_)
        · have h0' : v' % pn = 0 := of_decide_eq_true h0
          rw [hg, takeOut_step _ _ _ h0'] at t1 t2
          dsimp only at t1 t2
          refine ⟨_, rfl, _, rfl, _, _, rfl, rfl, ⟨by omega, by omega⟩, _, rfl, _, _, rfl, rfl, _, _, rfl, v' / pn, e' - 1, some (.int (0 + (j : Int))), ?_, rfl, by rw [hg2]; exact t1, by rw [hg2]; omega⟩
          show [some (V.ref s), some (V.ref t), some (V.int ((v' : Int) / (pn : Int))), some (V.ref fl), some (V.int pn), some (V.int q2), some (V.int (e' - 1)), some (V.int (0 + (j : Int)))] = _
          rw [show ((v' : Int) / (pn : Int)) = ((v' / pn : Nat) : Int) from (Int.natCast_ediv v' pn).symm]
        · have h0' : ¬ v' % pn = 0 := fun z => h0 (decide_eq_true z)
          rw [hg, takeOut_stop _ _ _ h0'] at t1 t2
          exact ⟨v', e', _, rfl, rfl, by rw [hg2, takeOut_stop _ _ _ h0']; exact t1, by rw [hg2, takeOut_stop _ _ _ h0']; exact t2⟩
      · rintro σ2 H2 ⟨v', e', u, rfl, rfl, t1, t2⟩
        have t1 : v' = (takeOut 20 v pn).1 := takeOut_8 v1 v2 n1 ▸ t1
        have t2 : q2 - e' + 0 = ((takeOut 20 v pn).2 : Int) := takeOut_8 v1 v2 n1 ▸ t2
        have vpos := takeOut_pos 20 v pn v1 n1
        have vle := takeOut_le 20 v pn
        have ee : e' = q2 - ((takeOut 20 v pn).2 : Int) := by omega
        unfold coreStep at ll ⊢
        rw [pe] at ll ⊢
        dsimp only at ll ⊢
        rw [← ee] at ll ⊢
        rw [← t1] at vpos vle ⊢
        refine ⟨_, rfl, _, _, rfl, rfl, _, rfl, ?_⟩
        refine ite2 (fun hj => ?_) (fun hj => ?_)
        · have hj' : 0 < e' := of_decide_eq_true hj
          rw [if_pos hj'] at ll ⊢
          obtain ⟨ps', g1, g2⟩ := id pl
          refine ⟨_, rfl, .inl ⟨rfl, _, SqL.of g1⟩, _, rfl, _, rfl, by show 2 ≤ sizeLine; decide, fun tp htp => ?_⟩
          obtain ⟨g3, g4⟩ := pl.snoc (a := pn) (b := e') htp _ g1
          have nft : fl ≠ tp := ne_of_none g1 htp
          refine ⟨fl, _, _, rfl, rfl, by rw [upd_ne nft]; exact g1, by rw [g3]; exact small_lt (by omega), ?_⟩
          refine ⟨_, _, _, _, rfl, g4, fun x o e => ?_, by omega, vpos, by omega⟩
          rw [upd_ne (ne_of_none e hfl), upd_ne (ne_of_none (e1 x o e) htp)]
          exact e1 x o e
        · have hj' : ¬ 0 < e' := fun z => hj (decide_eq_true z)
          rw [if_neg hj'] at ll ⊢
          exact ⟨_, _, _, _, rfl, pl, e1, by omega, vpos, by omega⟩
    · rintro σ H1 ⟨u1, u2, u3, u4, rfl, pl, e1, _, _⟩
      have hlen : (ps.map V.ref).length = l.length := by rw [List.length_map, h2.length]
      rw [hlen, List.take_length] at pl ⊢
      rw [← hcl] at pl
      obtain ⟨ps', g1, g2⟩ := id pl
      refine ⟨_, rfl, s, _, 0, _, rfl, rfl, sqt_ext hs e1, rfl, _, rfl, _, rfl, s, _, 0, _, rfl, rfl, sqt_ext hs e1, rfl, t, l, an, rfl, hp.ext e1, prp, fo.nn, ⟨a1, a2⟩, ?_⟩
      rw [hshg]
      refine ⟨_, _, rfl, rfl, ⟨by omega, by omega⟩, _, rfl, fl, _, rfl, SqL.of g1, fun t' o ht oc od => ⟨by show 2 ≤ sizeLine; decide, fun p hp => ?_⟩⟩
      have e2 := e1.trans (Ext.new ht (.frz o (.tup (ps'.map V.ref))))
      refine q p t' _ ?_ ((pl.pairs ht oc od _ g1).ext (Ext.new hp _)) ?_ (e2.trans (Ext.new hp _))
      · rw [upd_same, hsd, ← show ((an : Int) / (sh : Int)) = ((an / sh : Nat) : Int) from (Int.natCast_ediv an sh).symm]
      · cases z : H p with
        | none => rfl
        | some u => rw [e2 _ _ z] at hp; cases hp
end
end K81

set_option Elab.async false
set_option linter.all false
set_option maxRecDepth 100000
set_option maxHeartbeats 4000000
namespace K81
open PySem PySem.Spec PyProof.Rows L2 Bk Evl
theorem pord_all : ∀ m : Fin 13, ∀ b : Fin 12, ∀ k : Fin 13, 2 ≤ m.val → b.val < m.val → Nat.gcd b.val m.val = 1 → 1 ≤ k.val → b.val ^ k.val % m.val = 1 → (∀ j : Fin 13, 1 ≤ j.val → j.val < k.val → ¬ b.val ^ j.val % m.val = 1) → 60 % k.val = 0 := by decide +kernel
theorem pord_ex : ∀ m : Fin 13, ∀ b : Fin 12, 2 ≤ m.val → b.val < m.val → Nat.gcd b.val m.val = 1 → ∃ k : Fin 13, 1 ≤ k.val ∧ k.val ≤ m.val ∧ b.val ^ k.val % m.val = 1 := by decide +kernel
/-- the first of each -/
def dedL (M : List Nat) (n : Nat) : List Nat := ((List.range n).filter fun j => decide (M.getD j 0 ∉ M.take j)).map fun j => M.getD j 0
theorem dedL_ok (M : List Nat) : ∀ n, n ≤ M.length → (dedL M n).Nodup ∧ ∀ x, x ∈ dedL M n ↔ x ∈ M.take n
  | 0, _ => ⟨.nil, fun x => by simp [dedL]⟩
  | n + 1, h => by
    obtain ⟨nd, mem⟩ := dedL_ok M n (by omega)
    have hn : M[n]? = some (M.getD n 0) := by
      rw [List.getD_eq_getElem?_getD, List.getElem?_eq_getElem (by omega)]
      rfl
    have tk : M.take (n + 1) = M.take n ++ [M.getD n 0] := by rw [List.take_add_one, hn] <;> rfl
    by_cases hf : M.getD n 0 ∈ M.take n
    · have e : dedL M (n + 1) = dedL M n := by
        unfold dedL
        rw [List.range_succ, List.filter_append, List.filter_cons_of_neg (by simpa using hf), List.filter_nil, List.append_nil]
      rw [e]
      refine ⟨nd, fun x => ?_⟩
      rw [mem, tk, List.mem_append]
      exact ⟨.inl, fun z => z.elim id fun z => by simp at z; rw [z]; simpa using hf⟩
    · have e : dedL M (n + 1) = dedL M n ++ [M.getD n 0] := by
        unfold dedL
        rw [List.range_succ, List.filter_append, List.filter_cons_of_pos (by simpa using hf), List.filter_nil, List.map_append]
        rfl
      rw [e]
      refine ⟨?_, fun x => ?_⟩
      · rw [List.nodup_append]
        exact ⟨nd, by simp, fun a ha b hb z => hf ((mem _).mp (by rw [← List.mem_singleton.mp hb, ← z]; exact ha))⟩
      · rw [tk, List.mem_append, List.mem_append, mem]
theorem range_getD (R : List Nat) (f : Nat → Nat) : (List.range R.length).map (fun i => f (R.getD i 0)) = R.map f := by
  refine List.ext_getElem (by simp) fun i h1 h2 => ?_
  have h3 : i < R.length := by simpa using h1
  rw [List.getElem_map, List.getElem_map, List.getElem_range, List.getD_eq_getElem?_getD, List.getElem?_eq_getElem h3]
  rfl
section
variable {P : Program} {w : World} {K : PySem.W.Frag} {mg : Str → Option Value} {base : Heap}
/-! ### _law_power -/
def spPower : Sp := fun vs H Q _ => ∃ (b m : Nat) (e : Int), vs = [.int b, .int e, .int m] ∧ (1 ≤ m ∧ m ≤ 12) ∧ Nat.gcd b m = 1 ∧ ∀ H', Ext H H' → Q (.int (pw b e m : Nat)) H'
theorem sc_ulaw_power : FnScope ["_law_base", "_law_expo", "_law_modulus_here", "_law_turns", "_law_found", "_law_rest", "_law_turn"] ["_law_base", "_law_expo", "_law_modulus_here"] (defScope s_ulaw_power) := ⟨rfl, rfl, rfl, by decide +kernel, rfl, by decide +kernel, by decide +kernel⟩
theorem ok_ulaw_power (T : Txt K mg) : Ok P w K mg base 1 (He.ga K "_law_power") ["_law_base", "_law_expo", "_law_modulus_here"] spPower := by
  refine fd_ok T.f_ulaw_power sc_ulaw_power (fun vs H Q E h => ?_) (fun _ _ _ _ _ _ us hl => match us, hl with | [_, _, _], _ => rfl) (fun cdv A outer s H vs Q E hr h => ?_)
  · obtain ⟨b, m, e, rfl, _⟩ := h
    rfl
  · obtain ⟨b, m, e, rfl, ⟨m1, m2⟩, hg, q⟩ := h
    have nd := sc_ulaw_power.nd
    refine ⟨_, (pss_cons (ps_if (pt_cmpR op_eq (pv 2) pe_int (nomark _)) (pss_one (ps_ret pe_int)) pss_nil) (pss_cons (ps_par3 (i := 3) (j := 4) (l := 5) rfl nd rfl rfl rfl (by decide) (by decide) (by decide) rfl rfl rfl (pa_cons (pe_lst pa_nil) (pa_cons pe_int (pa_cons (pe_op op_mod (pe_callTy call_int1 rfl T.z_int (by decide +kernel) (pa_cons (pv 0) pa_nil)) (pv 2)) pa_nil))) (by rfl)) (Evl.pss_cut (ps_for PassesOwn.never rfl (pi_range1 rfl T.z_range (pa_cons (pv 2) pa_nil)) (pg_name (i := 6) nd rfl (Or.inl rfl)) (pss_cons (ps_expr (pe_bm PySem.F.plainAttrs_list PySem.F.slot_list_append PySem.F.type_list_append mt_append (pv 3) (pa_cons (pv 4) pa_nil))) (pss_cons (ps_set (i := 4) nd rfl (Or.inl rfl) (pe_op op_mod (pe_callTy call_int1 rfl T.z_int (by decide +kernel) (pa_cons (pe_op op_mul (pv 4) (pv 5)) pa_nil)) (pv 2))) (pss_one (ps_if (pt_cmpR op_eq (pv 4) pe_int (nomark _)) (pss_one ps_break) pss_nil))))) (pss_one (ps_ret (pe_ix ix_list (pv 3) (pe_op op_mod (pe_callTy call_int1 rfl T.z_int (by decide +kernel) (pa_cons (pv 1) pa_nil)) (pe_callB call_len_seq rfl T.z_len (by decide +kernel) (pa_cons (pv 3) pa_nil))) (by intro _ _; rfl))))))), ?_⟩
    refine ⟨_, rfl, rfl, _, rfl, ?_⟩
    refine ite2 (fun h1 => ?_) (fun h1 => ?_)
    · have h1' : m = 1 := by have := of_decide_eq_true h1; injection this with this; omega
      subst h1'
      have z : pw b e 1 = 0 := Nat.mod_one _
      have := q H (Ext.refl H)
      rw [z] at this
      exact this
    · have h1' : 2 ≤ m := by
        rcases Nat.lt_or_ge m 2 with z | z
        · exact (h1 (decide_eq_true (by rw [show m = 1 by omega]; rfl))).elim
        · exact z
      have em : ((b : Int) % (m : Int)) = ((b % m : Nat) : Int) := (Int.natCast_emod b m).symm
      have hrm : b % m < m := Nat.mod_lt _ (by omega)
      have hrg : Nat.gcd (b % m) m = 1 := by rw [← Nat.gcd_rec m b, Nat.gcd_comm]; exact hg
      refine ⟨by show 0 ≤ sizeLine; decide, fun tl htl => ⟨_, rfl, .inl ⟨_, rfl, _, rfl, _, _, rfl, rfl, by omega, _, _, _, rfl, ?_⟩⟩⟩
      have q' : ∀ H', Ext H H' → Q (.int (pw (b % m) e m : Nat)) H' := fun H' e' => by rw [pw_base]; exact q H' e'
      generalize b % m = r at em hrm hrg q'
      refine ⟨fun σ' H' => ∃ (k : Nat) (u v : Option V), σ' = [some (.int b), some (.int e), some (.int m), some (.ref tl), u, some (.int ((b : Int) % (m : Int))), v] ∧ H' tl = some (.lst (nv (powL r m k))) ∧ Ext H H' ∧ (1 ≤ k ∧ k ≤ 12) ∧ r ^ k % m = 1 ∧ k ∣ 60, ?_, ?_⟩
      · refine ⟨_, rfl, m, rfl, by omega, by omega, ?_⟩
        refine for_range (lo := 0) (n := m) (fun i σ' H' => ∃ (v : Option V), σ' = [some (.int b), some (.int e), some (.int m), some (.ref tl), some (.int ((r ^ i % m : Nat) : Int)), some (.int ((b : Int) % (m : Int))), v] ∧ H' tl = some (.lst (nv (powL r m i))) ∧ Ext H H' ∧ ∀ j, 1 ≤ j → j ≤ i → ¬ r ^ j % m = 1)
          ⟨_, by rw [Nat.pow_zero, Nat.mod_eq_of_lt (by omega)]; rfl, upd_same, Ext.new htl _, fun j h1 h2 => by omega⟩ ?_ ?_
        · rintro i σ' H1 hi ⟨v, rfl, hl, e1, hno⟩
          have hlt : r ^ i % m < m := Nat.mod_lt _ (by omega)
          refine ⟨_, rfl, .inl ⟨rfl, _, SqL.of hl⟩, _, rfl, tl, _, _, rfl, rfl, hl, by rw [List.length_map, powL_len]; exact small_lt (by omega), ?_⟩
          have ev : ((r ^ i % m : Nat) : Int) * ((b : Int) % (m : Int)) % (m : Int) = ((r ^ (i + 1) % m : Nat) : Int) := by
            rw [em, ← Int.natCast_mul, ← Int.natCast_emod, Nat.pow_succ, Nat.mod_mul_mod]
          have hr12 : (b : Int) % (m : Int) < 13 := by rw [em]; omega
          have hr0 : 0 ≤ (b : Int) % (m : Int) := by rw [em]; omega
          refine ⟨_, rfl, _, rfl, _, _, rfl, rfl, .inl ⟨by omega, by omega⟩, .inl ⟨_, rfl, _, rfl, _, _, rfl, rfl, by omega, ?_⟩⟩
          have hl2 : upd H1 tl (.lst (nv (powL r m i) ++ [V.int ((r ^ i % m : Nat) : Int)])) tl = some (.lst (nv (powL r m (i + 1)))) := by
            rw [upd_same, powL_succ]
            show _ = some (HO.lst (List.map _ (powL r m i ++ [r ^ i % m])))
            rw [List.map_append]
            rfl
          have e2 : Ext H (upd H1 tl (.lst (nv (powL r m i) ++ [V.int ((r ^ i % m : Nat) : Int)]))) := e1.mut htl _
          refine ⟨_, rfl, rfl, _, rfl, ?_⟩
          show if decide (V.int (((r ^ i % m : Nat) : Int) * ((b : Int) % (m : Int)) % (m : Int)) = V.int 1) = true then _ else _
          rw [ev]
          refine ite2 (fun hb => ?_) (fun hb => ?_)
          · have hb' : r ^ (i + 1) % m = 1 := by have := of_decide_eq_true hb; injection this with this; omega
            refine ⟨i + 1, _, _, rfl, hl2, e2, ⟨by omega, by omega⟩, hb', ?_⟩
            exact Nat.dvd_of_mod_eq_zero (pord_all ⟨m, by omega⟩ ⟨r, by omega⟩ ⟨i + 1, by omega⟩ h1' hrm hrg (by show 1 ≤ i + 1; omega) hb' fun j j1 j2 => hno j.val j1 (by have : j.val < i + 1 := j2; omega))
          · refine ⟨some (.int (0 + (i : Int))), ?_, hl2, e2, fun j j1 j2 => ?_⟩
            · show [some (V.int b), some (V.int e), some (V.int m), some (V.ref tl), some (V.int (((r ^ i % m : Nat) : Int) * ((b : Int) % (m : Int)) % (m : Int))), some (V.int ((b : Int) % (m : Int))), some (V.int (0 + (i : Int)))] = _
              rw [ev]
            · rcases Nat.lt_or_ge j (i + 1) with z | z
              · exact hno j j1 (by omega)
              · rw [show j = i + 1 by omega]
                exact fun z => hb (decide_eq_true (by rw [z]; rfl))
        · rintro σ' H1 ⟨v, rfl, hl, e1, hno⟩
          obtain ⟨k, k1, k2, k3⟩ := pord_ex ⟨m, by omega⟩ ⟨r, by omega⟩ h1' hrm hrg
          exact (hno k.val k1 k2 k3).elim
      · rintro σ' H1 ⟨k, u, v, rfl, hl, e1, ⟨k1, k2⟩, hk, hd⟩
        have hk2 : r ^ k % m = 1 % m := by rw [hk, Nat.mod_eq_of_lt (by omega)]
        obtain ⟨j1, j2⟩ := powL_at (e := e) k1 hd hk2
        have hnn := Int.emod_nonneg e (show (k : Int) ≠ 0 by omega)
        refine ⟨_, rfl, _, rfl, .inl ⟨_, rfl, _, rfl, tl, _, rfl, .inl (SqL.of hl), _, _, rfl, rfl, ?_, tl, _, _, V.int (pw r e m : Nat), rfl, rfl, SqL.of hl, ?_, q' H1 e1⟩⟩
        · rw [List.length_map, powL_len]
          omega
        · rw [List.length_map, powL_len]
          rw [show e % (k : Int) = ((e % (k : Int)).toNat : Int) by omega]
          exact atI_nat (by rw [List.getElem?_map, j2]; rfl)
end
end K81

set_option Elab.async false
set_option linter.all false
set_option maxRecDepth 100000
set_option maxHeartbeats 4000000
namespace K81
open PySem PySem.Spec PyProof.Rows L2 Bk Evl
theorem cutV_nv (M : List Nat) (j : Nat) : cutV (nv M) none (some (j : Int)) = nv (M.take j) := by
  unfold cutV
  rw [HT.sIx_none, HT.sIx_nat, List.drop_zero, Nat.sub_zero, List.length_map, ← List.map_take]
  by_cases h : j ≤ M.length
  · rw [Nat.min_eq_left h]
  · rw [Nat.min_eq_right (by omega), List.take_length, List.take_of_length_le (by omega)]
theorem nv_append (A B : List Nat) : nv A ++ nv B = nv (A ++ B) := by
  show List.map _ A ++ List.map _ B = List.map _ (A ++ B)
  rw [List.map_append]
theorem nv_getD {M : List Nat} {j : Nat} (h : j < M.length) : (nv M)[j]? = some (V.int (M.getD j 0 : Nat)) := by
  rw [List.getElem?_map, List.getD_eq_getElem?_getD, List.getElem?_eq_getElem h]
  rfl
/-- spans as triples of ints -/
abbrev triS (sp : Sps) : Trs := sp.map fun q => ((q.1 : Int), q.2.1, q.2.2)
section
variable {P : Program} {w : World} {K : PySem.W.Frag} {mg : Str → Option Value} {base : Heap}
/-! ### _law_reach -/
def spLReach (K : PySem.W.Frag) : Sp := fun vs H Q _ => ∃ (a : Addr) (m : Nat) (sp : Sps), vs = [.int m, .ref a] ∧ TrisAt H a (triS sp) ∧ (1 ≤ m ∧ m ≤ 12) ∧ (∀ q ∈ sp, Nat.gcd q.1 m = 1 ∧ q.2.1 ≤ 0 ∧ 0 ≤ q.2.2) ∧
  ∀ p R H', H' p = some (.lst (nv R)) → RowOf m (reachP m sp) R → Ext H H' → Q (.ref p) H'
theorem sc_ulaw_reach : FnScope ["_law_modulus_here", "_law_spans", "_law_found", "_law_base", "_law_low", "_law_high", "_law_more", "_law_k", "_law_power_here", "_law_rest", "_law_j"] ["_law_modulus_here", "_law_spans"] (defScope s_ulaw_reach) := ⟨rfl, rfl, rfl, by decide +kernel, rfl, by decide +kernel, by decide +kernel⟩
theorem ok_ulaw_reach (T : Txt K mg) : Ok P w K mg base 2 (He.ga K "_law_reach") ["_law_modulus_here", "_law_spans"] (spLReach K) := by
  obtain ⟨fd_ulaw_power, F_ulaw_power, b_ulaw_power, k_ulaw_power, _⟩ := (ok_ulaw_power (P := P) (w := w) (base := base) T).ex
  refine fd_ok T.f_ulaw_reach sc_ulaw_reach (fun vs H Q E h => ?_) (fun _ _ _ _ _ _ us hl => match us, hl with | [_, _], _ => rfl) (fun cdv A outer s H vs Q E hr h => ?_)
  · obtain ⟨a, m, sp, rfl, _⟩ := h
    rfl
  · obtain ⟨a, m, sp, rfl, ⟨ts, hts, hpt⟩, ⟨m1, m2⟩, hsp, q⟩ := h
    have nd := sc_ulaw_reach.nd
    refine ⟨_, (pss_cons (ps_set (i := 2) nd rfl (Or.inl rfl) (pe_lst (pa_cons (pe_op op_mod (pe_callTy call_int1 rfl T.z_int (by decide +kernel) (pa_cons pe_int pa_nil)) (pv 0)) pa_nil))) (pss_cons (ps_for PassesOwn.never rfl (pi_list (pv 1)) (pg_tup rfl (pgs_cons (pg_name (i := 3) nd rfl (Or.inl rfl)) (pgs_cons (pg_name (i := 4) nd rfl (Or.inl rfl)) (pgs_cons (pg_name (i := 5) nd rfl (Or.inl rfl)) pgs_nil)))) (pss_cons (ps_set (i := 6) nd rfl (Or.inr rfl) (pe_lst pa_nil)) (pss_cons (ps_for PassesOwn.never rfl (pi_range2 rfl T.z_range (pa_cons (pe_callB (call_max2 rfl) rfl T.z_max (by decide +kernel) (pa_cons (pv 4) (pa_cons (pe_un un_neg pe_int) pa_nil))) (pa_cons (pe_op op_add (pe_callB (call_min2 rfl) rfl T.z_min (by decide +kernel) (pa_cons (pv 5) (pa_cons pe_int pa_nil))) pe_int) pa_nil))) (pg_name (i := 7) nd rfl (Or.inl rfl)) (pss_cons (ps_set (i := 8) nd rfl (Or.inr rfl) (pe_call F_ulaw_power (hr.mono (by decide)) rfl T.g_ulaw_power k_ulaw_power b_ulaw_power .nil pass0 (pa_cons (pv 3) (pa_cons (pv 7) (pa_cons (pv 0) pa_nil))))) (pss_one (ps_set (i := 6) nd rfl (Or.inr rfl) (pe_op op_cat (pv 6) (pe_lc (own := [("_law_rest", 9)]) (g := (gName 9)) (tt := tYes) rfl nd (pi_list (pv 2)) (blkOk_by (own := [("_law_rest", 9)]) (N := ["_law_modulus_here", "_law_spans", "_law_found", "_law_base", "_law_low", "_law_high", "_law_more", "_law_k", "_law_power_here", "_law_rest", "_law_j"]) (sc := defScope s_ulaw_reach) (by decide +kernel)) (fun _ _ _ _ _ => (pg_name (i := 9) nd rfl (Or.inl rfl))) (fun _ _ _ _ _ => pts_nil) (fun _ _ _ _ _ => (pe_op op_mod (pe_callTy call_int1 rfl T.z_int (by decide +kernel) (pa_cons (pe_op op_mul (pv 9) (pv 8)) pa_nil)) (pv 0))))))))) (pss_one (ps_set (i := 2) nd rfl (Or.inl rfl) (pe_callB cr_sortedI rfl T.z_sorted (by decide +kernel) (pa_cons (pe_lc (own := [("_law_j", 10)]) (g := (gName 10)) rfl nd (pi_range1 rfl T.z_range (pa_cons (pe_callB call_len_seq rfl T.z_len (by decide +kernel) (pa_cons (pv 6) pa_nil)) pa_nil)) (blkOk_by (own := [("_law_j", 10)]) (N := ["_law_modulus_here", "_law_spans", "_law_found", "_law_base", "_law_low", "_law_high", "_law_more", "_law_k", "_law_power_here", "_law_rest", "_law_j"]) (sc := defScope s_ulaw_reach) (by decide +kernel)) (fun _ _ _ _ _ => (pg_name (i := 10) nd rfl (Or.inl rfl))) (fun _ _ _ _ _ => (pts_one (pt_cmpR (opK (K0 := K) (r := fun K => rIn K true) op_notIn_seq) (pe_ix (ixK (K0 := K) (r := rIxL) ix_list) (pv 6) (pv 10) (by intro _ _; rfl)) (pe_slice (slK (K0 := K) (r := rSlL) sl_list) (pv 6) po_none (po_some (pv 10))) rfl))) (fun _ _ _ _ _ => (pe_ix (ixK (K0 := K) (r := rIxL) ix_list) (pv 6) (pv 10) (by intro _ _; rfl)))) pa_nil))))))) (pss_one (ps_ret (pv 2))))), ?_⟩
    refine .inl ⟨_, rfl, _, rfl, _, _, rfl, rfl, by omega, by show 1 ≤ sizeLine; decide, fun f0 hf0 => ?_⟩
    have em : V.int ((1 : Int) % (m : Int)) = V.int ((1 % m : Nat) : Int) := by rw [Int.natCast_emod]; rfl
    have e0 := Ext.new hf0 (.lst [.int ((1 : Int) % (m : Int))])
    have hf1 : upd H f0 (.lst [.int ((1 : Int) % (m : Int))]) f0 = some (.lst (nv [1 % m])) := by rw [upd_same, em]; rfl
    generalize upd H f0 (.lst [.int ((1 : Int) % (m : Int))]) = H1 at e0 hf1 ⊢
    have tl : ts.length = sp.length := by rw [hpt.length, List.length_map]
    refine ⟨_, rfl, a, rfl, ⟨_, SqL.of (e0 _ _ hts)⟩, ?_⟩
    refine for_list (xs := ts.map V.ref) (fun i σ H' => ∃ (f : Addr) (R : List Nat) (u3 u4 u5 u6 u7 u8 : Option V), σ = [some (.int m), some (.ref a), some (.ref f), u3, u4, u5, u6, u7, u8, none, none] ∧ H' f = some (.lst (nv R)) ∧ RowOf m (reachP m (sp.take i)) R ∧ Ext H H')
      ⟨f0, [1 % m], _, _, _, _, _, _, rfl, hf1, ⟨by simp, fun x => by simp [reachP, reachFrom], fun x hx => by simp at hx; rw [hx]; exact Nat.mod_lt _ m1⟩, e0⟩ ?_ ?_ ?_
    · rintro i σ H' _ ⟨f, R, u3, u4, u5, u6, u7, u8, rfl, _, _, e⟩
      exact SqL.of (e _ _ hts)
    · rintro i x σ H2 hx ⟨f, R, u3, u4, u5, u6, u7, u8, rfl, hf, row, e2⟩
      rw [List.getElem?_map] at hx
      obtain ⟨tt, hti, rfl⟩ := Option.map_eq_some_iff.mp hx
      obtain ⟨q3, hq3, htt⟩ := paired_at hpt i tt hti
      rw [List.getElem?_map] at hq3
      obtain ⟨⟨b, lo, hi⟩, hq, rfl⟩ := Option.map_eq_some_iff.mp hq3
      obtain ⟨hg, hlo, hhi⟩ := hsp _ (List.mem_of_getElem? hq)
      dsimp only at hg hlo hhi htt
      have tk : sp.take (i + 1) = sp.take i ++ [(b, lo, hi)] := by rw [List.take_add_one, hq] <;> rfl
      have rl := row.len
      refine ⟨tt, _, rfl, SqT.of (e2 _ _ htt), rfl, _, _, rfl, _, _, rfl, _, _, rfl, rfl, ?_⟩
      refine ⟨by show 0 ≤ sizeLine; decide, fun mo0 hmo0 => ?_⟩
      have e3 := Ext.new hmo0 (.lst [])
      have hmo1 : upd H2 mo0 (.lst []) mo0 = some (.lst (nv [])) := upd_same
      generalize upd H2 mo0 (.lst []) = H3 at e3 hmo1 ⊢
      have hf3 := e3 _ _ hf
      refine ⟨_, rfl, _, rfl, lo, -13, rfl, _, rfl, hi, 13, rfl, _, _, rfl, rfl, ?_⟩
      generalize hl' : (if (-13 : Int) > lo then (-13 : Int) else lo) = lo'
      generalize hh' : (if (13 : Int) < hi then (13 : Int) else hi) = hi'
      have el : lo' = max lo (-13) := by rw [← hl']; split <;> omega
      have eh : hi' = min hi 13 := by rw [← hh']; split <;> omega
      refine ⟨lo', hi' + 1, rfl, ⟨by omega, by omega, by omega, by omega⟩, ?_⟩
      refine for_range (lo := lo') (n := (hi' + 1 - lo').toNat) (fun j σ' H' => ∃ (mo : Addr) (M : List Nat) (u7 u8 : Option V), σ' = [some (.int m), some (.ref a), some (.ref f), some (.int b), some (.int lo), some (.int hi), some (.ref mo), u7, u8, none, none] ∧ H' mo = some (.lst (nv M)) ∧ M.length ≤ j * 12 ∧ (∀ x, x ∈ M ↔ ∃ ex : Int, (lo' ≤ ex ∧ ex < lo' + j) ∧ ∃ r ∈ R, x = r * pw b ex m % m) ∧ Ext H3 H')
        ⟨mo0, [], _, _, rfl, hmo1, Nat.zero_le _, fun x => ⟨fun z => (by cases z), fun ⟨ex, h1, _⟩ => (by omega)⟩, Ext.refl _⟩ ?_ ?_
      · rintro j σ' H' hj ⟨mo, M, u7, u8, rfl, hmo, hml, hM, e4⟩
        refine ⟨_, rfl, _, rfl, _, rfl, b, m, lo' + j, rfl, ⟨m1, m2⟩, hg, fun H5 e5 => ?_⟩
        have hmo5 := e5 _ _ hmo
        have hf5 := e5 _ _ (e4 _ _ hf3)
        have pl : pw b (lo' + (j : Int)) m < m := pw_lt m1
        generalize hpw : pw b (lo' + (j : Int)) m = pp at pl
        refine ⟨_, rfl, _, rfl, f, rfl, ⟨_, SqL.of hf5⟩, fun D hD => ?_⟩
        refine lc_list (xs := nv R) (Cw H5 (fun _ => true) (fun i => V.int (R.getD i 0 * pp % m : Nat)) D) ⟨hD, Ex.new hD, upd_same⟩ (fun i H6 _ p => SqL.of (p.2.1 _ _ hf5)) (fun i y H6 hy p => ?_) (fun H6 p => ?_)
        · have il : i < R.length := by have := (List.getElem?_eq_some_iff.mp hy).1; rwa [List.length_map] at this
          rw [nv_getD il] at hy
          cases hy
          have rlt : R.getD i 0 < m := by
            rw [List.getD_eq_getElem?_getD, List.getElem?_eq_getElem il]
            exact row.lt _ (List.getElem_mem il)
          refine ⟨rfl, cw_turn p (by omega) (fun H7 e Q q => q H7 (Ex.refl H7)) (fun _ H7 e Q q => ?_)⟩
          refine ⟨_, rfl, _, rfl, _, _, rfl, rfl, .inl ⟨by omega, by omega⟩, .inl ⟨_, rfl, _, rfl, _, _, rfl, rfl, by omega, ?_⟩⟩
          have ev : ((R.getD i 0 : Nat) : Int) * (pp : Int) % (m : Int) = ((R.getD i 0 * pp % m : Nat) : Int) := by rw [Int.natCast_emod, Int.natCast_mul]
          show Q (.int (((R.getD i 0 : Nat) : Int) * (pp : Int) % (m : Int))) H7
          rw [ev]
          exact q H7 (Ex.refl H7)
        · obtain ⟨p1, p2, p3⟩ := p
          have hlen : (nv R).length = R.length := List.length_map _
          rw [hlen, given_all] at p3
          have p3' : H6 D = some (.lst (nv (R.map fun r => r * pp % m))) := by
            rw [p3, ← range_getD R (fun r => r * pp % m), nv_map]
          have hmo6 := p2 _ _ hmo5
          have jb : j < 27 := by omega
          refine ⟨mo, D, nv M, _, rfl, rfl, hmo6, p3', by rw [List.length_map, List.length_map, List.length_map]; exact small_line (by omega), fun p hp => ?_⟩
          refine ⟨p, M ++ R.map fun r => r * pp % m, _, _, rfl, by rw [upd_same, nv_append], by rw [List.length_append, List.length_map]; omega, fun x => ?_, ((e4.trans e5).trans p2).trans (Ext.new hp _)⟩
          rw [List.mem_append, hM, List.mem_map]
          constructor
          · rintro (⟨ex, h1, h2⟩ | ⟨r, h1, rfl⟩)
            · exact ⟨ex, by omega, h2⟩
            · exact ⟨lo' + j, by omega, r, h1, by rw [hpw]⟩
          · rintro ⟨ex, h1, r, h2, rfl⟩
            by_cases z : ex < lo' + j
            · exact .inl ⟨ex, by omega, r, h2, rfl⟩
            · refine .inr ⟨r, h2, ?_⟩
              have : ex = lo' + j := by omega
              rw [this, hpw]
      · rintro σ' H4 ⟨mo, M, u7, u8, rfl, hmo, hml, hM, e4⟩
        have hlen : (nv M).length = M.length := List.length_map _
        have mlen : M.length ≤ 400 := by omega
        refine ⟨_, rfl, mo, _, rfl, .inl (SqL.of hmo), _, rfl, by omega, by omega, fun D hD => ?_⟩
        rw [hlen]
        refine lc_range (lo := 0) (n := (M.length : Int).toNat) (Cw H4 (fun j => decide (M.getD j 0 ∉ M.take j)) (fun j => V.int (M.getD j 0 : Nat)) D) ⟨hD, Ex.new hD, upd_same⟩ (fun j H6 hj p => ?_) (fun H6 p => ?_)
        · have hj' : j < M.length := by omega
          have ej : (0 : Int) + (j : Int) = ((j : Nat) : Int) := by omega
          refine ⟨rfl, cw_turn p (by omega) (fun H7 e Q q => ?_) (fun _ H7 e Q q => ?_)⟩
          · refine ⟨_, rfl, _, rfl, mo, _, _, V.int (M.getD j 0 : Nat), rfl, rfl, SqL.of (e _ _ hmo), by rw [ej]; exact atI_nat (nv_getD hj'), ?_⟩
            refine ⟨_, rfl, _, rfl, _, rfl, mo, nv M, rfl, SqL.of (e _ _ hmo), fun p7 hp7 => ?_⟩
            rw [ej, cutV_nv]
            refine ⟨p7, _, rfl, .inl (SqL.of upd_same), rfl, flat_nats _, _, rfl, ?_⟩
            rw [inV_nats]
            have := q _ (Ex.new (o := .lst (nv (M.take j))) hp7)
            rw [show (decide (M.getD j 0 ∉ M.take j)) = !decide (M.getD j 0 ∈ M.take j) by by_cases z : M.getD j 0 ∈ M.take j <;> simp [z]] at this
            exact this
          · exact ⟨_, rfl, _, rfl, mo, _, _, V.int (M.getD j 0 : Nat), rfl, rfl, SqL.of (e _ _ hmo), by rw [ej]; exact atI_nat (nv_getD hj'), q H7 (Ex.refl H7)⟩
        · obtain ⟨p1, p2, p3⟩ := p
          have p3' : H6 D = some (.lst (nv (dedL M M.length))) := by
            rw [p3, Int.toNat_natCast]
            unfold given dedL
            rw [nv_map]
          obtain ⟨dn, dm⟩ := dedL_ok M M.length (Nat.le_refl _)
          rw [List.take_length] at dm
          refine ⟨D, (dedL M M.length).map fun k : Nat => (k : Int), rfl, SqL.of (by rw [p3', List.map_map]; rfl), fun ys p perm rise hp => ?_⟩
          have pos : ∀ y ∈ ys, 0 ≤ y := fun y hy => by
            obtain ⟨k, _, rfl⟩ := List.mem_map.mp (perm.mem_iff.mp hy)
            omega
          have eys : ys.map V.int = nv (ys.map Int.toNat) := by
            rw [nv_map]
            refine List.map_congr_left fun y hy => ?_
            show V.int y = V.int ((y.toNat : Nat) : Int)
            rw [Int.toNat_of_nonneg (pos y hy)]
          have mem : ∀ x : Nat, x ∈ ys.map Int.toNat ↔ x ∈ M := fun x => by
            rw [← dm, List.mem_map]
            constructor
            · rintro ⟨y, hy, rfl⟩
              obtain ⟨k, hk, rfl⟩ := List.mem_map.mp (perm.mem_iff.mp hy)
              exact hk
            · intro hx
              exact ⟨(x : Int), perm.mem_iff.mpr (List.mem_map.mpr ⟨x, hx, rfl⟩), rfl⟩
          refine ⟨p, ys.map Int.toNat, _, _, _, _, _, _, rfl, by rw [upd_same, eys], ⟨?_, fun x => ?_, fun x hx => ?_⟩, (((e2.trans e3).trans e4).trans p2).trans (Ext.new hp _)⟩
          · rw [List.pairwise_map]
            have n1 : ys.Nodup := perm.nodup_iff.mpr (List.Pairwise.map _ (fun a b (h : a ≠ b) z => h (by omega)) dn)
            refine (List.pairwise_and_iff.mpr ⟨rise, n1⟩).imp_of_mem fun {a b} ha hb h => ?_
            have h1 : a ≤ b := h.1
            have h2 : a ≠ b := h.2
            have := pos a ha
            omega
          · rw [mem, hM, tk]
            unfold reachP
            rw [reach_snoc]
            unfold stepP
            dsimp only
            constructor
            · rintro ⟨ex, h1, r, h2, rfl⟩
              obtain ⟨ex', h3, h4⟩ := (pw_cut m1 m2 hg hlo hhi (c := 13) (by decide) _).mpr ⟨ex, by omega, rfl⟩
              exact ⟨r, (row.mem r).mp h2, ex', h3, by rw [← h4]⟩
            · rintro ⟨r, h2, ex, h1, rfl⟩
              obtain ⟨ex', h3, h4⟩ := (pw_cut m1 m2 hg hlo hhi (c := 13) (by decide) _).mp ⟨ex, h1, rfl⟩
              exact ⟨ex', by omega, r, (row.mem r).mpr h2, by rw [← h4]⟩
          · obtain ⟨ex, _, r, _, rfl⟩ := (hM x).mp ((mem x).mp hx)
            exact Nat.mod_lt _ m1
    · rintro σ H' ⟨f, R, u3, u4, u5, u6, u7, u8, rfl, hf, row, e⟩
      have hl : (ts.map V.ref).length = sp.length := by rw [List.length_map, tl]
      rw [hl, List.take_length] at row
      exact ⟨_, rfl, q f R H' hf row e⟩
end
end K81

set_option Elab.async false
set_option linter.all false
set_option maxRecDepth 100000
set_option maxHeartbeats 4000000
namespace K81
open PySem PySem.Spec PyProof.Rows L2 Bk Evl
def lunits (m : Nat) : List Nat := ((List.range (m - 1)).filter fun k => decide (Nat.gcd m (k + 1) = 1)).map (· + 1)
theorem lunits_eq : ∀ m : Fin 13, 2 ≤ m.val → lunits m.val = unitsL m.val := by decide +kernel
theorem lunits_of {m : Nat} (h1 : 2 ≤ m) (h2 : m ≤ 12) : lunits m = unitsL m := lunits_eq ⟨m, by omega⟩ h1
theorem lunits_len (m : Nat) : (lunits m).length ≤ m := by
  unfold lunits
  rw [List.length_map]
  refine Nat.le_trans (List.length_filter_le _ _) ?_
  rw [List.length_range]
  omega
theorem mem_lunits {m u : Nat} (h : u ∈ lunits m) : 1 ≤ u ∧ u < m ∧ Nat.gcd u m = 1 := by
  unfold lunits at h
  obtain ⟨k, hk, rfl⟩ := List.mem_map.mp h
  obtain ⟨h1, h2⟩ := List.mem_filter.mp hk
  have := List.mem_range.mp h1
  exact ⟨by omega, by omega, by rw [Nat.gcd_comm]; exact of_decide_eq_true h2⟩
/-- the table of the rests of l -/
def restI (m : Int) (l : Prs) : Prs := l.foldl (fun es q => putI es (q.1 % m) (getI es (q.1 % m) + q.2)) []
theorem restI_snoc (m : Int) (l : Prs) (q : Int × Int) : restI m (l ++ [q]) = putI (restI m l) (q.1 % m) (getI (restI m l) (q.1 % m) + q.2) := by
  unfold restI
  rw [List.foldl_append]
  rfl
theorem getI_map_self {es : Prs} : ∀ {ys : List Int}, ys.Nodup → ∀ x, getI (ys.map fun y => (y, getI es y)) x = if x ∈ ys then getI es x else 0
  | [], _, x => by simp [getI]
  | y :: ys, h, x => by
    rw [List.map_cons, getI_cons]
    dsimp only
    by_cases z : y = x
    · subst z
      rw [if_pos rfl, if_pos List.mem_cons_self]
    · rw [if_neg z, getI_map_self (List.nodup_cons.mp h).2]
      by_cases w : x ∈ ys
      · rw [if_pos w, if_pos (List.mem_cons_of_mem _ w)]
      · rw [if_neg w, if_neg (fun v => (List.mem_cons.mp v).elim (fun v => z v.symm) w)]
theorem sumR_out {m x : Int} (m1 : 1 ≤ m) (h : x < 0 ∨ m ≤ x) : ∀ l : Prs, sumR m x l = 0
  | [] => rfl
  | q :: l => by
    show (if q.1 % m = x then q.2 else 0) + sumR m x l = 0
    have h1 := Int.emod_nonneg q.1 (show m ≠ 0 by omega)
    have h2 := Int.emod_lt_of_pos q.1 (show 0 < m by omega)
    rw [if_neg (by omega), sumR_out m1 h l]
    rfl
section
variable {P : Program} {w : World} {K : PySem.W.Frag} {mg : Str → Option Value} {base : Heap}
/-! ### _law_units -/
def spLUnits : Sp := fun vs H Q _ => ∃ m : Nat, vs = [.int m] ∧ (1 ≤ m ∧ m ≤ 12) ∧ ∀ l H', H l = none → H' l = some (.lst (nv (lunits m))) → Ext H H' → Q (.ref l) H'
theorem sc_ulaw_units : FnScope ["_law_modulus_here", "_law_k"] ["_law_modulus_here"] (defScope s_ulaw_units) := ⟨rfl, rfl, rfl, by decide +kernel, rfl, by decide +kernel, by decide +kernel⟩
theorem ok_ulaw_units (T : Txt K mg) : Ok P w K mg base 2 (He.ga K "_law_units") ["_law_modulus_here"] spLUnits := by
  obtain ⟨fd_ulaw_measure, F_ulaw_measure, b_ulaw_measure, k_ulaw_measure, _⟩ := (ok_ulaw_measure (P := P) (w := w) (base := base) T).ex
  refine fd_ok T.f_ulaw_units sc_ulaw_units (fun vs H Q E h => ?_) (fun _ _ _ _ _ _ us hl => match us, hl with | [_], _ => rfl) (fun cdv A outer s H vs Q E hr h => ?_)
  · obtain ⟨m, rfl, _⟩ := h
    rfl
  · obtain ⟨m, rfl, ⟨m1, m2⟩, q⟩ := h
    have nd := sc_ulaw_units.nd
    refine ⟨_, (pss_one (ps_ret (pe_lc (own := [("_law_k", 1)]) (g := (gName 1)) rfl nd (pi_range2 rfl T.z_range (pa_cons pe_int (pa_cons (pv 0) pa_nil))) (blkOk_by (own := [("_law_k", 1)]) (N := ["_law_modulus_here", "_law_k"]) (sc := defScope s_ulaw_units) (by decide +kernel)) (fun _ _ _ _ _ => (pg_name (i := 1) nd rfl (Or.inl rfl))) (fun _ _ _ _ _ => (pts_one (pt_cmpR op_eq (pe_call F_ulaw_measure (hr.mono (by decide)) rfl T.g_ulaw_measure k_ulaw_measure b_ulaw_measure .nil pass0 (pa_cons (pv 0) (pa_cons (pv 1) pa_nil))) pe_int (nomark _)))) (fun _ _ _ _ _ => (pv 1))))), ?_⟩
    refine ⟨_, rfl, 1, (m : Int), rfl, ⟨by decide, by decide, by omega, by omega⟩, fun D hD => ?_⟩
    refine lc_range (lo := 1) (n := ((m : Int) - 1).toNat) (Cw H (fun k => decide (Nat.gcd m (k + 1) = 1)) (fun k => V.int (1 + (k : Int))) D) ⟨hD, Ex.new hD, upd_same⟩ (fun k H5 hk p => ?_) (fun H5 p => ?_)
    · refine ⟨rfl, cw_turn p (by omega) (fun H1 e Q q => ?_) (fun _ H1 e Q q => ⟨_, rfl, q H1 (Ex.refl H1)⟩)⟩
      refine ⟨_, rfl, _, rfl, m, k + 1, ?_, ⟨rfl, _, rfl, ?_⟩⟩
      · show [V.int (m : Int), V.int (1 + (k : Int))] = _
        rw [show (1 + (k : Int)) = ((k + 1 : Nat) : Int) by omega]
      · rw [show decide (V.int ((Nat.gcd m (k + 1) : Nat) : Int) = V.int 1) = decide (Nat.gcd m (k + 1) = 1) from decide_eq_decide.mpr ⟨fun z => by injection z with z; omega, fun z => by rw [z]; rfl⟩]
        exact q H1 (Ex.refl H1)
    · obtain ⟨p1, p2, p3⟩ := p
      refine q D H5 hD ?_ p2
      rw [p3, show ((m : Int) - 1).toNat = m - 1 by omega]
      unfold given lunits
      rw [nv_map]
      congr 2
      refine List.map_congr_left fun x _ => ?_
      show V.int (1 + (x : Int)) = V.int ((x + 1 : Nat) : Int)
      congr 1
      omega
/-! ### _law_counts -/
def spLCounts (K : PySem.W.Frag) : Sp := fun vs H Q _ => ∃ (m : Nat) (t : Addr) (l : Prs), vs = [.int m, .ref t] ∧ 1 ≤ m ∧ PairsAt K H t l ∧ l.length ≤ 60 ∧ ∀ t' L H', PairsAt K H' t' L → CntOf m l L → Ext H H' → Q (.ref t') H'
theorem sc_ulaw_counts : FnScope ["_law_modulus_here", "_law_factors_here", "_law_found", "_law_k", "_law_many", "_law_rest"] ["_law_modulus_here", "_law_factors_here"] (defScope s_ulaw_counts) := ⟨rfl, rfl, rfl, by decide +kernel, rfl, by decide +kernel, by decide +kernel⟩
theorem ok_ulaw_counts (T : Txt K mg) : Ok P w K mg base 1 (He.ga K "_law_counts") ["_law_modulus_here", "_law_factors_here"] (spLCounts K) := by
  refine fd_ok T.f_ulaw_counts sc_ulaw_counts (fun vs H Q E h => ?_) (fun _ _ _ _ _ _ us hl => match us, hl with | [_, _], _ => rfl) (fun cdv A outer s H vs Q E hr h => ?_)
  · obtain ⟨m, t, l, rfl, _⟩ := h
    rfl
  · obtain ⟨m, t, l, rfl, m1, hp, hl, q⟩ := h
    have nd := sc_ulaw_counts.nd
    refine ⟨_, (pss_cons (ps_if (pt_cmpR op_lt (pv 0) pe_int (nomark _)) (pss_one (ps_ret (pe_tupP pa_nil))) pss_nil) (pss_cons (ps_set (i := 2) nd rfl (Or.inr rfl) pe_dnewK) (pss_cons (ps_for PassesOwn.never rfl (pi_tup (pv 1)) (pg_tup rfl (pgs_cons (pg_name (i := 3) nd rfl (Or.inl rfl)) (pgs_cons (pg_name (i := 4) nd rfl (Or.inl rfl)) pgs_nil))) (pss_cons (ps_set (i := 5) nd rfl (Or.inl rfl) (pe_op op_mod (pe_callTy call_int1 rfl T.z_int (by decide +kernel) (pa_cons (pv 3) pa_nil)) (pv 0))) (pss_one (ps_asg (pe_op op_add (pe_dget2 (ru hr) (pv 2) (pv 5) pe_int ⟨rfl, rfl, rfl, rfl⟩) (pv 4)) (pg_sub (pv 2) (pv 5) (set_dict (ru hr))))))) (pss_one (ps_ret (pe_tupleP rfl T.z_tuple (pe_lc (own := [("_law_rest", 5)]) (g := (gName 5)) rfl nd (pi_list (pe_callB (call_sortedDI rfl) rfl T.z_sorted (by decide +kernel) (pa_cons (pv 2) pa_nil))) (blkOk_by (own := [("_law_rest", 5)]) (N := ["_law_modulus_here", "_law_factors_here", "_law_found", "_law_k", "_law_many", "_law_rest"]) (sc := defScope s_ulaw_counts) (by decide +kernel)) (fun _ _ _ _ _ => (pg_name (i := 5) nd rfl (Or.inl rfl))) (fun _ _ _ _ _ => (pts_one (pt_cmpR op_gt (pv 5) pe_int (nomark _)))) (fun _ _ _ _ _ => (pe_tup (pa_cons (pv 5) (pa_cons (pe_dget (ru hr) (pv 2) (pv 5) (by intro _ _; rfl)) pa_nil))))))))))), ?_⟩
    obtain ⟨ps, h1, h2⟩ := hp.sq
    refine ⟨_, rfl, _, _, rfl, rfl, _, rfl, ?_⟩
    refine ite2 (fun hm => ?_) (fun hm => ?_)
    · have hm' : ¬ 2 < (m : Int) := by have := of_decide_eq_true hm; omega
      refine ⟨by show 0 ≤ sizeLine; decide, fun t' o ht oc od => ?_⟩
      exact q t' [] _ ⟨[], plt_new oc od, .nil⟩ ⟨.nil, fun x => by simp [getI, hm'], fun e he => by cases he⟩ (Ext.new ht _)
    · have hm' : 2 < (m : Int) := by
        have : ¬ (m : Int) < 3 := fun z => hm (decide_eq_true z)
        omega
      intro d hd
      refine ⟨_, rfl, t, rfl, ⟨_, sqt_ext h1 (Ext.new hd _)⟩, ?_⟩
      refine for_tup (xs := ps.map V.ref) (fun i σ H' => ∃ (u1 u2 u3 : Option V), σ = [some (.int m), some (.ref t), some (.ref d), u1, u2, u3] ∧ TabAt H' d (restI m (l.take i)) ∧ Ext H H' ∧ (restI m (l.take i)).length ≤ i ∧ (∀ x, getI (restI m (l.take i)) x = sumR m x (l.take i)) ∧ ∀ e ∈ restI m (l.take i), 0 ≤ e.1 ∧ e.1 < m)
        ⟨_, _, _, rfl, ⟨upd_same, .nil⟩, Ext.new hd _, Nat.le_refl 0, fun x => rfl, fun e he => by cases he⟩ ?_ ?_ ?_
      · rintro i σ H' _ ⟨u1, u2, u3, rfl, _, e, _⟩
        exact sqt_ext h1 e
      · rintro i x σ H' hx ⟨u1, u2, u3, rfl, td, e, hlen, hg, hb⟩
        rw [List.getElem?_map] at hx
        obtain ⟨p, hpi, rfl⟩ := Option.map_eq_some_iff.mp hx
        obtain ⟨⟨q1, q2⟩, hq, hsq⟩ := paired_at h2 i p hpi
        dsimp only at hsq
        have il : i < l.length := (List.getElem?_eq_some_iff.mp hq).1
        have htk : l.take (i + 1) = l.take i ++ [(q1, q2)] := by rw [List.take_add_one, hq] <;> rfl
        have r0 := Int.emod_nonneg q1 (show (m : Int) ≠ 0 by omega)
        have r1 := Int.emod_lt_of_pos q1 (show (0 : Int) < m by omega)
        rw [htk, restI_snoc]
        dsimp only
        generalize restI m (l.take i) = es at td hlen hg hb ⊢
        refine ⟨p, _, rfl, sqt_ext hsq e, rfl, _, _, rfl, _, _, rfl, rfl, ?_⟩
        refine ⟨_, rfl, .inl ⟨_, rfl, _, rfl, _, _, rfl, rfl, by omega, ?_⟩⟩
        refine ⟨_, rfl, d, rfl, .inl ⟨_, .inl td.1⟩, _, rfl, _, .inl ⟨es.map entI, Sum.inl (q1 % m), .inl td.1, rfl, rfl⟩, _, rfl, getI es (q1 % m), q2, getD_entI _ _, rfl, ?_⟩
        refine ⟨_, rfl, _, rfl, d, _, rfl, .inl ⟨_, Sum.inl (q1 % m), td.1, rfl, by rw [List.length_map]; exact small_lt (by omega), rfl⟩, ?_⟩
        rw [putK_entI]
        refine ⟨_, _, _, rfl, ⟨upd_same, nodup_put td.2⟩, e.mut hd _, Nat.le_trans (len_put _ _ _) (by omega), fun x => ?_, fun e' he' => ?_⟩
        · rw [getI_put, sumR_snoc, hg x, hg (q1 % m)]
          dsimp only
          by_cases z : x = q1 % m
          · rw [if_pos z, if_pos z.symm, z]
          · rw [if_neg z, if_neg (fun w => z w.symm), Int.add_zero]
        · rcases mem_put.mp (List.mem_map.mpr ⟨e', he', rfl⟩) with z | z
          · rw [z]; exact ⟨r0, r1⟩
          · obtain ⟨e2, h2, ee⟩ := List.mem_map.mp z
            rw [← ee]; exact hb e2 h2
      · rintro σ H' ⟨u1, u2, u3, rfl, td, e, hlen, hg, hb⟩
        have hpl : (ps.map V.ref).length = l.length := by rw [List.length_map, h2.length]
        rw [hpl, List.take_length] at td hlen hg hb
        generalize restI m l = es at td hlen hg hb
        refine ⟨_, rfl, d, _, es.map (·.1), rfl, .inl td.1, by rw [List.map_map, List.map_map]; rfl, by rw [List.length_map]; omega, fun ys p perm rise hp => ?_⟩
        have ynd : ys.Nodup := perm.nodup_iff.mpr td.2
        have ylen : ys.length ≤ 60 := by
          have := perm.length_eq
          rw [List.length_map] at this
          omega
        have hdp : d ≠ p := ne_of_none td.1 hp
        have hp1 : upd H' p (.lst (ys.map V.int)) p = some (.lst (ys.map V.int)) := upd_same
        have td1 : TabAt (upd H' p (.lst (ys.map V.int))) d es := td.ext (Ext.new hp _)
        have e1 := e.trans (Ext.new hp (.lst (ys.map V.int)))
        generalize upd H' p (.lst (ys.map V.int)) = H1 at hp1 td1 e1 ⊢
        refine ⟨p, rfl, ⟨_, SqL.of hp1⟩, fun D hD => ?_⟩
        refine lc_list (xs := ys.map V.int) (fun i H2 => Ext H1 H2 ∧ PList H2 D ((((ys.take i).filter fun y => decide (1 < y))).map fun y => (y, getI es y)) ∧ (((ys.take i).filter fun y => decide (1 < y))).length ≤ i) ⟨Ext.new hD _, ⟨[], upd_same, .nil⟩, Nat.le_refl 0⟩ (fun i H2 _ p => SqL.of (p.1 _ _ hp1)) (fun i y0 H2 hy0 p => ?_) (fun H2 p => ?_)
        · obtain ⟨e2, pl, pll⟩ := p
          rw [List.getElem?_map] at hy0
          obtain ⟨y, hy, rfl⟩ := Option.map_eq_some_iff.mp hy0
          have tk : ys.take (i + 1) = ys.take i ++ [y] := by rw [List.take_add_one, hy] <;> rfl
          have il := (List.getElem?_eq_some_iff.mp hy).1
          refine ⟨rfl, _, rfl, _, _, rfl, rfl, _, rfl, ?_⟩
          by_cases h1 : 1 < y
          · rw [decide_eq_true h1]
            have hyk : y ∈ es.map (·.1) := perm.mem_iff.mp (List.mem_of_getElem? hy)
            have td2 := td1.ext e2
            have hv : valV (es.map entI) (Sum.inl y : Key) = some (.int (getI es y)) := by
              cases z : valV (es.map entI) (Sum.inl y : Key) with
              | some x => rw [get_some z]
              | none =>
                refine (valV_not z ?_).elim
                obtain ⟨e', he', rfl⟩ := List.mem_map.mp hyk
                exact List.mem_map.mpr ⟨entI e', List.mem_map.mpr ⟨e', he', rfl⟩, rfl⟩
            refine iteT ⟨_, rfl, _, rfl, _, rfl, d, _, rfl, .inl ⟨es.map entI, Sum.inl y, .inl td2.1, rfl, hv.symm⟩, by show 2 ≤ sizeLine; decide, fun tp htp => ?_⟩
            obtain ⟨ps', g1, g2⟩ := id pl
            obtain ⟨g3, g4⟩ := pl.snoc (a := y) (b := getI es y) htp _ g1
            have nDt : D ≠ tp := ne_of_none g1 htp
            refine ⟨_, by rw [upd_ne nDt]; exact g1, by rw [g3, List.length_map]; exact small_lt (by omega), fun x o z => ?_, ?_, ?_⟩
            · rw [upd_ne (ne_of_none z hD), upd_ne (ne_of_none (e2 _ _ z) htp)]
              exact e2 _ _ z
            · rw [tk, List.filter_append, List.map_append, List.filter_cons_of_pos (by simpa using h1)]
              exact g4
            · rw [tk, List.filter_append, List.filter_cons_of_pos (by simpa using h1), List.length_append]
              show _ + 1 ≤ i + 1
              omega
          · rw [decide_eq_false h1]
            refine iteF ⟨e2, ?_, ?_⟩
            · rw [tk, List.filter_append, List.filter_cons_of_neg (by simpa using h1), List.filter_nil, List.append_nil]
              exact pl
            · rw [tk, List.filter_append, List.filter_cons_of_neg (by simpa using h1), List.filter_nil, List.append_nil]
              omega
        · obtain ⟨e2, pl, pll⟩ := p
          have hyl : (ys.map V.int).length = ys.length := List.length_map _
          rw [hyl, List.take_length] at pl
          obtain ⟨ps', g1, g2⟩ := id pl
          refine ⟨D, _, rfl, SqL.of g1, fun t' o ht oc od => ?_⟩
          have fnd : (ys.filter fun y => decide (1 < y)).Nodup := List.Pairwise.filter _ ynd
          refine q t' _ _ (pl.pairs ht oc od _ g1) ⟨?_, fun x => ?_, fun e' he' => ?_⟩ ((e1.trans e2).trans (Ext.new ht _))
          · rw [List.pairwise_map]
            have asc : ys.Pairwise (· < ·) := (List.pairwise_and_iff.mpr ⟨rise, ynd⟩).imp fun {x y} h => by
              have h1 : x ≤ y := h.1
              have h2 : x ≠ y := h.2
              omega
            exact List.Pairwise.filter _ asc
          · rw [getI_map_self fnd, hg x]
            by_cases z : 1 < x
            · rw [if_pos (show 2 < (m : Int) ∧ 1 < x from ⟨hm', z⟩)]
              by_cases v : x ∈ ys
              · rw [if_pos (List.mem_filter.mpr ⟨v, decide_eq_true z⟩)]
              · rw [if_neg (fun h => v (List.mem_filter.mp h).1)]
                rw [← hg x, getI_out fun h => v (perm.mem_iff.mpr h)]
            · rw [if_neg (fun h : x ∈ ys.filter (fun y => decide (1 < y)) => z (of_decide_eq_true (List.mem_filter.mp h).2)), if_neg (fun h => z h.2)]
          · obtain ⟨y, hy, rfl⟩ := List.mem_map.mp he'
            obtain ⟨hy1, hy2⟩ := List.mem_filter.mp hy
            obtain ⟨e3, he3, ee⟩ := List.mem_map.mp (perm.mem_iff.mp hy1)
            have := hb e3 he3
            exact ⟨of_decide_eq_true hy2, by rw [← ee]; exact this.2⟩
end
end K81

set_option Elab.async false
set_option linter.all false
set_option maxRecDepth 100000
set_option maxHeartbeats 4000000
namespace K81
open PySem PySem.Spec PyProof.Rows L2 Bk Evl
def spansL (m b c : Nat) (g : Int → Int) : Sps := ((lunits m).filter fun u => decide (1 < u)).map (spanU m b c g)
theorem units_split : ∀ m : Fin 13, 3 ≤ m.val → unitsL m.val = 1 :: (lunits m.val).filter (fun u => decide (1 < u)) := by decide +kernel
theorem reach_skip {m b c : Nat} {g : Int → Int} (h3 : 3 ≤ m) (h12 : m ≤ 12) (hg : 0 ≤ g 1) (x : Nat) : reachP m (spansL m b c g) x ↔ reachP m (spansU m b c g) x := by
  unfold spansU
  rw [units_split ⟨m, by omega⟩ h3]
  rw [List.map_cons]
  show reachFrom m _ (spansL m b c g) x ↔ reachFrom m (stepP m (fun x => x = 1 % m) (spanU m b c g 1)) (spansL m b c g) x
  refine reachFrom_congr _ (fun x => ?_) x
  have e1 : 1 % m = 1 := Nat.mod_eq_of_lt (by omega)
  have pw1 : ∀ e, pw 1 e m = 1 := fun e => by unfold pw; rw [Nat.one_pow, e1]
  unfold stepP spanU
  dsimp only
  have n1 := nearR_nonneg m b (1 : Nat)
  have n2 := nearR_nonneg m c (1 : Nat)
  have hg' : 0 ≤ g (1 : Nat) := hg
  constructor
  · intro hx
    exact ⟨1, by rw [e1], 0, by omega, by rw [pw1, hx]⟩
  · rintro ⟨s, hs, e, _, rfl⟩
    rw [hs, pw1, Nat.mul_one, Nat.mod_mod]
theorem reach_small {m b c : Nat} {g : Int → Int} (h1 : 1 ≤ m) (h3 : m < 3) (hg : ∀ x, 0 ≤ g x) : reachP m (spansU m b c g) (m - 1) := by
  rcases Nat.lt_or_ge m 2 with h | h
  · obtain rfl : m = 1 := by omega
    have e : unitsL 1 = [0] := by decide
    unfold spansU
    rw [e]
    show stepP 1 _ (spanU 1 b c g 0) 0
    have n1 := nearR_nonneg 1 b (0 : Nat)
    have n2 := nearR_nonneg 1 c (0 : Nat)
    have := hg (0 : Nat)
    exact ⟨1 % 1, rfl, 0, by unfold spanU; dsimp only; omega, by rw [Nat.mod_one]⟩
  · obtain rfl : m = 2 := by omega
    have e : unitsL 2 = [1] := by decide
    unfold spansU
    rw [e]
    show stepP 2 _ (spanU 2 b c g 1) 1
    have n1 := nearR_nonneg 2 b (1 : Nat)
    have n2 := nearR_nonneg 2 c (1 : Nat)
    have := hg (1 : Nat)
    exact ⟨1 % 2, rfl, 0, by unfold spanU; dsimp only; omega, by unfold spanU; dsimp only; decide⟩
def menuP : List Nat := [101, 103, 107, 109, 113, 127, 131, 137, 139, 149, 151, 157, 163, 167, 173, 179, 181, 191, 193, 197]
def someL (m r : Nat) : List Nat := menuP.filter fun k => decide (k % m = r)
theorem some_sh : ∀ m r : Fin 13, SeqAt.shaped (.list ((someL m.val r.val).map fun k : Nat => PyData.int k)) = true ∧ PyData.eqv (.list ((someL m.val r.val).map fun k : Nat => PyData.int k)) (.list []) = (someL m.val r.val).isEmpty := by decide +kernel
section
variable {P : Program} {w : World} {K : PySem.W.Frag} {mg : Str → Option Value} {base : Heap}
theorem dp_nats (H : Hp) : ∀ M : List Nat, DpAll K H (nv M) (M.map fun k : Nat => PyData.int k)
  | [] => .nil
  | k :: M => .cons (.int k) (dp_nats H M)
/-! ### _law_ranges -/
def spLRanges (K : PySem.W.Frag) : Sp := fun vs H Q _ => ∃ (s t : Addr) (a : Int) (b c m : Nat) (L : Prs), vs = [.ref s, .int m, .ref t] ∧ SqT K H s [.int a, .int b, .int c] ∧ ((1 ≤ b ∧ b ≤ 12) ∧ 1 ≤ c ∧ c ≤ 12) ∧ (1 ≤ m ∧ m ≤ 12) ∧ PairsAt K H t L ∧ CntOk L ∧
  ∀ p H', TrisAt H' p (triS (spansL m b c (getI L))) → Ext H H' → Q (.ref p) H'
theorem sc_ulaw_ranges : FnScope ["_law_spec_here", "_law_modulus_here", "_law_counts_here", "_law_near", "_law_far", "_law_here", "_law_found", "_law_rest", "_law_many"] ["_law_spec_here", "_law_modulus_here", "_law_counts_here"] (defScope s_ulaw_ranges) := ⟨rfl, rfl, rfl, by decide +kernel, rfl, by decide +kernel, by decide +kernel⟩
theorem ok_ulaw_ranges (T : Txt K mg) : Ok P w K mg base 3 (He.ga K "_law_ranges") ["_law_spec_here", "_law_modulus_here", "_law_counts_here"] (spLRanges K) := by
  obtain ⟨fd_ulaw_counts, F_ulaw_counts, b_ulaw_counts, k_ulaw_counts, _⟩ := (ok_ulaw_counts (P := P) (w := w) (base := base) T).ex
  obtain ⟨fd_ulaw_split, F_ulaw_split, b_ulaw_split, k_ulaw_split, _⟩ := (ok_ulaw_split (P := P) (w := w) (base := base) T).ex
  obtain ⟨fd_ulaw_units, F_ulaw_units, b_ulaw_units, k_ulaw_units, _⟩ := (ok_ulaw_units (P := P) (w := w) (base := base) T).ex
  refine fd_ok T.f_ulaw_ranges sc_ulaw_ranges (fun vs H Q E h => ?_) (fun _ _ _ _ _ _ us hl => match us, hl with | [_, _, _], _ => rfl) (fun cdv A outer s H vs Q E hr h => ?_)
  · obtain ⟨s, t, a, b, c, m, L, rfl, _⟩ := h
    rfl
  · obtain ⟨s, t, a, b, c, m, L, rfl, hs, ⟨⟨b1, b2⟩, c1, c2⟩, ⟨m1, m2⟩, hp, cok, q⟩ := h
    have nd := sc_ulaw_ranges.nd
    refine ⟨_, (pss_cons (ps_set (i := 3) nd rfl (Or.inl rfl) (pe_callTy (call_dictT rfl) rfl T.z_dict (by decide +kernel) (pa_cons (pe_call F_ulaw_counts (hr.mono (by decide)) rfl T.g_ulaw_counts k_ulaw_counts b_ulaw_counts .nil pass0 (pa_cons (pv 1) (pa_cons (pe_call F_ulaw_split (hr.mono (by decide)) rfl T.g_ulaw_split k_ulaw_split b_ulaw_split .nil pass0 (pa_cons (pe_ix ix_tup (pv 0) pe_int (by intro _ _; rfl)) pa_nil)) pa_nil))) pa_nil))) (pss_cons (ps_set (i := 4) nd rfl (Or.inl rfl) (pe_callTy (call_dictT rfl) rfl T.z_dict (by decide +kernel) (pa_cons (pe_call F_ulaw_counts (hr.mono (by decide)) rfl T.g_ulaw_counts k_ulaw_counts b_ulaw_counts .nil pass0 (pa_cons (pv 1) (pa_cons (pe_call F_ulaw_split (hr.mono (by decide)) rfl T.g_ulaw_split k_ulaw_split b_ulaw_split .nil pass0 (pa_cons (pe_ix ix_tup (pv 0) pe_int (by intro _ _; rfl)) pa_nil)) pa_nil))) pa_nil))) (pss_cons (ps_par (i := 5) (j := 6) rfl nd rfl rfl (by decide) rfl rfl (pa_cons (pe_callTy (call_dictT rfl) rfl T.z_dict (by decide +kernel) (pa_cons (pv 2) pa_nil)) (pa_cons (pe_lst pa_nil) pa_nil)) (by rfl)) (pss_cons (ps_for PassesOwn.never rfl (pi_list (pe_call F_ulaw_units (hr.mono (by decide)) rfl T.g_ulaw_units k_ulaw_units b_ulaw_units .nil pass0 (pa_cons (pv 1) pa_nil))) (pg_name (i := 7) nd rfl (Or.inl rfl)) (pss_one (ps_if (pt_cmpR op_gt (pv 7) pe_int (nomark _)) (pss_cons (ps_set (i := 8) nd rfl (Or.inl rfl) (pe_dget2 (ru hr) (pv 5) (pv 7) pe_int ⟨rfl, rfl, rfl, rfl⟩)) (pss_one (ps_expr (pe_bm PySem.F.plainAttrs_list PySem.F.slot_list_append PySem.F.type_list_append mt_append (pv 6) (pa_cons (pe_tup (pa_cons (pv 7) (pa_cons (pe_op op_sub (pe_op op_sub pe_int (pv 8)) (pe_dget2 (ru hr) (pv 3) (pv 7) pe_int ⟨rfl, rfl, rfl, rfl⟩)) (pa_cons (pe_op op_add (pv 8) (pe_dget2 (ru hr) (pv 4) (pv 7) pe_int ⟨rfl, rfl, rfl, rfl⟩)) pa_nil)))) pa_nil))))) pss_nil))) (pss_one (ps_ret (pv 6))))))), ?_⟩
    refine ⟨_, rfl, _, rfl, s, _, 1, _, rfl, rfl, hs, rfl, b, rfl, ⟨b1, by omega⟩, fun t1 H1 p1 _ e1 => ⟨m, t1, _, rfl, m1, p1, Nat.le_trans (facN_len3 b2) (by decide), fun t2 L1 H2 p2 g1 e2 => ?_⟩⟩
    obtain ⟨ps1, pl1, pp1⟩ := dictOf p2
    refine ⟨t2, ps1, _, rfl, pl1, pp1, fun d1 hd1 => ?_⟩
    rw [merge_entI (nodup_asc g1.asc)]
    have e3 := Ext.new hd1 (.dK (L1.map entI))
    have k1 : TabAt (upd H2 d1 (.dK (L1.map entI))) d1 L1 := ⟨upd_same, nodup_asc g1.asc⟩
    generalize upd H2 d1 (.dK (L1.map entI)) = H3 at e3 k1 ⊢
    have e03 := (e1.trans e2).trans e3
    refine ⟨_, rfl, _, rfl, s, _, 2, _, rfl, rfl, sqt_ext hs e03, rfl, c, rfl, ⟨c1, by omega⟩, fun t4 H4 p4 _ e4 => ⟨m, t4, _, rfl, m1, p4, Nat.le_trans (facN_len3 c2) (by decide), fun t5 L2' H5 p5 g2 e5 => ?_⟩⟩
    obtain ⟨ps2, pl2, pp2⟩ := dictOf p5
    refine ⟨t5, ps2, _, rfl, pl2, pp2, fun d2 hd2 => ?_⟩
    rw [merge_entI (nodup_asc g2.asc)]
    have e6 := Ext.new hd2 (.dK (L2'.map entI))
    have k2 : TabAt (upd H5 d2 (.dK (L2'.map entI))) d2 L2' := ⟨upd_same, nodup_asc g2.asc⟩
    generalize upd H5 d2 (.dK (L2'.map entI)) = H6 at e6 k2 ⊢
    have e36 := (e4.trans e5).trans e6
    have e06 := e03.trans e36
    have k1 := k1.ext e36
    obtain ⟨ps3, pl3, pp3⟩ := dictOf (hp.ext e06)
    refine ⟨_, rfl, t, ps3, _, rfl, pl3, pp3, fun d3 hd3 => ?_⟩
    rw [merge_entI (nodup_asc cok.asc)]
    have e7 := Ext.new hd3 (.dK (L.map entI))
    have k3 : TabAt (upd H6 d3 (.dK (L.map entI))) d3 L := ⟨upd_same, nodup_asc cok.asc⟩
    generalize upd H6 d3 (.dK (L.map entI)) = H7 at e7 k3 ⊢
    refine ⟨by show 0 ≤ sizeLine; decide, fun fl hfl => ⟨_, _, rfl, ?_⟩⟩
    have e8 := Ext.new hfl (.lst [])
    have k1 := (k1.ext e7).ext e8
    have k2 := (k2.ext e7).ext e8
    have k3 := k3.ext e8
    have hfl1 : upd H7 fl (.lst []) fl = some (.lst []) := upd_same
    generalize upd H7 fl (.lst []) = H8 at e8 k1 k2 k3 hfl1 ⊢
    have e08 := (e06.trans e7).trans e8
    have e07 := e06.trans e7
    refine ⟨_, rfl, m, rfl, ⟨m1, m2⟩, fun ul H9 hul0 hul e9 => ⟨ul, rfl, ⟨_, SqL.of hul⟩, ?_⟩⟩
    have nuf : fl ≠ ul := ne_of_none hfl1 hul0
    have k1 := k1.ext e9
    have k2 := k2.ext e9
    have k3 := k3.ext e9
    have hfl9 := e9 _ _ hfl1
    have n1 : d1 ≠ fl := ne_of k1.1 hfl9 (by intro z; cases z)
    have n2 : d2 ≠ fl := ne_of k2.1 hfl9 (by intro z; cases z)
    have n3 : d3 ≠ fl := ne_of k3.1 hfl9 (by intro z; cases z)
    have lul := lunits_len m
    refine for_list (xs := nv (lunits m)) (fun i σ H' => ∃ (u7 u8 : Option V), σ = [some (.ref s), some (.int m), some (.ref t), some (.ref d1), some (.ref d2), some (.ref d3), some (.ref fl), u7, u8] ∧ (∀ x o, H9 x = some o → x ≠ fl → H' x = some o) ∧ TrisAt H' fl (triS ((((lunits m).take i).filter fun u => decide (1 < u)).map (spanU m b c (getI L)))))
      ⟨_, _, rfl, fun _ _ z _ => z, [], hfl9, .nil⟩ ?_ ?_ ?_
    · rintro i σ H' _ ⟨u7, u8, rfl, e, _⟩
      exact SqL.of (e _ _ hul nuf.symm)
    · rintro i x σ H' hx ⟨u7, u8, rfl, e, ts, hts, hpt⟩
      obtain ⟨u, hu, rfl⟩ := nv_at hx
      have tk : (lunits m).take (i + 1) = (lunits m).take i ++ [u] := by rw [List.take_add_one, hu] <;> rfl
      have il := (List.getElem?_eq_some_iff.mp hu).1
      refine ⟨_, rfl, _, _, rfl, rfl, _, rfl, ?_⟩
      refine ite2 (fun h1 => ?_) (fun h1 => ?_)
      · have h1' : 1 < u := by have := of_decide_eq_true h1; omega
        have tl : ts.length ≤ 12 := by
          have h2 := hpt.length
          unfold triS at h2
          rw [List.length_map, List.length_map] at h2
          have h3 := List.length_filter_le (fun u => decide (1 < u)) ((lunits m).take i)
          rw [List.length_take] at h3
          omega
        have k1' := e _ _ k1.1 n1
        have k2' := e _ _ k2.1 n2
        have k3' := e _ _ k3.1 n3
        refine ⟨_, rfl, d3, rfl, .inl ⟨_, .inl k3'⟩, _, rfl, _, .inl ⟨L.map entI, Sum.inl (u : Int), .inl k3', rfl, rfl⟩, ?_⟩
        rw [getD_entI]
        refine ⟨_, rfl, .inl ⟨rfl, _, SqL.of hts⟩, _, rfl, _, rfl, _, _, rfl, rfl, _, rfl, d1, rfl, .inl ⟨_, .inl k1'⟩, _, rfl, _, .inl ⟨L1.map entI, Sum.inl (u : Int), .inl k1', rfl, rfl⟩, ?_⟩
        rw [getD_entI]
        refine ⟨_, _, rfl, rfl, _, rfl, _, rfl, d2, rfl, .inl ⟨_, .inl k2'⟩, _, rfl, _, .inl ⟨L2'.map entI, Sum.inl (u : Int), .inl k2', rfl, rfl⟩, ?_⟩
        rw [getD_entI]
        refine ⟨_, _, rfl, rfl, by show 3 ≤ sizeLine; decide, fun tp htp => ?_⟩
        have nst : fl ≠ tp := ne_of_none hts htp
        refine ⟨fl, _, _, rfl, rfl, by rw [upd_ne nst]; exact hts, by rw [List.length_map]; exact small_lt (by omega), ?_⟩
        refine ⟨_, _, rfl, fun z o e' ne => ?_, ts ++ [tp], by rw [upd_same, List.map_append]; rfl, ?_⟩
        · rw [upd_ne ne, upd_ne (ne_of_none (e _ _ e' ne) htp)]
          exact e _ _ e' ne
        · rw [tk, List.filter_append, List.filter_cons_of_pos (by simpa using h1'), List.filter_nil, List.map_append]
          unfold triS
          rw [List.map_append]
          refine Paired.snoc (L2.Paired.mapP hpt fun q z w => ?_) ?_
          · rw [upd_ne (ne_of w hts (by intro z; cases z)), upd_ne (ne_of_none w htp)]
            exact w
          · rw [upd_ne nst.symm, upd_same]
            unfold spanU
            dsimp only
            rw [show nearR m b (u : Int) = getI L1 (u : Int) from (g1.get _).symm, show nearR m c (u : Int) = getI L2' (u : Int) from (g2.get _).symm, Int.zero_sub]
      · have h1' : ¬ 1 < u := fun z => h1 (decide_eq_true (by omega))
        refine ⟨_, _, rfl, e, ?_⟩
        rw [tk, List.filter_append, List.filter_cons_of_neg (by simpa using h1'), List.filter_nil, List.append_nil]
        exact ⟨ts, hts, hpt⟩
    · rintro σ H' ⟨u7, u8, rfl, e, tri⟩
      have hl : (nv (lunits m)).length = (lunits m).length := List.length_map _
      rw [hl, List.take_length] at tri
      refine ⟨_, rfl, q fl H' tri fun x o z => e _ _ (e9 _ _ (e08 _ _ z)) ?_⟩
      exact ne_of_none (e07 _ _ z) hfl
/-! ### _law_goes -/
def spLGoes (K : PySem.W.Frag) : Sp := fun vs H Q _ => ∃ (s t : Addr) (a : Int) (b c m : Nat) (L : Prs), vs = [.ref s, .int m, .ref t] ∧ SqT K H s [.int a, .int b, .int c] ∧ ((1 ≤ b ∧ b ≤ 12) ∧ 1 ≤ c ∧ c ≤ 12) ∧ (1 ≤ m ∧ m ≤ 12) ∧ PairsAt K H t L ∧ CntOk L ∧
  ∀ (g : Bool) H', (g = true ↔ reachP m (spansU m b c (getI L)) (m - 1)) → Ext H H' → Q (.bl g) H'
theorem sc_ulaw_goes : FnScope ["_law_spec_here", "_law_modulus_here", "_law_counts_here"] ["_law_spec_here", "_law_modulus_here", "_law_counts_here"] (defScope s_ulaw_goes) := ⟨rfl, rfl, rfl, by decide +kernel, rfl, by decide +kernel, by decide +kernel⟩
theorem ok_ulaw_goes (T : Txt K mg) : Ok P w K mg base 4 (He.ga K "_law_goes") ["_law_spec_here", "_law_modulus_here", "_law_counts_here"] (spLGoes K) := by
  obtain ⟨fd_ulaw_reach, F_ulaw_reach, b_ulaw_reach, k_ulaw_reach, _⟩ := (ok_ulaw_reach (P := P) (w := w) (base := base) T).ex
  obtain ⟨fd_ulaw_ranges, F_ulaw_ranges, b_ulaw_ranges, k_ulaw_ranges, _⟩ := (ok_ulaw_ranges (P := P) (w := w) (base := base) T).ex
  refine fd_ok T.f_ulaw_goes sc_ulaw_goes (fun vs H Q E h => ?_) (fun _ _ _ _ _ _ us hl => match us, hl with | [_, _, _], _ => rfl) (fun cdv A outer s H vs Q E hr h => ?_)
  · obtain ⟨s, t, a, b, c, m, L, rfl, _⟩ := h
    rfl
  · obtain ⟨s, t, a, b, c, m, L, rfl, hs, hbc, ⟨m1, m2⟩, hp, cok, q⟩ := h
    have nd := sc_ulaw_goes.nd
    refine ⟨_, (pss_cons (ps_if (pt_cmpR op_lt (pv 1) pe_int (nomark _)) (pss_one (ps_ret pe_bl)) pss_nil) (pss_one (ps_ret (pe_cmpR op_in_seq (pe_op op_sub (pv 1) pe_int) (pe_call F_ulaw_reach (hr.mono (by decide)) rfl T.g_ulaw_reach k_ulaw_reach b_ulaw_reach .nil pass0 (pa_cons (pv 1) (pa_cons (pe_call F_ulaw_ranges (hr.mono (by decide)) rfl T.g_ulaw_ranges k_ulaw_ranges b_ulaw_ranges .nil pass0 (pa_cons (pv 0) (pa_cons (pv 1) (pa_cons (pv 2) pa_nil)))) pa_nil))) rfl)))), ?_⟩
    have gn := fun x => getI_nonneg x cok.nn
    refine ⟨_, rfl, _, _, rfl, rfl, _, rfl, ?_⟩
    refine ite2 (fun hm => ?_) (fun hm => ?_)
    · have hm' : m < 3 := by have := of_decide_eq_true hm; omega
      exact q true H ⟨fun _ => reach_small m1 hm' gn, fun _ => rfl⟩ (Ext.refl H)
    · have hm' : 3 ≤ m := by
        have : ¬ (m : Int) < 3 := fun z => hm (decide_eq_true z)
        omega
      refine ⟨_, rfl, _, _, rfl, rfl, _, rfl, _, rfl, _, rfl, _, rfl, s, t, a, b, c, m, L, rfl, hs, hbc, ⟨m1, m2⟩, hp, cok, fun p H1 tri e1 => ?_⟩
      refine ⟨p, m, spansL m b c (getI L), rfl, tri, ⟨m1, m2⟩, fun z hz => ?_, fun p2 R H2 hp2 row e2 => ?_⟩
      · obtain ⟨u, hu, rfl⟩ := List.mem_map.mp hz
        obtain ⟨_, _, h3⟩ := mem_lunits (List.mem_filter.mp hu).1
        have n1 := nearR_nonneg m b (u : Int)
        have n2 := nearR_nonneg m c (u : Int)
        have := gn (u : Int)
        unfold spanU
        dsimp only
        exact ⟨h3, by omega, by omega⟩
      · refine ⟨p2, _, rfl, .inl (SqL.of hp2), rfl, flat_nats _, ?_⟩
        show Q (.bl (inV (V.int ((m : Int) - 1)) (nv R))) H2
        rw [show ((m : Int) - 1) = ((m - 1 : Nat) : Int) by omega, inV_nats]
        refine q _ H2 ?_ (e1.trans e2)
        rw [decide_eq_true_iff, row.mem]
        exact reach_skip hm' m2 (gn 1) _
/-! ### _law_prime -/
def spLPrime : Sp := fun vs H Q _ => ∃ (d : Addr) (m r : Nat) (a : Int), vs = [.ref d, .int m, .int r, .int a] ∧ MillAt H d ∧ (1 ≤ m ∧ m ≤ 12) ∧ r ≤ 12 ∧
  (∀ H', MillAt H' d → But d H H' → Q .non H') ∧ ∀ (k : Nat) H', k ∈ menuP → k % m = r → MillAt H' d → But d H H' → Q (.int k) H'
theorem sc_ulaw_prime : FnScope ["_law_mill_here", "_law_modulus_here", "_law_rest", "_law_a", "_law_menu", "_law_some", "_law_k"] ["_law_mill_here", "_law_modulus_here", "_law_rest", "_law_a"] (defScope s_ulaw_prime) := ⟨rfl, rfl, rfl, by decide +kernel, rfl, by decide +kernel, by decide +kernel⟩
theorem ok_ulaw_prime (T : Txt K mg) : Ok P w K mg base 2 (He.ga K "_law_prime") ["_law_mill_here", "_law_modulus_here", "_law_rest", "_law_a"] spLPrime := by
  obtain ⟨fd_ulaw_grain, F_ulaw_grain, b_ulaw_grain, k_ulaw_grain, _⟩ := (ok_ulaw_grain (P := P) (w := w) (base := base) T).ex
  refine fd_ok T.f_ulaw_prime sc_ulaw_prime (fun vs H Q E h => ?_) (fun _ _ _ _ _ _ us hl => match us, hl with | [_, _, _, _], _ => rfl) (fun cdv A outer s H vs Q E hr h => ?_)
  · obtain ⟨d, m, r, a, rfl, _⟩ := h
    rfl
  · obtain ⟨d, m, r, a, rfl, M, ⟨m1, m2⟩, hr', q0, q1⟩ := h
    have nd := sc_ulaw_prime.nd
    refine ⟨_, (pss_cons (ps_set (i := 4) nd rfl (Or.inl rfl) (pe_lst (pa_cons pe_int (pa_cons pe_int (pa_cons pe_int (pa_cons pe_int (pa_cons pe_int (pa_cons pe_int (pa_cons pe_int (pa_cons pe_int (pa_cons pe_int (pa_cons pe_int (pa_cons pe_int (pa_cons pe_int (pa_cons pe_int (pa_cons pe_int (pa_cons pe_int (pa_cons pe_int (pa_cons pe_int (pa_cons pe_int (pa_cons pe_int (pa_cons pe_int pa_nil)))))))))))))))))))))) (pss_cons (ps_setLc (i := 5) (own := [("_law_k", 6)]) (g := (gName 6)) rfl nd rfl rfl (sw_true rfl rfl rfl (by decide +kernel)) (pi_list (pv 4)) (blkOk_by (own := [("_law_k", 6)]) (N := ["_law_mill_here", "_law_modulus_here", "_law_rest", "_law_a", "_law_menu", "_law_some", "_law_k"]) (sc := defScope s_ulaw_prime) (by decide +kernel)) (fun _ _ _ _ _ => (pg_name (i := 6) nd rfl (Or.inl rfl))) (fun _ _ _ _ _ => (pts_one (pt_cmpR op_eq (pe_op op_mod (pe_callTy call_int1 rfl T.z_int (by decide +kernel) (pa_cons (pv 6) pa_nil)) (pv 1)) (pv 2) (nomark _)))) (fun _ _ _ _ _ => (pv 6))) (pss_one (ps_ret (pe_ifExp (pt_cmpR (op_neD (hr.units)) (pv 5) (pe_lst pa_nil) (nomark _)) (pe_ix ix_list (pv 5) (pe_call F_ulaw_grain (hr.mono (by decide)) rfl T.g_ulaw_grain k_ulaw_grain b_ulaw_grain .nil pass0 (pa_cons (pv 0) (pa_cons (pe_callB call_len_seq rfl T.z_len (by decide +kernel) (pa_cons (pv 5) pa_nil)) pa_nil))) (by intro _ _; rfl)) pe_non))))), ?_⟩
    refine ⟨by show 20 ≤ sizeLine; decide, fun mn hmn => ?_⟩
    have hm1 : upd H mn (.lst (nv menuP)) mn = some (.lst (nv menuP)) := upd_same
    have e1 := Ext.new hmn (.lst (nv menuP))
    have M1 := M.ext e1
    refine ⟨_, rfl, mn, rfl, ⟨_, SqL.of hm1⟩, fun D hD => ?_⟩
    refine lc_list (xs := nv menuP) (Cw (upd H mn (.lst (nv menuP))) (fun i => decide ((menuP.getD i 0) % m = r)) (fun i => V.int (menuP.getD i 0 : Nat)) D) ⟨hD, Ex.new hD, upd_same⟩ (fun i H6 _ p => SqL.of (p.2.1 _ _ hm1)) (fun i y H6 hy p => ?_) (fun H6 p => ?_)
    · have il : i < menuP.length := by have := (List.getElem?_eq_some_iff.mp hy).1; rwa [List.length_map] at this
      rw [nv_getD il] at hy
      cases hy
      have i20 : i < 20 := il
      refine ⟨rfl, cw_turn p (by omega) (fun H7 e Q q => ?_) (fun _ H7 e Q q => ⟨_, rfl, q H7 (Ex.refl H7)⟩)⟩
      refine ⟨_, rfl, .inl ⟨_, rfl, _, rfl, _, _, rfl, rfl, by omega, _, rfl, rfl, _, rfl, ?_⟩⟩
      have ev : decide (V.int (((menuP.getD i 0 : Nat) : Int) % (m : Int)) = V.int r) = decide ((menuP.getD i 0) % m = r) := by
        rw [← Int.natCast_emod]
        exact decide_eq_decide.mpr ⟨fun z => by injection z with z; omega, fun z => by rw [z]⟩
      show Q (decide (V.int (((menuP.getD i 0 : Nat) : Int) % (m : Int)) = V.int r)) H7
      rw [ev]
      exact q H7 (Ex.refl H7)
    · obtain ⟨p1, p2, p3⟩ := p
      have p3' : H6 D = some (.lst (nv (someL m r))) := by
        rw [p3]
        unfold given
        have hlen : (nv menuP).length = 20 := rfl
        rw [hlen, ← nv_map (fun i => menuP.getD i 0)]
        have all : ∀ m : Fin 13, ∀ r : Fin 13, ((List.range 20).filter fun i => decide (menuP.getD i 0 % m.val = r.val)).map (fun i => menuP.getD i 0) = someL m.val r.val := by decide +kernel
        rw [all ⟨m, by omega⟩ ⟨r, by omega⟩]
      have b6 : But d H H6 := (e1.trans p2).but d
      have M6 := M1.ext p2
      have nDd := mill_new M1 p1
      obtain ⟨s1, s2⟩ := some_sh ⟨m, by omega⟩ ⟨r, by omega⟩
      dsimp only at s1 s2
      refine ⟨_, rfl, by show 0 ≤ sizeLine; decide, fun z hz => ?_⟩
      have h7 : upd H6 z (.lst []) D = some (.lst (nv (someL m r))) := (Ext.new hz _) _ _ p3'
      have M7 := M6.ext (Ext.new hz (.lst []))
      have b7 : But d H (upd H6 z (.lst [])) := b6.trans ((Ext.new hz _).but d)
      refine ⟨_, _, .lst (SqL.of h7) (dp_nats _ (someL m r)), .lst (SqL.of upd_same) .nil, s1, rfl, _, rfl, ?_⟩
      rw [s2]
      generalize upd H6 z (.lst []) = H7 at h7 M7 b7 ⊢
      have hlv : (nv (someL m r)).length = (someL m r).length := List.length_map _
      cases hs : (someL m r).isEmpty with
      | true => exact iteF (q0 H7 M7 b7)
      | false =>
        have l1 : 1 ≤ (someL m r).length := by
          cases h : someL m r with
          | nil => rw [h] at hs; cases hs
          | cons x l => rw [List.length_cons]; omega
        have l2 : (someL m r).length ≤ 20 := List.length_filter_le _ _
        refine iteT ⟨_, rfl, _, rfl, _, rfl, D, _, rfl, .inl (SqL.of h7), d, _, rfl, M7, ⟨by rw [hlv]; exact l1, by rw [hlv]; exact Nat.le_trans l2 (by decide)⟩, fun k H8 hk M8 b8 => ?_⟩
        rw [hlv] at hk
        have h8 := b8 _ _ h7 nDd
        refine ⟨D, _, k, _, rfl, rfl, SqL.of h8, atI_nat (nv_getD hk), ?_⟩
        have hmem : (someL m r).getD k 0 ∈ someL m r := by
          rw [List.getD_eq_getElem?_getD, List.getElem?_eq_getElem hk]
          exact List.getElem_mem hk
        obtain ⟨g1, g2⟩ := List.mem_filter.mp hmem
        exact q1 _ H8 g1 (of_decide_eq_true g2) M8 (b7.trans b8)
end
end K81

set_option Elab.async false
set_option linter.all false
set_option maxRecDepth 100000
set_option maxHeartbeats 4000000
namespace K81
open PySem PySem.Spec PyProof.Rows L2 Bk Evl
/-! ### rows of small nats, told -/
abbrev dints (M : List Nat) : List PyData := M.map fun k : Nat => PyData.int k
theorem show_ints : ∀ M : List Nat, (∀ k ∈ M, k ≤ 1000) → PyData.showableAll (dints M) = true
  | [], _ => rfl
  | k :: M, h => by
    show (PyData.showable (.int k) && PyData.showableAll (dints M)) = true
    rw [show_ints M fun k hk => h k (List.mem_cons_of_mem _ hk)]
    have h1 := h k List.mem_cons_self
    have h2 : k.log2 ≤ k := Nat.log2_le_self k
    show (decide (((k : Int)).natAbs.log2 < 1920) && true) = true
    rw [decide_eq_true (show ((k : Int)).natAbs.log2 < 1920 by show k.log2 < 1920; omega)]
    rfl
theorem nodict_ints : ∀ M : List Nat, PyData.hasDictAll (dints M) = false
  | [] => rfl
  | k :: M => by
    show (PyData.hasDict (.int k) || PyData.hasDictAll (dints M)) = false
    rw [nodict_ints M]
    rfl
theorem depth_ints : ∀ M : List Nat, PyData.depthAll (dints M) = 0
  | [] => rfl
  | k :: M => by
    show max 0 (PyData.depthAll (dints M)) = 0
    rw [depth_ints M]
    rfl
theorem canlay_ints : ∀ M : List Nat, PyData.canLayAll0 (dints M) = true
  | [] => rfl
  | k :: M => by
    show (true && PyData.canLayAll0 (dints M)) = true
    rw [canlay_ints M]
    rfl
theorem short_ints : ∀ M : List Nat, (∀ k ∈ M, k ≤ 1000) → PyData.intsShortAll 13 (dints M) = true
  | [], _ => rfl
  | k :: M, h => by
    show (decide ((PyData.shown (.int k)).length ≤ 13) && PyData.intsShortAll 13 (dints M)) = true
    have h1 := h k List.mem_cons_self
    rw [short_ints M fun k hk => h k (List.mem_cons_of_mem _ hk), decide_eq_true (PyData.shown_int_le (by omega))]
    rfl
theorem weight_ints : ∀ M : List Nat, (∀ k ∈ M, k ≤ 1000) → PyData.weightAll (dints M) ≤ 1002 * M.length
  | [], _ => Nat.le_refl 0
  | k :: M, h => by
    have h1 := h k List.mem_cons_self
    have h2 := weight_ints M fun k hk => h k (List.mem_cons_of_mem _ hk)
    have wi : PyData.weight (.int k) ≤ 1001 := by
      show (if ((k : Int)) == 0 then 0 else ((k : Int)).natAbs.log2 + 1) ≤ 1001
      have : k.log2 ≤ k := Nat.log2_le_self k
      split
      · omega
      · show k.log2 + 1 ≤ 1001
        omega
    show PyData.weight (.int k) + 1 + PyData.weightAll (dints M) ≤ _
    rw [List.length_cons]
    omega
/-- two equal rows -/
def twice (M : List Nat) : PyData := .list [.tuple (dints M), .tuple (dints M)]
theorem twice_ok {M : List Nat} (h : ∀ k ∈ M, k ≤ 1000) (hl : M.length ≤ 100) : (twice M).showable = true ∧ (twice M).hasDict = false ∧ (twice M).depth ≤ 60 ∧ (twice M).shown.length ≤ sizeLine := by
  refine ⟨?_, ?_, ?_, PyData.shown_fits (B := 13) (by decide) (by decide) (PyData.leavesShort_of_canLay0 13 _ ?_ ?_) ?_⟩
  · show (PyData.showableAll (dints M) && (PyData.showableAll (dints M) && true)) = true
    rw [show_ints M h]
    rfl
  · show (PyData.hasDictAll (dints M) || (PyData.hasDictAll (dints M) || false)) = false
    rw [nodict_ints M]
    rfl
  · show max (PyData.depthAll (dints M) + 1) (max (PyData.depthAll (dints M) + 1) 0) + 1 ≤ 60
    rw [depth_ints]
    decide
  · show (PyData.canLayAll0 (dints M) && (PyData.canLayAll0 (dints M) && true)) = true
    rw [canlay_ints M]
    rfl
  · show (PyData.intsShortAll 13 (dints M) && (PyData.intsShortAll 13 (dints M) && true)) = true
    rw [short_ints M h]
    rfl
  · have hw := weight_ints M h
    show (PyData.weightAll (dints M) + 1 + (PyData.weightAll (dints M) + 1 + 0)) ≤ 2 ^ 20
    have e : (2 : Nat) ^ 20 = 1048576 := by decide
    omega
/-! ### the factors of the integers to 3000 are let -/
def facOkB (l : List (Nat × Nat)) : Bool := decide (l.length ≤ 8) && l.all (fun q => decide (2 ≤ q.1) && decide (q.1 ≤ 1000000) && primeB q.1 && decide (1 ≤ q.2) && decide (q.2 ≤ 40)) && decide (l.Pairwise fun a b => a.1 < b.1)
theorem facOk_3000 : ∀ n : Fin 3001, 1 ≤ n.val → facOkB (facN n.val) = true := by decide +kernel
theorem facOk_of {n : Nat} (h1 : 1 ≤ n) (h2 : n ≤ 3000) : FacOk (toI (facN n)) ∧ (toI (facN n)).length ≤ 8 ∧ ∀ q ∈ toI (facN n), q.2 ≤ 40 := by
  have h := facOk_3000 ⟨n, by omega⟩ h1
  unfold facOkB at h
  rw [Bool.and_eq_true, Bool.and_eq_true] at h
  obtain ⟨⟨l8, al⟩, asc⟩ := h
  have l8 := of_decide_eq_true l8
  have asc := of_decide_eq_true asc
  dsimp only at l8 al asc
  have one : ∀ q ∈ facN n, 2 ≤ q.1 ∧ q.1 ≤ 1000000 ∧ primeB q.1 = true ∧ 1 ≤ q.2 ∧ q.2 ≤ 40 := fun q hq => by
    have z := List.all_eq_true.mp al q hq
    rw [Bool.and_eq_true, Bool.and_eq_true, Bool.and_eq_true, Bool.and_eq_true] at z
    obtain ⟨⟨⟨⟨z1, z2⟩, z3⟩, z4⟩, z5⟩ := z
    exact ⟨of_decide_eq_true z1, of_decide_eq_true z2, z3, of_decide_eq_true z4, of_decide_eq_true z5⟩
  have len : (toI (facN n)).length = (facN n).length := List.length_map _
  refine ⟨⟨by omega, fun q hq => ?_, ?_⟩, by omega, fun q hq => ?_⟩
  · obtain ⟨y, hy, rfl⟩ := List.mem_map.mp hq
    obtain ⟨z1, z2, z3, z4, z5⟩ := one y hy
    have t : (10 : Int) ^ 30 ≥ 40 := by decide
    exact ⟨y.1, rfl, z1, z2, z3, by dsimp only; omega, by dsimp only; omega⟩
  · unfold toI
    rw [List.pairwise_map]
    exact asc.imp fun {a b} h => Int.ofNat_lt.mpr h
  · obtain ⟨y, hy, rfl⟩ := List.mem_map.mp hq
    have := (one y hy).2.2.2.2
    dsimp only
    omega
end K81

set_option Elab.async false
set_option linter.all false
set_option maxRecDepth 100000
set_option maxHeartbeats 4000000
namespace K81
/-! ### one prime more that does not divide a -/
theorem permasc_eq : ∀ {L M : Prs}, (L.Pairwise fun e f => e.1 < f.1) → (M.Pairwise fun e f => e.1 < f.1) → L.Perm M → L = M
  | [], [], _, _, _ => rfl
  | [], _ :: _, _, _, h => by have := h.length_eq; simp at this
  | _ :: _, [], _, _, h => by have := h.length_eq; simp at this
  | x :: L, y :: M, h1, h2, h => by
    rw [List.pairwise_cons] at h1 h2
    have exy : x = y := by
      have a := h.mem_iff.mp (List.mem_cons_self (a := x) (l := L))
      have b := h.mem_iff.mpr (List.mem_cons_self (a := y) (l := M))
      rcases List.mem_cons.mp a with z | z
      · exact z
      · rcases List.mem_cons.mp b with w | w
        · exact w.symm
        · have := h1.1 y w
          have := h2.1 x z
          omega
    subst exy
    rw [permasc_eq h1.2 h2.2 (List.Perm.cons_inv h)]
abbrev noK (k : Int) (l : Prs) : Prs := l.filter fun q => decide (q.1 ≠ k)
theorem noK_put (l : Prs) (k v : Int) : noK k (putI l k v) = noK k l := by
  unfold putI noK
  by_cases h : (l.any fun e => decide (e.1 = k)) = true
  · rw [if_pos h]
    clear h
    induction l with
    | nil => rfl
    | cons e l ih =>
      rw [List.map_cons]
      by_cases z : e.1 = k
      · rw [if_pos z, List.filter_cons_of_neg (by simpa using z), List.filter_cons_of_neg (by simpa using z), ih]
      · rw [if_neg z, List.filter_cons_of_pos (by simpa using z), List.filter_cons_of_pos (by simpa using z), ih]
  · rw [if_neg h, List.filter_append, List.filter_cons_of_neg (by simp), List.filter_nil, List.append_nil]
theorem big_mod {v k : Nat} (h1 : 1 ≤ v) (h2 : v < k) : ¬ v % k = 0 := by
  rw [Nat.mod_eq_of_lt h2]
  omega
theorem shStep_big {s : Nat × Nat} {q : Int × Int} {k : Nat} (hq : q.1 = k) (h1 : 1 ≤ s.1) (h2 : s.1 < k) : shStep s q = s := by
  unfold shStep
  rw [hq, show ((k : Int)).toNat = k from rfl, takeUp_stop _ _ _ _ (fun z => big_mod h1 h2 z.2)]
  simp
theorem shStep_le {s : Nat × Nat} {q : Int × Int} (h : 1 ≤ s.1 * s.2) : 1 ≤ (shStep s q).1 ∧ (shStep s q).1 ≤ s.1 * s.2 := by
  obtain ⟨h1, h2, _, _⟩ := mul_le2 (shStep_mul s q) h
  exact ⟨h1, h2⟩
theorem shGo_noK {k : Nat} : ∀ (l : Prs) (s : Nat × Nat), 1 ≤ s.1 * s.2 → s.1 * s.2 < k → (noK k l).foldl shStep s = l.foldl shStep s
  | [], _, _, _ => rfl
  | q :: l, s, h1, h2 => by
    obtain ⟨g1, g2, g3, g4⟩ := mul_le2 (v := s.1) (f := s.2) rfl h1
    by_cases z : q.1 = (k : Int)
    · rw [show noK k (q :: l) = noK k l from List.filter_cons_of_neg (by simpa using z), List.foldl_cons, shStep_big z g1 (by omega)]
      exact shGo_noK l s h1 h2
    · rw [show noK k (q :: l) = q :: noK k l from List.filter_cons_of_pos (by simpa using z), List.foldl_cons, List.foldl_cons]
      exact shGo_noK l _ (by rw [shStep_mul]; exact h1) (by rw [shStep_mul]; exact h2)
theorem shF_noK {k a : Nat} (h1 : 1 ≤ a) (h2 : a < k) (l : Prs) : shF (noK k l) a = shF l a := shGo_noK l (a, 1) (by simpa using h1) (by simpa using h2)
theorem coreStep_big {s : Prs × Nat} {q : Int × Int} {k : Nat} (hq : q.1 = k) (h1 : 1 ≤ s.2) (h2 : s.2 < k) (hp : 0 < q.2) : coreStep s q = (s.1 ++ [q], s.2) := by
  unfold coreStep
  rw [hq, show ((k : Int)).toNat = k from rfl, takeOut_stop _ _ _ (big_mod h1 h2)]
  dsimp only
  rw [if_pos (by omega)]
  congr 2
  show [((k : Int), q.2 - 0)] = [q]
  rw [← hq, Int.sub_zero]
theorem takeOut_snd {v p : Nat} (h : 1 ≤ v) : 1 ≤ (takeOut 20 v p).1 ∨ p < 2 := by
  rcases Nat.lt_or_ge p 2 with z | z
  · exact .inr z
  · exact .inl (takeOut_pos 20 v p h z)
theorem noK_append (k : Int) (a b : Prs) : noK k (a ++ b) = noK k a ++ noK k b := List.filter_append ..
theorem coreStep_noK {s : Prs × Nat} {q : Int × Int} {k : Nat} (z : ¬ q.1 = (k : Int)) : coreStep (noK k s.1, s.2) q = (noK k (coreStep s q).1, (coreStep s q).2) := by
  unfold coreStep
  dsimp only
  by_cases h : 0 < q.2 - ((takeOut 20 s.2 q.1.toNat).2 : Int)
  · rw [if_pos h, if_pos h, noK_append]
    rw [show noK (k : Int) [(q.1, q.2 - ((takeOut 20 s.2 q.1.toNat).2 : Int))] = [(q.1, q.2 - ((takeOut 20 s.2 q.1.toNat).2 : Int))] from List.filter_cons_of_pos (by simpa using z)]
  · rw [if_neg h, if_neg h]
theorem coreGo_noK {k : Nat} : ∀ (l : Prs) (s : Prs × Nat), (∀ q ∈ l, (∃ p : Nat, q.1 = p ∧ 2 ≤ p) ∧ 0 < q.2) → 1 ≤ s.2 → s.2 < k → (noK k l).foldl coreStep (noK k s.1, s.2) = (noK k (l.foldl coreStep s).1, (l.foldl coreStep s).2)
  | [], _, _, _, _ => rfl
  | q :: l, s, hl, h1, h2 => by
    obtain ⟨⟨p, p1, p2⟩, hp⟩ := hl q List.mem_cons_self
    have hl' := fun q' hq' => hl q' (List.mem_cons_of_mem q hq')
    by_cases z : q.1 = (k : Int)
    · rw [show noK k (q :: l) = noK k l from List.filter_cons_of_neg (by simpa using z), List.foldl_cons, coreStep_big z h1 h2 hp]
      have := coreGo_noK l (s.1 ++ [q], s.2) hl' h1 h2
      dsimp only at this
      rw [noK_append, show noK k [q] = [] from List.filter_cons_of_neg (by simpa using z), List.append_nil] at this
      exact this
    · rw [show noK k (q :: l) = q :: noK k l from List.filter_cons_of_pos (by simpa using z), List.foldl_cons, List.foldl_cons, coreStep_noK z]
      have e2 : (coreStep s q).2 = (takeOut 20 s.2 p).1 := by unfold coreStep; rw [p1]; rfl
      have g1 := takeOut_pos 20 s.2 p h1 p2
      have g2 := takeOut_le 20 s.2 p
      exact coreGo_noK l (coreStep s q) hl' (by rw [e2]; exact g1) (by rw [e2]; omega)
theorem coreF_noK {k s : Nat} {l : Prs} (hl : ∀ q ∈ l, (∃ p : Nat, q.1 = p ∧ 2 ≤ p) ∧ 0 < q.2) (h1 : 1 ≤ s) (h2 : s < k) : (coreF (noK k l) s).1 = noK k (coreF l s).1 :=
  congrArg (·.1) (coreGo_noK l ([], s) hl h1 h2)
/-- what stands at k stays in the core -/
theorem getI_snoc (es : Prs) (q : Int × Int) (x : Int) (h : x ∉ es.map (·.1)) : getI (es ++ [q]) x = if q.1 = x then q.2 else 0 := by
  induction es with
  | nil =>
    show getI [q] x = _
    rw [getI_cons]
    rfl
  | cons e es ih =>
    rw [List.map_cons, List.mem_cons, not_or] at h
    rw [List.cons_append, getI_cons, if_neg (fun z => h.1 z.symm), ih h.2]
theorem getI_left (es fs : Prs) (x : Int) (h : x ∈ es.map (·.1)) : getI (es ++ fs) x = getI es x := by
  induction es with
  | nil => cases h
  | cons e es ih =>
    rw [List.cons_append, getI_cons, getI_cons]
    by_cases z : e.1 = x
    · rw [if_pos z, if_pos z]
    · rw [if_neg z, if_neg z]
      rw [List.map_cons, List.mem_cons] at h
      exact ih (h.resolve_left fun w => z w.symm)
theorem getI_right (es fs : Prs) (x : Int) (h : x ∉ es.map (·.1)) : getI (es ++ fs) x = getI fs x := by
  induction es with
  | nil => rfl
  | cons e es ih =>
    rw [List.map_cons, List.mem_cons, not_or] at h
    rw [List.cons_append, getI_cons, if_neg (fun z => h.1 z.symm), ih h.2]
theorem coreGo_get {k : Nat} : ∀ (l : Prs) (s : Prs × Nat), (∀ q ∈ l, (∃ p : Nat, q.1 = p ∧ 2 ≤ p) ∧ 0 < q.2) → 1 ≤ s.2 → s.2 < k → (k : Int) ∉ s.1.map (·.1) → (l.map (·.1)).Nodup → getI (l.foldl coreStep s).1 k = getI l k
  | [], s, _, _, _, hs, _ => getI_out hs
  | q :: l, s, hl, h1, h2, hs, nd => by
    obtain ⟨⟨p, p1, p2⟩, hp⟩ := hl q List.mem_cons_self
    have hl' := fun q' hq' => hl q' (List.mem_cons_of_mem q hq')
    rw [List.map_cons, List.nodup_cons] at nd
    rw [List.foldl_cons, getI_cons]
    by_cases z : q.1 = (k : Int)
    · rw [if_pos z, coreStep_big z h1 h2 hp]
      -- nothing behind it is k
      have hk : (k : Int) ∈ (s.1 ++ [q]).map (·.1) := by rw [List.map_append]; exact List.mem_append_right _ (by simp [z])
      have keep : ∀ (l : Prs) (s : Prs × Nat), (k : Int) ∈ s.1.map (·.1) → getI (l.foldl coreStep s).1 k = getI s.1 k := fun l => by
        induction l with
        | nil => exact fun s _ => rfl
        | cons q l ih =>
          intro s hs
          rw [List.foldl_cons]
          have e : ∃ fs, (coreStep s q).1 = s.1 ++ fs := by
            unfold coreStep
            dsimp only
            split
            · exact ⟨_, rfl⟩
            · exact ⟨[], (List.append_nil _).symm⟩
          obtain ⟨fs, e⟩ := e
          rw [ih _ (by rw [e, List.map_append]; exact List.mem_append_left _ hs), e, getI_left _ _ _ hs]
      rw [keep l _ hk, getI_snoc _ _ _ hs, if_pos z]
    · rw [if_neg z]
      have e2 : (coreStep s q).2 = (takeOut 20 s.2 p).1 := by unfold coreStep; rw [p1]; rfl
      have g1 := takeOut_pos 20 s.2 p h1 p2
      have g2 := takeOut_le 20 s.2 p
      refine coreGo_get l (coreStep s q) hl' (by rw [e2]; exact g1) (by rw [e2]; omega) (fun w => ?_) nd.2
      have := (coreStep_sub s q).subset w
      rcases List.mem_append.mp this with v | v
      · exact hs v
      · simp at v
        exact z v.symm
theorem sumR_noK (m x k : Int) : ∀ l : Prs, (l.map (·.1)).Nodup → sumR m x l = sumR m x (noK k l) + (if k % m = x then getI l k else 0)
  | [], _ => by
    show (0 : Int) = 0 + if _ then (0 : Int) else 0
    split <;> rfl
  | q :: l, nd => by
    rw [List.map_cons, List.nodup_cons] at nd
    have ih := sumR_noK m x k l nd.2
    rw [getI_cons]
    by_cases z : q.1 = k
    · rw [show noK k (q :: l) = noK k l from List.filter_cons_of_neg (by simpa using z), if_pos z]
      have h0 : getI l k = 0 := getI_out fun w => nd.1 (by rw [z]; exact w)
      show (if q.1 % m = x then q.2 else 0) + sumR m x l = _
      rw [ih, h0, z]
      split <;> omega
    · rw [show noK k (q :: l) = q :: noK k l from List.filter_cons_of_pos (by simpa using z), if_neg z]
      show (if q.1 % m = x then q.2 else 0) + sumR m x l = (if q.1 % m = x then q.2 else 0) + sumR m x (noK k l) + _
      rw [ih]
      omega
theorem FacOk.pos {l : Prs} (f : FacOk l) : ∀ q ∈ l, (∃ p : Nat, q.1 = p ∧ 2 ≤ p) ∧ 0 < q.2 := fun q hq => by
  obtain ⟨p, p1, p2, _, _, p5, _⟩ := f.one q hq
  exact ⟨⟨p, p1, p2⟩, by omega⟩
/-- times a prime above a -/
theorem times_prime {l L : Prs} {a k : Nat} (fl : FacOk l) (fL : FacOk L) (a1 : 1 ≤ a) (hk : a < k) (perm : L.Perm (timesI l [((k : Int), 1)])) :
    modF L a = modF l a ∧ ∀ m x : Int, sumR m x (clF L a) = sumR m x (clF l a) + (if (k : Int) % m = x then 1 else 0) := by
  have et : timesI l [((k : Int), 1)] = putI l k (getI l k + 1) := rfl
  rw [et] at perm
  have hno : noK k L = noK k l := by
    have p2 : (noK k L).Perm (noK k l) := by
      have := perm.filter (fun q => decide (q.1 ≠ (k : Int)))
      rw [show List.filter (fun q : Int × Int => decide (q.1 ≠ (k : Int))) (putI l k (getI l k + 1)) = noK k l from noK_put l k _] at this
      exact this
    exact permasc_eq (List.Pairwise.filter _ fL.asc) (List.Pairwise.filter _ fl.asc) p2
  have hsh : shF L a = shF l a := by rw [← shF_noK a1 hk L, ← shF_noK a1 hk l, hno]
  refine ⟨by unfold modF; rw [hsh], fun m x => ?_⟩
  obtain ⟨_, _, s1, s2⟩ := mul_le2 (shF_mul l a) a1
  unfold clF
  rw [hsh]
  generalize (shF l a).2 = s at s1 s2
  have c1 := coreF_noK (k := k) fL.pos s1 (by omega)
  have c2 := coreF_noK (k := k) fl.pos s1 (by omega)
  have g1 : getI (coreF L s).1 k = getI L k := coreGo_get L ([], s) fL.pos s1 (by show s < k; omega) (by simp) fL.nd
  have g2 : getI (coreF l s).1 k = getI l k := coreGo_get l ([], s) fl.pos s1 (by show s < k; omega) (by simp) fl.nd
  have n1 := nodup_asc (coreF_asc (s := s) fL.asc)
  have n2 := nodup_asc (coreF_asc (s := s) fl.asc)
  have g3 : getI L k = getI l k + 1 := by
    rw [getI_perm perm (nodup_put fl.nd), getI_put, if_pos rfl]
  rw [sumR_noK m x k _ n1, sumR_noK m x k _ n2, ← c1, ← c2, hno, g1, g2, g3]
  split <;> omega
theorem cnt_times {l L : Prs} {a k m : Nat} (fl : FacOk l) (fL : FacOk L) (a1 : 1 ≤ a) (hk : a < k) (perm : L.Perm (timesI l [((k : Int), 1)])) (hm : 2 < m) (x : Int) :
    cntR m (clF L a) x = plusOne (cntR m (clF l a)) (k % m) x := by
  have h := (times_prime fl fL a1 hk perm).2 m x
  have e : (k : Int) % (m : Int) = ((k % m : Nat) : Int) := (Int.natCast_emod k m).symm
  unfold plusOne cntR
  rw [h, e]
  by_cases h1 : 1 < x
  · have h2 : 2 < (m : Int) ∧ 1 < x := ⟨by omega, h1⟩
    by_cases z : ((k % m : Nat) : Int) = x
    · rw [if_pos h2, if_pos h2, if_pos z, if_pos ⟨by omega, z.symm⟩]
    · rw [if_pos h2, if_pos h2, if_neg z, if_neg (fun w => z w.2.symm)]
  · rw [if_neg (fun w => h1 w.2), if_neg (fun w => h1 w.2), if_neg (fun w => h1 (by omega))]
    rfl
theorem getI_le {B : Int} (hB : 0 ≤ B) : ∀ {L : Prs} (x : Int), (∀ e ∈ L, e.2 ≤ B) → getI L x ≤ B
  | [], x, _ => hB
  | e :: L, x, h => by
    rw [getI_cons]
    split
    · exact h e List.mem_cons_self
    · exact getI_le hB x fun e' he' => h e' (List.mem_cons_of_mem _ he')
theorem menuP_ok : ∀ k ∈ menuP, 12 < k ∧ k ≤ 1000000 ∧ primeB k = true := by decide +kernel
theorem facOk_menu {k : Nat} (h : k ∈ menuP) : FacOk [((k : Int), 1)] := by
  obtain ⟨h1, h2, h3⟩ := menuP_ok k h
  have t : (1 : Int) ≤ 10 ^ 30 := by decide
  refine ⟨by simp, fun q hq => ?_, List.pairwise_singleton _ _⟩
  rw [List.mem_singleton.mp hq]
  exact ⟨k, rfl, by omega, h2, h3, Int.le_refl 1, t⟩
end K81

set_option Elab.async false
set_option linter.all false
set_option maxRecDepth 100000
set_option maxHeartbeats 4000000
namespace K81
open PySem PySem.Spec PyProof.Rows L2 Bk Evl
section
variable {P : Program} {w : World} {K : PySem.W.Frag} {mg : Str → Option Value} {base : Heap}
/-! ### what stays while the mill is turned -/
theorem mill_calm {H H' : Hp} {d x : Addr} {o : HO} (M : MillAt H d) (k : But d H H') (h : H x = some o) (c : ∀ xs, o ≠ .lst xs) : H' x = some o := k _ _ h (mill_ne M h c)
theorem sqt_mill {H H' : Hp} {d a : Addr} {xs : List V} (h : SqT K H a xs) (M : MillAt H d) (k : But d H H') : SqT K H' a xs := by
  rcases h with (h | ⟨u, h⟩) | h
  · exact .inl (.inl (mill_calm M k h (by intro _ z; cases z)))
  · exact .inl (.inr ⟨u, mill_calm M k h (by intro _ z; cases z)⟩)
  · exact .inr h
theorem PairsAt.mill {H H' : Hp} {d t : Addr} {l : Prs} (p : PairsAt K H t l) (M : MillAt H d) (k : But d H H') : PairsAt K H' t l := by
  obtain ⟨ps, h1, h2⟩ := p
  exact ⟨ps, h1.mono fun o u e => mill_calm M k e (by intro _ z; cases z), L2.Paired.mapP h2 fun _ _ z => sqt_mill z M k⟩
theorem NumAt.mill {H H' : Hp} {d n : Addr} {l : Prs} {v : V} (N : NumAt K H n l v) (M : MillAt H d) (k : But d H H') : NumAt K H' n l v := by
  obtain ⟨dn, t, h1, h2⟩ := N.ex
  exact ⟨dn, t, mill_calm M k h1 (by intro _ z; cases z), h2.mill M k⟩
theorem RuleAt.mill {H H' : Hp} {d r : Addr} {a b c : Nat} (R : RuleAt K H r a b c) (M : MillAt H d) (k : But d H H') : RuleAt K H' r a b c := by
  obtain ⟨dx, m, h1, h2⟩ := R.ex
  exact ⟨dx, m, mill_calm M k h1 (by intro _ z; cases z), mill_calm M k h2 (by intro _ z; cases z)⟩
theorem but_ext {H H1 H2 : Hp} {d : Addr} (b : But d H H1) (e : Ext H1 H2) : But d H H2 := fun x o z ne => e _ _ (b _ _ z ne)
/-- a case: the mill, a rule's text, the rule, factors -/
structure Case (K : PySem.W.Frag) (H0 H : Hp) (d s r : Addr) (a b c : Nat) : Prop where
  mill : MillAt H d
  spec : SqT K H s [.int a, .int b, .int c]
  rule : RuleAt K H r a b c
  ok : okRule a b c
  but : But d H0 H
theorem Case.ext {H0 H H' : Hp} {d s r : Addr} {a b c : Nat} (C : Case K H0 H d s r a b c) (e : Ext H H') : Case K H0 H' d s r a b c :=
  ⟨C.mill.ext e, sqt_ext C.spec e, C.rule.ext e, C.ok, but_ext C.but e⟩
theorem Case.draw {H0 H H' : Hp} {d s r : Addr} {a b c : Nat} (C : Case K H0 H d s r a b c) (M : MillAt H' d) (k : But d H H') : Case K H0 H' d s r a b c :=
  ⟨M, sqt_mill C.spec C.mill k, C.rule.mill C.mill k, C.ok, C.but.trans k⟩
/-- the numbers of a case -/
structure FacB (l : Prs) : Prop where
  ok : FacOk l
  len : l.length ≤ 8
  top : ∀ q ∈ l, q.2 ≤ 10 ^ 30 - 10 ^ 4
/-- what must be told -/
def DueOf (a b c : Nat) (l : Prs) (D : List Nat) : Prop :=
  D.Pairwise (· < ·) ∧ (∀ u ∈ D, u < 13) ∧ (2 < modF l a → ∀ u, u ∈ D ↔ u ∈ lunits (modF l a) ∧ reachP (modF l a) (spansU (modF l a) b c (plusOne (cntR (modF l a) (clF l a)) u)) (modF l a - 1)) ∧ (modF l a = 1 → D = [0]) ∧ (modF l a = 2 → D = [1])
theorem plus_nn {m u : Nat} {cl : Prs} (h : ∀ e ∈ cl, 0 ≤ e.2) (x : Int) : 0 ≤ plusOne (cntR m cl) u x := by
  unfold plusOne cntR
  have := sumR_nonneg (m := m) (x := x) h
  split <;> split <;> omega
/-- told by the program, due by the law: the same row -/
theorem due_eq {a b c : Nat} {l : Prs} {D M : List Nat} (ok : okRule a b c) (fo : FacOk l) (hD : DueOf a b c l D) (asc : M.Pairwise (· < ·))
    (hM : ∀ u, u ∈ M ↔ u ∈ unitsL (modF l a) ∧ reachP (modF l a) (spansU (modF l a) b c (plusOne (cntR (modF l a) (clF l a)) u)) (modF l a - 1)) : M = D := by
  obtain ⟨⟨a1, a2⟩, _, _⟩ := ok
  obtain ⟨m1, m2⟩ := modF_bd (l := l) (show 1 ≤ a by omega)
  obtain ⟨d1, _, d2, d3, d4⟩ := hD
  have nn : ∀ (u : Nat) (x : Int), 0 ≤ plusOne (cntR (modF l a) (clF l a)) u x := fun u => plus_nn (m := modF l a) (u := u) (cl := clF l a) (fun e he => Int.le_of_lt (coreF_pos _ _ e he))
  refine asc_ext asc d1 fun u => ?_
  rw [hM]
  by_cases h : 2 < modF l a
  · rw [d2 h, lunits_of (by omega) (by omega)]
  · by_cases h1 : modF l a = 1
    · rw [d3 h1]
      have := reach_small (b := b) (c := c) (g := plusOne (cntR (modF l a) (clF l a)) u) m1 (by omega) (fun x => nn u x)
      constructor
      · rintro ⟨h2, _⟩
        have := (mem_unitsL.mp h2).1
        rw [List.mem_singleton]
        omega
      · intro h2
        have h3 := List.mem_singleton.mp h2
        subst h3
        exact ⟨by rw [h1]; decide, this⟩
    · have h2 : modF l a = 2 := by omega
      rw [d4 h2]
      have := reach_small (b := b) (c := c) (g := plusOne (cntR (modF l a) (clF l a)) u) m1 (by omega) (fun x => nn u x)
      constructor
      · rintro ⟨h3, _⟩
        rw [h2] at h3
        have h4 : unitsL 2 = [1] := by decide
        rwa [h4] at h3
      · intro h3
        refine ⟨?_, this⟩
        rw [h2]
        have h4 : unitsL 2 = [1] := by decide
        rwa [h4]
theorem due_first {a b c : Nat} {l : Prs} {D : List Nat} (h2 : ¬ 2 < modF l a) (a1 : 1 ≤ a) (h : D = if modF l a = 1 then [0] else [1]) : DueOf a b c l D := by
  have m1 := (modF_bd (l := l) a1).1
  by_cases z : modF l a = 1
  · rw [if_pos z] at h
    subst h
    exact ⟨by simp, by decide, fun w => absurd w h2, fun _ => rfl, fun w => by omega⟩
  · rw [if_neg z] at h
    subst h
    exact ⟨by simp, by decide, fun w => absurd w h2, fun w => absurd w z, fun _ => rfl⟩
def spRight (K : PySem.W.Frag) : Sp := fun vs H Q _ => ∃ d : Addr, vs = [.ref d] ∧ MillAt H d ∧ ∀ H', MillAt H' d → But d H H' → Q (.bl true) H'
theorem sc_ulaw_right : FnScope ["_law_mill_here", "_law_turn", "_law_spec_here", "_law_mine", "_law_factors_here", "_law_some", "_law_modulus_here", "_law_core_here", "_law_due", "_law_counts_here", "_law_rest", "_law_more", "_law_wider", "_law_told", "_law_k"] ["_law_mill_here"] (defScope s_ulaw_right) := ⟨rfl, rfl, rfl, by decide +kernel, rfl, by decide +kernel, by decide +kernel⟩
theorem ok_ulaw_right (T : Txt K mg) : OkG P w K mg base 9 (He.ga K "_law_right") ["_law_mill_here"] (spRight K) := by
  obtain ⟨fd_ulaw_spec, F_ulaw_spec, b_ulaw_spec, k_ulaw_spec, _⟩ := (ok_ulaw_spec (P := P) (w := w) (base := base) T).ex
  obtain ⟨fd_ulaw_split, F_ulaw_split, b_ulaw_split, k_ulaw_split, _⟩ := (ok_ulaw_split (P := P) (w := w) (base := base) T).ex
  obtain ⟨fd_ulaw_grain, F_ulaw_grain, b_ulaw_grain, k_ulaw_grain, _⟩ := (ok_ulaw_grain (P := P) (w := w) (base := base) T).ex
  obtain ⟨fd_ulaw_made, F_ulaw_made, b_ulaw_made, k_ulaw_made, _⟩ := (ok_ulaw_made (P := P) (w := w) (base := base) T).ex
  obtain ⟨fd_ulaw_great, F_ulaw_great, b_ulaw_great, k_ulaw_great, _⟩ := (ok_ulaw_great (P := P) (w := w) (base := base) T).ex
  obtain ⟨fd_Number_init, F_Number_init, b_Number_init, k_Number_init, _⟩ := (ok_Number_init (P := P) (w := w) (base := base) T).ex
  obtain ⟨fd_ulaw_core, F_ulaw_core, b_ulaw_core, k_ulaw_core, _⟩ := (ok_ulaw_core (P := P) (w := w) (base := base) T).ex
  obtain ⟨fd_ulaw_counts, F_ulaw_counts, b_ulaw_counts, k_ulaw_counts, _⟩ := (ok_ulaw_counts (P := P) (w := w) (base := base) T).ex
  obtain ⟨fd_ulaw_units, F_ulaw_units, b_ulaw_units, k_ulaw_units, _⟩ := (ok_ulaw_units (P := P) (w := w) (base := base) T).ex
  obtain ⟨fd_ulaw_goes, F_ulaw_goes, b_ulaw_goes, k_ulaw_goes, _⟩ := (ok_ulaw_goes (P := P) (w := w) (base := base) T).ex
  obtain ⟨fd_helping_rests, F_helping_rests, b_helping_rests, k_helping_rests, _⟩ := (ok_helping_rests (P := P) (w := w) (base := base) T).ex
  obtain ⟨fd_ulaw_prime, F_ulaw_prime, b_ulaw_prime, k_ulaw_prime, _⟩ := (ok_ulaw_prime (P := P) (w := w) (base := base) T).ex
  obtain ⟨fd_goes, F_goes, b_goes, k_goes, _⟩ := (ok_goes (P := P) (w := w) (base := base) T).ex
  obtain ⟨fd_Number_times, F_Number_times, b_Number_times, k_Number_times, _⟩ := (ok_Number_times (P := P) (w := w) (base := base) T).ex
  refine fd_okG T.f_ulaw_right sc_ulaw_right (fun vs H Q h => ?_) (fun _ _ _ _ _ _ us hl => match us, hl with | [_], _ => rfl) (fun cdv A outer s H vs Q hr hG h => ?_)
  · obtain ⟨d, rfl, _⟩ := h
    rfl
  · obtain ⟨d, rfl, M0, q⟩ := h
    have nd := sc_ulaw_right.nd
    refine ⟨_, (pss_cons (ps_for PassesOwn.never rfl (pi_range1 rfl T.z_range (pa_cons pe_int pa_nil)) (pg_name (i := 1) nd rfl (Or.inl rfl)) (pss_cons (ps_set (i := 2) nd rfl (Or.inl rfl) (pe_call F_ulaw_spec (hr.mono (by decide)) rfl T.g_ulaw_spec k_ulaw_spec b_ulaw_spec .nil pass0 (pa_cons (pv 0) pa_nil))) (pss_cons (ps_par (i := 3) (j := 4) rfl nd rfl rfl (by decide) rfl rfl (pa_cons (pe_call F_ulaw_made (hr.mono (by decide)) rfl T.g_ulaw_made k_ulaw_made b_ulaw_made .nil pass0 (pa_cons (pv 2) pa_nil)) (pa_cons (pe_call F_ulaw_split (hr.mono (by decide)) rfl T.g_ulaw_split k_ulaw_split b_ulaw_split .nil pass0 (pa_cons (pe_op op_add pe_int (pe_call F_ulaw_grain (hr.mono (by decide)) rfl T.g_ulaw_grain k_ulaw_grain b_ulaw_grain .nil pass0 (pa_cons (pv 0) (pa_cons pe_int pa_nil)))) pa_nil)) pa_nil)) (by rfl)) (Evl.pss_cut (ps_if (pt_cmpR op_gt (pv 1) pe_int (nomark _)) (pss_one (ps_set (i := 4) nd rfl (Or.inl rfl) (pe_call F_ulaw_great (hr.mono (by decide)) rfl T.g_ulaw_great k_ulaw_great b_ulaw_great .nil pass0 (pa_cons (pv 0) (pa_cons pe_int pa_nil))))) pss_nil) (pss_cons (ps_set (i := 5) nd rfl (Or.inl rfl) (pe_make T.mk_Number F_Number_init (hr.mono (by decide)) rfl T.g_Number b_Number_init .nil pass0 (pa_cons (pv 4) pa_nil))) (pss_cons (ps_asg (pe_call F_ulaw_core (hr.mono (by decide)) rfl T.g_ulaw_core k_ulaw_core b_ulaw_core .nil pass0 (pa_cons (pv 2) (pa_cons (pv 4) pa_nil))) (pg_tup rfl (pgs_cons (pg_name (i := 6) nd rfl (Or.inl rfl)) (pgs_cons (pg_name (i := 7) nd rfl (Or.inl rfl)) pgs_nil)))) (Evl.pss_cut (ps_set (i := 8) nd rfl (Or.inl rfl) (pe_ifExp (pt_cmpR op_eq (pv 6) pe_int (nomark _)) (pe_lst (pa_cons pe_int pa_nil)) (pe_lst (pa_cons pe_int pa_nil)))) (Evl.pss_cut (ps_if (pt_cmpR op_gt (pv 6) pe_int (nomark _)) (pss_cons (ps_par (i := 8) (j := 9) rfl nd rfl rfl (by decide) rfl rfl (pa_cons (pe_lst pa_nil) (pa_cons (pe_callTy (call_dictT rfl) rfl T.z_dict (by decide +kernel) (pa_cons (pe_call F_ulaw_counts (hr.mono (by decide)) rfl T.g_ulaw_counts k_ulaw_counts b_ulaw_counts .nil pass0 (pa_cons (pv 6) (pa_cons (pv 7) pa_nil))) pa_nil)) pa_nil)) (by rfl)) (pss_one (ps_for PassesOwn.never rfl (pi_list (pe_call F_ulaw_units (hr.mono (by decide)) rfl T.g_ulaw_units k_ulaw_units b_ulaw_units .nil pass0 (pa_cons (pv 6) pa_nil))) (pg_name (i := 10) nd rfl (Or.inl rfl)) (pss_cons (ps_set (i := 11) nd rfl (Or.inr rfl) (pe_callTy (call_dictP rfl) rfl T.z_dict (by decide +kernel) (pa_cons (pe_op op_cat (LiI.pe_listItems rfl (pv 9) rfl T.z_list (by decide +kernel)) (pe_lst (pa_cons (pe_tup (pa_cons (pv 10) (pa_cons (pe_op op_add (pe_dget2 (ru hr) (pv 9) (pv 10) pe_int ⟨rfl, rfl, rfl, rfl⟩) pe_int) pa_nil))) pa_nil))) pa_nil))) (pss_cons (ps_set (i := 12) nd rfl (Or.inl rfl) (pe_tupleP rfl T.z_tuple (pe_lc (own := [("_law_k", 14)]) (g := (gName 14)) rfl nd (pi_list (pe_callB (call_sortedDI rfl) rfl T.z_sorted (by decide +kernel) (pa_cons (pv 11) pa_nil))) (blkOk_by (own := [("_law_k", 14)]) (N := ["_law_mill_here", "_law_turn", "_law_spec_here", "_law_mine", "_law_factors_here", "_law_some", "_law_modulus_here", "_law_core_here", "_law_due", "_law_counts_here", "_law_rest", "_law_more", "_law_wider", "_law_told", "_law_k"]) (sc := defScope s_ulaw_right) (by decide +kernel)) (fun _ _ _ _ _ => (pg_name (i := 14) nd rfl (Or.inl rfl))) (fun _ _ _ _ _ => (pts_one (pt_cmpR op_gt (pv 14) pe_int (nomark _)))) (fun _ _ _ _ _ => (pe_tup (pa_cons (pv 14) (pa_cons (pe_dget (ru hr) (pv 11) (pv 14) (by intro _ _; rfl)) pa_nil))))))) (pss_one (ps_if (pt_val (pe_call F_ulaw_goes (hr.mono (by decide)) rfl T.g_ulaw_goes k_ulaw_goes b_ulaw_goes .nil pass0 (pa_cons (pv 2) (pa_cons (pv 6) (pa_cons (pv 12) pa_nil))))) (pss_one (ps_expr (pe_bm PySem.F.plainAttrs_list PySem.F.slot_list_append PySem.F.type_list_append mt_append (pv 8) (pa_cons (pv 10) pa_nil)))) pss_nil))))))) pss_nil) (pss_cons (ps_set (i := 13) nd rfl (Or.inl rfl) (pe_lst (pa_cons (pe_call F_helping_rests (hr.mono (by decide)) rfl T.g_helping_rests k_helping_rests b_helping_rests .nil pass0 (pa_cons (pv 3) (pa_cons (pv 5) pa_nil))) (pa_cons (pe_callKw (ok_helping_rests_k T) (hr.mono (by decide)) rfl T.g_helping_rests (pk_cons (pv 5) (pk_cons (pv 3) pk_nil))) pa_nil)))) (pss_cons (ps_if (pt_cmpR op_ne (pe_callB (call_repr ((hr.mono (by decide)) : Room 1 _) hG) rfl T.z_repr (by decide +kernel) (pa_cons (pv 13) pa_nil)) (pe_callB (call_repr ((hr.mono (by decide)) : Room 1 _) hG) rfl T.z_repr (by decide +kernel) (pa_cons (pe_op op_rep (pe_lst (pa_cons (pe_tupleP rfl T.z_tuple (pv 8)) pa_nil)) pe_int) pa_nil)) (nomark _)) (pss_one (ps_ret pe_bl)) pss_nil) (pss_one (ps_for PassesOwn.never rfl (pi_list (pe_call F_ulaw_units (hr.mono (by decide)) rfl T.g_ulaw_units k_ulaw_units b_ulaw_units .nil pass0 (pa_cons (pv 6) pa_nil))) (pg_name (i := 10) nd rfl (Or.inl rfl)) (pss_cons (ps_set (i := 14) nd rfl (Or.inl rfl) (pe_call F_ulaw_prime (hr.mono (by decide)) rfl T.g_ulaw_prime k_ulaw_prime b_ulaw_prime .nil pass0 (pa_cons (pv 0) (pa_cons (pv 6) (pa_cons (pv 10) (pa_cons (pe_ix ix_tup (pv 2) pe_int (by intro _ _; rfl)) pa_nil)))))) (pss_one (ps_if (PW.pt (pw_and (pt_cmpR op_gt (pv 6) pe_int (nomark _)) (pw_and1 (pt_cmpR op_notN (pv 14) pe_non (nomark _))))) (pss_one (ps_if (pt_cmpR op_ne (pe_call F_goes (hr.mono (by decide)) rfl T.g_goes k_goes b_goes .nil pass0 (pa_cons (pv 3) (pa_cons (pe_meth (pv 5) T.c_Number T.m_Number_times F_Number_times (hr.mono (by decide)) b_Number_times .nil pass0 (pa_cons (pe_make T.mk_Number F_Number_init (hr.mono (by decide)) rfl T.g_Number b_Number_init .nil pass0 (pa_cons (pe_tupP (pa_cons (pe_tup (pa_cons (pv 14) (pa_cons pe_int pa_nil))) pa_nil)) pa_nil)) pa_nil)) pa_nil))) (pe_cmpR op_in_seq (pv 10) (pv 8) rfl) (nomark _)) (pss_one (ps_ret pe_bl)) pss_nil)) pss_nil))))))))))))))) (pss_one (ps_ret pe_bl))), ?_⟩
    refine ⟨6, rfl, by decide, by decide, ?_⟩
    refine for_range (lo := 0) (n := 6) (fun _ σ H' => ∃ u1 u2 u3 u4 u5 u6 u7 u8 u9 u10 u11 u12 u13 u14 : Option V, σ = [some (.ref d), u1, u2, u3, u4, u5, u6, u7, u8, u9, u10, u11, u12, u13, u14] ∧ MillAt H' d ∧ But d H H') ⟨_, _, _, _, _, _, _, _, _, _, _, _, _, _, rfl, M0, But.refl d H⟩ ?_ ?_
    rotate_left
    · rintro σ H' ⟨u1, u2, u3, u4, u5, u6, u7, u8, u9, u10, u11, u12, u13, u14, rfl, M, b⟩
      exact q H' M b
    rintro i σ H1 hi ⟨u1, u2, u3, u4, u5, u6, u7, u8, u9, u10, u11, u12, u13, u14, rfl, M1, b1⟩
    -- the rule and the factors
    refine ⟨_, rfl, d, rfl, M1, fun a b c s H2 ok hs2 hsn M2 b12 => ?_⟩
    refine ⟨_, rfl, s, a, b, c, rfl, SqT.of hs2, ok, fun r H3 R3 e23 => ?_⟩
    have C3 : Case K H H3 d s r a b c := ⟨M2.ext e23, sqt_ext (SqT.of hs2) e23, R3, ok, but_ext (b1.trans b12) e23⟩
    refine ⟨_, rfl, d, 3000, rfl, C3.mill, ⟨by decide, by decide⟩, fun k4 H4 hk4 M4 b34 => ⟨_, _, rfl, rfl, 1 + k4, ?_, ⟨by omega, by omega⟩, fun ft H5 pf _ e45 => ⟨_, _, rfl, ?_⟩⟩⟩
    · show [V.int ((1 : Int) + (k4 : Int))] = _
      rw [show (1 : Int) + (k4 : Int) = ((1 + k4 : Nat) : Int) by omega]
    have C5 := (C3.draw M4 b34).ext e45
    obtain ⟨fo1, fo2, fo3⟩ := facOk_of (n := 1 + k4) (by omega) (by omega)
    have fb5 : FacB (toI (facN (1 + k4))) := ⟨fo1, fo2, fun z hz => Int.le_trans (fo3 z hz) (by decide)⟩
    generalize toI (facN (1 + k4)) = l5 at pf fb5
    refine ⟨fun σ' H' => ∃ (ft : Addr) (l : Prs), σ' = [some (.ref d), some (.int (0 + (i : Int))), some (.ref s), some (.ref r), some (.ref ft), u5, u6, u7, u8, u9, u10, u11, u12, u13, u14] ∧ Case K H H' d s r a b c ∧ PairsAt K H' ft l ∧ FacB l, ?_, ?_⟩
    · refine ⟨_, rfl, _, _, rfl, rfl, _, rfl, ?_⟩
      refine ite2 (fun _ => ?_) (fun _ => ⟨ft, l5, rfl, C5, pf, fb5⟩)
      refine ⟨_, rfl, d, 4, rfl, C5.mill, by decide, fun l t H6 pt fo hl ht _ M6 b56 => ?_⟩
      exact ⟨t, l, rfl, C5.draw M6 b56, pt, ⟨fo, by omega, ht⟩⟩
    rintro σ' H5 ⟨ft, l, rfl, C5, pf, fb⟩
    obtain ⟨⟨a1, a2⟩, hbs, hcs⟩ := id ok
    obtain ⟨bb1, bb2, _⟩ := shareB_bd hbs
    obtain ⟨cc1, cc2, _⟩ := shareB_bd hcs
    obtain ⟨m1, m2⟩ := modF_bd (l := l) (show 1 ≤ a by omega)
    -- some = Number(factors)
    refine ⟨_, rfl, ?_⟩
    intro n dn hn hdn nn
    have e56 : Ext H5 (upd (upd H5 dn (.own n)) n (.ins (CN K) dn [])) := fun x o e => by
      rw [upd_ne (ne_of_none e hn), upd_ne (ne_of_none e hdn)]
      exact e
    refine ⟨n, ft, dn, l, rfl, upd_same, pf.ext e56, fb.ok, fun H6 hn6 k6 => ⟨rfl, ?_⟩⟩
    have e6 : Ext H5 H6 := fun x o e => k6 x o (e56 _ _ e) (ne_of_none e hn)
    have N6 : NumAt K H6 n l (valueP l) := ⟨dn, ft, hn6, pf.ext e6⟩
    have C6 := C5.ext e6
    -- modulus, core
    refine ⟨_, rfl, _, rfl, s, ft, a, b, c, a, l, rfl, C6.spec, rfl, pf.ext e6, fb.ok, ⟨by omega, a2⟩, fun p7 tc H7 hp7 pc7 _ e67 => ?_⟩
    refine ⟨p7, _, rfl, SqT.of hp7, rfl, _, _, rfl, _, _, rfl, rfl, ?_⟩
    have C7 := C6.ext e67
    have N7 := N6.ext e67
    have hmv : ∀ x : Nat, decide (V.int (modF l a : Int) = V.int (x : Int)) = decide (modF l a = x) := fun x => decide_eq_decide.mpr ⟨fun z => by injection z with z; omega, fun z => by rw [z]⟩
    -- due
    refine ⟨fun σ' H' => ∃ (dl : Addr), σ' = [some (.ref d), some (.int (0 + (i : Int))), some (.ref s), some (.ref r), some (.ref ft), some (.ref n), some (.int (modF l a)), some (.ref tc), some (.ref dl), u9, u10, u11, u12, u13, u14] ∧ H' dl = some (.lst (nv (if modF l a = 1 then [0] else [1]))) ∧ dl ≠ d ∧ Ext H7 H', ?_, ?_⟩
    · refine ⟨_, rfl, rfl, _, rfl, ?_⟩
      show if decide (V.int (modF l a : Int) = V.int ((1 : Nat) : Int)) = true then _ else _
      rw [hmv]
      refine ite2 (fun h1 => ?_) (fun h1 => ?_)
      · refine ⟨by show 1 ≤ sizeLine; decide, fun dl hdl => ⟨dl, rfl, ?_, mill_new C7.mill hdl, Ext.new hdl _⟩⟩
        rw [upd_same, if_pos (of_decide_eq_true h1)]
        rfl
      · refine ⟨by show 1 ≤ sizeLine; decide, fun dl hdl => ⟨dl, rfl, ?_, mill_new C7.mill hdl, Ext.new hdl _⟩⟩
        rw [upd_same, if_neg (fun z => h1 (decide_eq_true z))]
        rfl
    rintro σ' H8 ⟨dl0, rfl, hdl0, ndl0, e78⟩
    have C8 := C7.ext e78
    have N8 := N7.ext e78
    have pc8 := pc7.ext e78
    refine ⟨fun σ' H' => ∃ (dl : Addr) (D : List Nat) (v9 v10 v11 v12 v13 v14 : Option V), σ' = [some (.ref d), some (.int (0 + (i : Int))), some (.ref s), some (.ref r), some (.ref ft), some (.ref n), some (.int (modF l a)), some (.ref tc), some (.ref dl), v9, v10, v11, v12, v13, v14] ∧ H' dl = some (.lst (nv D)) ∧ dl ≠ d ∧ DueOf a b c l D ∧ Ext H8 H', ?_, ?_⟩
    · refine ⟨_, rfl, _, _, rfl, rfl, _, rfl, ?_⟩
      refine ite2 (fun hm2 => ?_) (fun hm2 => ⟨dl0, _, _, _, _, _, _, _, rfl, hdl0, ndl0, due_first (fun z => hm2 (decide_eq_true (by omega))) (by omega) rfl, Ext.refl _⟩)
      have hm2' : 2 < modF l a := by have := of_decide_eq_true hm2; omega
      refine ⟨by show 0 ≤ sizeLine; decide, fun nl hnl => ?_⟩
      have e89 := Ext.new hnl (.lst [])
      have nlnd := mill_new C8.mill hnl
      have hnl9 : upd H8 nl (.lst []) nl = some (.lst (nv [])) := upd_same
      generalize upd H8 nl (.lst []) = H9 at e89 hnl9 ⊢
      have clen : (clF l a).length ≤ 12 := Nat.le_trans (coreF_len _ _) fb.ok.len
      have cnn : ∀ e ∈ clF l a, 0 ≤ e.2 := fun e he => Int.le_of_lt (coreF_pos _ _ e he)
      refine ⟨_, rfl, _, rfl, modF l a, tc, _, rfl, m1, pc8.ext e89, by omega, fun t10 Lc H10 p10 g10 e910 => ?_⟩
      obtain ⟨ps10, pl10, pp10⟩ := dictOf p10
      refine ⟨t10, ps10, _, rfl, pl10, pp10, fun dc hdc => ⟨_, _, rfl, ?_⟩⟩
      rw [merge_entI (nodup_asc g10.asc)]
      have e1011 := Ext.new hdc (.dK (Lc.map entI))
      have td11 : TabAt (upd H10 dc (.dK (Lc.map entI))) dc Lc := ⟨upd_same, nodup_asc g10.asc⟩
      generalize upd H10 dc (.dK (Lc.map entI)) = H11 at e1011 td11 ⊢
      have e911 := e910.trans e1011
      have hnl11 := e911 _ _ hnl9
      have e811 := e89.trans e911
      have ndcl : dc ≠ nl := ne_of td11.1 hnl11 (by intro z; cases z)
      have Lclen : Lc.length ≤ 12 := by
        have : (Lc.map fun e => e.1.toNat).length ≤ modF l a := nodup_lt (m := modF l a) (by
          refine List.pairwise_map.mpr (g10.asc.imp_of_mem fun {e f} he hf h => ?_)
          have := (g10.bd e he).1
          have := (g10.bd f hf).1
          omega) fun y hy => by
            obtain ⟨e, he, rfl⟩ := List.mem_map.mp hy
            have := g10.bd e he
            omega
        rw [List.length_map] at this
        omega
      have Lcnn := (cntok_of g10 cnn).nn
      refine ⟨_, rfl, _, rfl, ⟨m1, by omega⟩, fun ul H12 hul0 hul e1112 => ⟨ul, rfl, ⟨_, SqL.of hul⟩, ?_⟩⟩
      have hnl12 := e1112 _ _ hnl11
      have td12 := td11.ext e1112
      have e812 := e811.trans e1112
      have nulnl : nl ≠ ul := ne_of_none hnl11 hul0
      have lul := lunits_len (modF l a)
      refine for_list (xs := nv (lunits (modF l a))) (fun j σ2 H' => ∃ (D : List Nat) (v10 v11 v12 v14 : Option V), σ2 = [some (.ref d), some (.int (0 + (i : Int))), some (.ref s), some (.ref r), some (.ref ft), some (.ref n), some (.int (modF l a)), some (.ref tc), some (.ref nl), some (.ref dc), v10, v11, v12, u13, v14] ∧ (∀ x o, H12 x = some o → x ≠ nl → H' x = some o) ∧ H' nl = some (.lst (nv D)) ∧ D.Sublist ((lunits (modF l a)).take j) ∧ ∀ u, u ∈ D ↔ u ∈ (lunits (modF l a)).take j ∧ reachP (modF l a) (spansU (modF l a) b c (plusOne (cntR (modF l a) (clF l a)) u)) (modF l a - 1))
        ⟨[], _, _, _, _, rfl, fun _ _ z _ => z, hnl12, by simp, fun u => by simp⟩ ?_ ?_ ?_
      · rintro j σ2 H' _ ⟨D, v10, v11, v12, v14, rfl, k', _⟩
        exact SqL.of (k' _ _ hul nulnl.symm)
      · rintro j x σ2 H' hx ⟨D, v10, v11, v12, v14, rfl, k', hD, hsub, hmem⟩
        obtain ⟨u, hu, rfl⟩ := nv_at hx
        have tk : (lunits (modF l a)).take (j + 1) = (lunits (modF l a)).take j ++ [u] := by rw [List.take_add_one, hu] <;> rfl
        have il := (List.getElem?_eq_some_iff.mp hu).1
        obtain ⟨u1', u2', u3'⟩ := mem_lunits (List.mem_of_getElem? hu)
        have e8' : Ext H8 H' := fun x o z => k' _ _ (e812 _ _ z) (ne_of_none z hnl)
        have td' : TabAt H' dc Lc := ⟨k' _ _ td12.1 ndcl, td12.2⟩
        -- more
        refine ⟨_, rfl, dc, _, rfl, td'.1, fun Ha pa ts ka hpa htsn hpn hpl hpr => ?_⟩
        have ea : Ext H' Ha := ka
        have tda := td'.ext ea
        refine ⟨_, rfl, _, rfl, dc, rfl, .inl ⟨_, .inl tda.1⟩, _, rfl, _, .inl ⟨Lc.map entI, Sum.inl (u : Int), .inl tda.1, rfl, rfl⟩, getI Lc u, 1, getD_entI _ _, rfl, by show 2 ≤ sizeLine; decide, fun tp htp => ⟨by show 1 ≤ sizeLine; decide, fun lp hlp => ?_⟩⟩
        have eb := ((Ext.new htp (.tup [.int u, .int (getI Lc u + 1)])).trans (Ext.new hlp (.lst [.ref tp])))
        have htpb : upd (upd Ha tp (.tup [.int u, .int (getI Lc u + 1)])) lp (.lst [.ref tp]) tp = some (.tup [.int u, .int (getI Lc u + 1)]) := (Ext.new hlp _) _ _ upd_same
        have hlpb : upd (upd Ha tp (.tup [.int u, .int (getI Lc u + 1)])) lp (.lst [.ref tp]) lp = some (.lst [.ref tp]) := upd_same
        have hplb := eb _ _ hpl
        have hprb : Paired (fun (t : Addr) (q : Key × V) => upd (upd Ha tp (.tup [.int u, .int (getI Lc u + 1)])) lp (.lst [.ref tp]) t = some (.tup [kV q.1, q.2])) ts (Lc.map entI) := L2.Paired.mapP hpr fun _ _ z => eb _ _ z
        generalize upd (upd Ha tp (.tup [.int u, .int (getI Lc u + 1)])) lp (.lst [.ref tp]) = Hb at eb htpb hlpb hplb hprb ⊢
        have tsl : ts.length ≤ 12 := by rw [hprb.length, List.length_map]; exact Lclen
        refine ⟨pa, lp, _, _, rfl, rfl, hplb, hlpb, by rw [List.length_map]; exact small_line (by show _ + 1 ≤ 1000; omega), fun cp hcp => ?_⟩
        have ec := Ext.new hcp (.lst (ts.map V.ref ++ [.ref tp]))
        refine ⟨cp, ts ++ [tp], (Lc ++ [((u : Int), getI Lc u + 1)]).map entI, rfl, SqL.of (by rw [upd_same, List.map_append]; rfl), by rw [List.map_append]; exact Paired.snoc (L2.Paired.mapP hprb fun _ _ z => SqT.of (ec _ _ z)) (SqT.of (ec _ _ htpb)), fun md hmd => ?_⟩
        have hmg : mergeK [] ((Lc ++ [((u : Int), getI Lc u + 1)]).map entI) = (putI Lc u (getI Lc u + 1)).map entI := by
          have h1 := merge_mapI (Lc ++ [((u : Int), getI Lc u + 1)]) []
          have h2 := merge_mapI Lc []
          have h3 : mergeI [] Lc = Lc := by
            have h4 : (mergeI [] Lc).map entI = Lc.map entI := by rw [← h2]; exact merge_entI (nodup_asc g10.asc)
            have inj : ∀ {a b : Int × Int}, entI a = entI b → a = b := fun {a b} z => by
              have z1 := Sum.inl.inj (congrArg Prod.fst z)
              have z2 : V.int a.2 = V.int b.2 := congrArg Prod.snd z
              injection z2 with z2
              exact Prod.ext z1 z2
            have inj2 : ∀ {A B : Prs}, A.map entI = B.map entI → A = B := fun {A} => by
              induction A with
              | nil => intro B h; cases B with
                | nil => rfl
                | cons b B => cases h
              | cons a A ih => intro B h; cases B with
                | nil => cases h
                | cons b B =>
                  rw [List.map_cons, List.map_cons] at h
                  obtain ⟨h1, h2⟩ := List.cons.inj h
                  rw [inj h1, ih h2]
            exact inj2 h4
          refine h1.trans ?_
          have h5 : mergeI [] (Lc ++ [((u : Int), getI Lc u + 1)]) = putI (mergeI [] Lc) u (getI Lc u + 1) := by unfold mergeI; rw [List.foldl_append]; rfl
          rw [h5, h3]
        rw [hmg]
        have tdm : TabAt (upd (upd Hb cp (.lst (ts.map V.ref ++ [.ref tp]))) md (.dK ((putI Lc u (getI Lc u + 1)).map entI))) md (putI Lc u (getI Lc u + 1)) := ⟨upd_same, nodup_put (nodup_asc g10.asc)⟩
        have ed : Ext H' (upd (upd Hb cp (.lst (ts.map V.ref ++ [.ref tp]))) md (.dK ((putI Lc u (getI Lc u + 1)).map entI))) := ((ea.trans eb).trans ec).trans (Ext.new hmd _)
        generalize upd (upd Hb cp (.lst (ts.map V.ref ++ [.ref tp]))) md (.dK ((putI Lc u (getI Lc u + 1)).map entI)) = Hd at ed tdm ⊢
        have eslen : (putI Lc u (getI Lc u + 1)).length ≤ 13 := Nat.le_trans (len_put _ _ _) (by omega)
        have esg : ∀ x, getI (putI Lc u (getI Lc u + 1)) x = if x = (u : Int) then getI Lc u + 1 else getI Lc x := fun x => getI_put _ _ _ _
        have esn : ∀ e ∈ putI Lc u (getI Lc u + 1), 0 ≤ e.2 := fun e he => by
          rw [← getI_mem tdm.2 he, esg]
          have g1 := getI_nonneg (u : Int) Lcnn
          have g2 := getI_nonneg e.1 Lcnn
          split <;> omega
        generalize putI Lc u (getI Lc u + 1) = es at tdm eslen esg esn ⊢
        -- wider
        refine ⟨_, rfl, md, _, es.map (·.1), rfl, .inl tdm.1, by rw [List.map_map, List.map_map]; rfl, by rw [List.length_map]; omega, fun ys p perm rise hp => ?_⟩
        have ynd : ys.Nodup := perm.nodup_iff.mpr tdm.2
        have ylen : ys.length ≤ 13 := by
          have := perm.length_eq
          rw [List.length_map] at this
          omega
        have hp1 : upd Hd p (.lst (ys.map V.int)) p = some (.lst (ys.map V.int)) := upd_same
        have tdf : TabAt (upd Hd p (.lst (ys.map V.int))) md es := tdm.ext (Ext.new hp _)
        have ef := ed.trans (Ext.new hp (.lst (ys.map V.int)))
        generalize upd Hd p (.lst (ys.map V.int)) = Hf at hp1 tdf ef ⊢
        refine ⟨p, rfl, ⟨_, SqL.of hp1⟩, fun D2 hD2 => ?_⟩
        refine lc_list (xs := ys.map V.int) (fun i H2 => Ext Hf H2 ∧ PList H2 D2 ((((ys.take i).filter fun y => decide (1 < y))).map fun y => (y, getI es y)) ∧ (((ys.take i).filter fun y => decide (1 < y))).length ≤ i) ⟨Ext.new hD2 _, ⟨[], upd_same, .nil⟩, Nat.le_refl 0⟩ (fun i H2 _ p => SqL.of (p.1 _ _ hp1)) (fun i' y0 H2 hy0 p => ?_) (fun H2 p => ?_)
        · obtain ⟨e2, pl, pll⟩ := p
          rw [List.getElem?_map] at hy0
          obtain ⟨y, hy, rfl⟩ := Option.map_eq_some_iff.mp hy0
          have tk2 : ys.take (i' + 1) = ys.take i' ++ [y] := by rw [List.take_add_one, hy] <;> rfl
          have il2 := (List.getElem?_eq_some_iff.mp hy).1
          refine ⟨rfl, _, rfl, _, _, rfl, rfl, _, rfl, ?_⟩
          by_cases h1 : 1 < y
          · rw [decide_eq_true h1]
            have hyk : y ∈ es.map (·.1) := perm.mem_iff.mp (List.mem_of_getElem? hy)
            have td2 := tdf.ext e2
            have hv : valV (es.map entI) (Sum.inl y : Key) = some (.int (getI es y)) := by
              cases z : valV (es.map entI) (Sum.inl y : Key) with
              | some x => rw [get_some z]
              | none =>
                refine (valV_not z ?_).elim
                obtain ⟨e', he', rfl⟩ := List.mem_map.mp hyk
                exact List.mem_map.mpr ⟨entI e', List.mem_map.mpr ⟨e', he', rfl⟩, rfl⟩
            refine iteT ⟨_, rfl, _, rfl, _, rfl, md, _, rfl, .inl ⟨es.map entI, Sum.inl y, .inl td2.1, rfl, hv.symm⟩, by show 2 ≤ sizeLine; decide, fun tp htp => ?_⟩
            obtain ⟨ps', g1, g2⟩ := id pl
            obtain ⟨g3, g4⟩ := pl.snoc (a := y) (b := getI es y) htp _ g1
            have nDt : D2 ≠ tp := ne_of_none g1 htp
            refine ⟨_, by rw [upd_ne nDt]; exact g1, by rw [g3, List.length_map]; exact small_lt (by omega), fun x o z => ?_, ?_, ?_⟩
            · rw [upd_ne (ne_of_none z hD2), upd_ne (ne_of_none (e2 _ _ z) htp)]
              exact e2 _ _ z
            · rw [tk2, List.filter_append, List.map_append, List.filter_cons_of_pos (by simpa using h1)]
              exact g4
            · rw [tk2, List.filter_append, List.filter_cons_of_pos (by simpa using h1), List.length_append]
              show _ + 1 ≤ i' + 1
              omega
          · rw [decide_eq_false h1]
            refine iteF ⟨e2, ?_, ?_⟩
            · rw [tk2, List.filter_append, List.filter_cons_of_neg (by simpa using h1), List.filter_nil, List.append_nil]
              exact pl
            · rw [tk2, List.filter_append, List.filter_cons_of_neg (by simpa using h1), List.filter_nil, List.append_nil]
              omega
        · obtain ⟨e2, pl, pll⟩ := p
          have hyl : (ys.map V.int).length = ys.length := List.length_map _
          rw [hyl, List.take_length] at pl
          obtain ⟨ps', g1, g2⟩ := id pl
          refine ⟨D2, _, rfl, SqL.of g1, fun tw o htw oc od => ?_⟩
          have fnd : (ys.filter fun y => decide (1 < y)).Nodup := List.Pairwise.filter _ ynd
          have pw' := pl.pairs (K := K) htw oc od _ g1
          have eg := (ef.trans e2).trans (Ext.new htw (.frz o (.tup (ps'.map V.ref))))
          generalize upd H2 tw (.frz o (.tup (ps'.map V.ref))) = Hg at pw' eg ⊢
          have e8g := e8'.trans eg
          have wok : CntOk ((ys.filter fun y => decide (1 < y)).map fun y => (y, getI es y)) := by
            refine ⟨?_, fun e he => ?_⟩
            · rw [List.pairwise_map]
              have asc : ys.Pairwise (· < ·) := (List.pairwise_and_iff.mpr ⟨rise, ynd⟩).imp fun {x y} h => by
                have h1 : x ≤ y := h.1
                have h2 : x ≠ y := h.2
                omega
              exact List.Pairwise.filter _ asc
            · obtain ⟨y, hy, rfl⟩ := List.mem_map.mp he
              exact getI_nonneg y esn
          refine ⟨_, rfl, _, rfl, _, rfl, s, tw, a, b, c, modF l a, _, rfl, (C8.ext e8g).spec, ⟨⟨bb1, bb2⟩, cc1, cc2⟩, ⟨m1, by omega⟩, pw', wok, fun g Hh hg eh => ⟨g, rfl, ?_⟩⟩
          have wg : ∀ w ∈ unitsL (modF l a), getI ((ys.filter fun y => decide (1 < y)).map fun y => (y, getI es y)) (w : Nat) = plusOne (cntR (modF l a) (clF l a)) u (w : Nat) := fun w hw => by
            have gLc : ∀ x, getI Lc x = cntR (modF l a) (clF l a) x := g10.get
            rw [getI_map_self fnd]
            unfold plusOne
            by_cases h1 : 1 < (w : Int)
            · by_cases v : (w : Int) ∈ ys
              · rw [if_pos (List.mem_filter.mpr ⟨v, decide_eq_true h1⟩), esg, gLc, gLc]
                by_cases z : (w : Int) = (u : Int)
                · rw [if_pos z, if_pos ⟨by omega, z⟩, z]
                · rw [if_neg z, if_neg (fun v => z v.2), Int.add_zero]
              · rw [if_neg (fun h : (w : Int) ∈ ys.filter (fun y => decide (1 < y)) => v (List.mem_filter.mp h).1)]
                have hz := getI_out fun h => v (perm.mem_iff.mpr h)
                rw [esg, gLc, gLc] at hz
                by_cases z : (w : Int) = (u : Int)
                · rw [if_pos z] at hz
                  rw [if_pos ⟨by omega, z⟩, z]
                  exact hz.symm
                · rw [if_neg z] at hz
                  rw [if_neg (fun v => z v.2), hz]
                  rfl
            · rw [if_neg (fun h : (w : Int) ∈ ys.filter (fun y => decide (1 < y)) => h1 (of_decide_eq_true (List.mem_filter.mp h).2))]
              unfold cntR
              rw [if_neg (fun h => h1 h.2), if_neg (fun h => h1 (by omega))]
              rfl
          rw [reach_spans_congr wg] at hg
          have k'' : ∀ x o, H12 x = some o → x ≠ nl → Hh x = some o := fun x o z ne => eh _ _ (eg _ _ (k' _ _ z ne))
          have hDh := eh _ _ (eg _ _ hD)
          cases g with
          | false =>
            refine iteF ⟨D, _, _, _, _, rfl, k'', hDh, tk ▸ hsub.trans (List.sublist_append_left _ _), fun w => ?_⟩
            rw [hmem, tk]
            constructor
            · rintro ⟨h1, h2⟩
              exact ⟨List.mem_append_left _ h1, h2⟩
            · rintro ⟨h1, h2⟩
              rcases List.mem_append.mp h1 with z | z
              · exact ⟨z, h2⟩
              · simp at z
                subst z
                exact absurd (hg.mpr h2) Bool.false_ne_true
          | true =>
            have hml : D.length ≤ 12 := Nat.le_trans hsub.length_le (by rw [List.length_take]; omega)
            refine iteT ⟨_, rfl, .inl ⟨rfl, _, SqL.of hDh⟩, _, rfl, nl, _, _, rfl, rfl, hDh, by rw [List.length_map]; exact small_lt (by omega), ?_⟩
            refine ⟨D ++ [u], _, _, _, _, rfl, fun x o z ne => by rw [upd_ne ne]; exact k'' _ _ z ne, by rw [upd_same]; exact congrArg _ (congrArg _ (nv_append D [u])), tk ▸ hsub.append (List.Sublist.refl _), fun w => ?_⟩
            rw [List.mem_append, hmem, tk, List.mem_append]
            constructor
            · rintro (⟨h1, h2⟩ | h1)
              · exact ⟨.inl h1, h2⟩
              · refine ⟨.inr h1, ?_⟩
                simp at h1
                subst h1
                exact hg.mp rfl
            · rintro ⟨h1 | h1, h2⟩
              · exact .inl ⟨h1, h2⟩
              · exact .inr h1
      · rintro σ2 H' ⟨D, v10, v11, v12, v14, rfl, k', hD, hsub, hmem⟩
        have hl2 : (nv (lunits (modF l a))).length = (lunits (modF l a)).length := List.length_map _
        rw [hl2, List.take_length] at hsub hmem
        have hal : (lunits (modF l a)).Pairwise (· < ·) := by rw [lunits_of (by omega) (by omega)]; exact unitsL_asc _
        refine ⟨nl, D, _, _, _, _, _, _, rfl, hD, nlnd, ⟨hal.sublist hsub, fun u hu => ?_, fun _ => hmem, fun z => by omega, fun z => by omega⟩, fun x o z => k' _ _ (e812 _ _ z) (ne_of_none z hnl)⟩
        have := (mem_lunits (hsub.subset hu)).2.1
        omega
    rintro σ' H9 ⟨dl, D, v9, v10, v11, v12, v13, v14, rfl, hD9, ndl, due, e89⟩
    have C9 := C8.ext e89
    have N9 := N8.ext e89
    clear C8 N8 pc8 e89 e78 hdl0
    -- told
    refine ⟨_, rfl, _, rfl, r, n, a, b, c, l, _, rfl, C9.rule, ok, N9, fb.ok, fun t1 M1' H10 ht1 as1 mem1 e1 => ?_⟩
    obtain rfl := due_eq ok fb.ok due as1 mem1
    refine ⟨_, rfl, _, rfl, rfl, r, n, a, b, c, l, _, rfl, C9.rule.ext e1, ok, N9.ext e1, fb.ok, fun t2 M2' H11 ht2 as2 mem2 e2 => ?_⟩
    obtain rfl := due_eq ok fb.ok due as2 mem2
    refine ⟨by show 2 ≤ sizeLine; decide, fun tl htl => ?_⟩
    have D13 : ∀ k ∈ M2', k ≤ 1000 := fun k hk => by have := due.2.1 k hk; omega
    have Dlen : M2'.length ≤ 13 := asc_len (a := 0) due.1 (fun x hx => ⟨Nat.zero_le _, due.2.1 x hx⟩)
    obtain ⟨q1, q2, q3, q4⟩ := twice_ok D13 (by omega)
    have e3 := Ext.new htl (.lst [.ref t1, .ref t2])
    have ht1' := sqt_ext (sqt_ext ht1 e2) e3
    have ht2' := sqt_ext ht2 e3
    have dp1 : Dp K (upd H11 tl (.lst [.ref t1, .ref t2])) (.ref tl) (twice M2') := .lst (SqL.of upd_same) (.cons (.tup ht1' (dp_nats _ M2')) (.cons (.tup ht2' (dp_nats _ M2')) .nil))
    refine ⟨_, rfl, tl, twice M2', rfl, dp1, q1, q2, q3, q4, ?_⟩
    have e9 := (e1.trans e2).trans e3
    have hD12 := e9 _ _ hD9
    generalize upd H11 tl (.lst [.ref t1, .ref t2]) = H12 at e9 hD12 ⊢
    refine ⟨_, rfl, dl, _, rfl, SqL.of hD12, fun t3 o ht3 oc od => ⟨by show 1 ≤ sizeLine; decide, fun l1 hl1 => ?_⟩⟩
    have e4 := (Ext.new ht3 (.frz o (.tup (nv M2')))).trans (Ext.new hl1 (.lst [.ref t3]))
    have ht3' : SqT K (upd (upd H12 t3 (.frz o (.tup (nv M2')))) l1 (.lst [.ref t3])) t3 (nv M2') := sqt_ext ((plt_new (K := K) (H := H12) oc od).sqt) (Ext.new hl1 _)
    have hl1' : upd (upd H12 t3 (.frz o (.tup (nv M2')))) l1 (.lst [.ref t3]) l1 = some (.lst [.ref t3]) := upd_same
    generalize upd (upd H12 t3 (.frz o (.tup (nv M2')))) l1 (.lst [.ref t3]) = H13 at e4 ht3' hl1' ⊢
    refine ⟨l1, 2, _, rfl, rfl, hl1', by decide, by decide, by show 1 * 2 ≤ sizeLine; decide, fun l2 hl2 => ?_⟩
    have e5 := Ext.new hl2 (.lst (List.replicate (2 : Int).toNat [V.ref t3]).flatten)
    have dp2 : Dp K (upd H13 l2 (.lst (List.replicate (2 : Int).toNat [V.ref t3]).flatten)) (.ref l2) (twice M2') := .lst (SqL.of upd_same) (.cons (.tup (sqt_ext ht3' e5) (dp_nats _ M2')) (.cons (.tup (sqt_ext ht3' e5) (dp_nats _ M2')) .nil))
    refine ⟨l2, twice M2', rfl, dp2, q1, q2, q3, q4, rfl, _, rfl, ?_⟩
    rw [show (!decide (V.str (twice M2').shown = V.str (twice M2').shown)) = false by rw [decide_eq_true rfl]; rfl]
    refine iteF ?_
    have e914 := (e9.trans e4).trans e5
    generalize upd H13 l2 (.lst (List.replicate (2 : Int).toNat [V.ref t3]).flatten) = H14 at e914 ⊢
    have C14 := C9.ext e914
    have N14 := N9.ext e914
    have hD14 := e914 _ _ hD9
    -- each rest with a prime
    refine ⟨_, rfl, _, rfl, ⟨m1, by omega⟩, fun ul H15 hul0 hul e1415 => ⟨ul, rfl, ⟨_, SqL.of hul⟩, ?_⟩⟩
    have C15 := C14.ext e1415
    have N15 := N14.ext e1415
    have hD15 := e1415 _ _ hD14
    have nuld := mill_new C14.mill hul0
    refine for_list (xs := nv (lunits (modF l a))) (fun j σ2 H' => ∃ (w10 w14 : Option V), σ2 = [some (.ref d), some (.int (0 + (i : Int))), some (.ref s), some (.ref r), some (.ref ft), some (.ref n), some (.int (modF l a)), some (.ref tc), some (.ref dl), v9, w10, v11, v12, some (.ref tl), w14] ∧ Case K H H' d s r a b c ∧ NumAt K H' n l (valueP l) ∧ H' dl = some (.lst (nv M2')) ∧ H' ul = some (.lst (nv (lunits (modF l a)))))
      ⟨_, _, rfl, C15, N15, hD15, hul⟩ ?_ ?_ ?_
    · rintro j σ2 H' _ ⟨w10, w14, rfl, _, _, _, hul'⟩
      exact SqL.of hul'
    · rintro j x σ2 H' hx ⟨w10, w14, rfl, C', N', hD', hul'⟩
      obtain ⟨u, hu, rfl⟩ := nv_at hx
      have hum := List.mem_of_getElem? hu
      obtain ⟨hu1, hu2, hu3⟩ := mem_lunits hum
      -- the turn's end
      have fin : ∀ (H'' : Hp) (w14 : Option V), MillAt H'' d → But d H' H'' → ∃ (w10 w14' : Option V), [some (V.ref d), some (.int (0 + (i : Int))), some (.ref s), some (.ref r), some (.ref ft), some (.ref n), some (.int (modF l a)), some (.ref tc), some (.ref dl), v9, some (.int u), v11, v12, some (.ref tl), w14] = [some (.ref d), some (.int (0 + (i : Int))), some (.ref s), some (.ref r), some (.ref ft), some (.ref n), some (.int (modF l a)), some (.ref tc), some (.ref dl), v9, w10, v11, v12, some (.ref tl), w14'] ∧ Case K H H'' d s r a b c ∧ NumAt K H'' n l (valueP l) ∧ H'' dl = some (.lst (nv M2')) ∧ H'' ul = some (.lst (nv (lunits (modF l a)))) := fun H'' w14 M b12 =>
        ⟨_, _, rfl, C'.draw M b12, N'.mill C'.mill b12, b12 _ _ hD' ndl, b12 _ _ hul' nuld⟩
      refine ⟨_, rfl, _, rfl, _, rfl, _, rfl, s, _, 0, _, rfl, rfl, C'.spec, rfl, d, modF l a, u, a, rfl, C'.mill, ⟨m1, by omega⟩, by omega, fun H'' M b12 => ?_, fun k H'' hk hkm M b12 => ?_⟩
      · refine ⟨_, rfl, _, _, rfl, rfl, _, rfl, ?_⟩
        refine ite2 (fun _ => ?_) (fun _ => fin H'' _ M b12)
        exact ⟨_, rfl, rfl, _, rfl, iteF (fin H'' _ M b12)⟩
      · refine ⟨_, rfl, _, _, rfl, rfl, _, rfl, ?_⟩
        refine ite2 (fun hm2 => ?_) (fun _ => fin H'' _ M b12)
        have hm2' : 2 < modF l a := by have := of_decide_eq_true hm2; omega
        refine ⟨_, rfl, rfl, _, rfl, iteT ?_⟩
        obtain ⟨k12, k6, kp⟩ := menuP_ok k hk
        have C'' := C'.draw M b12
        have N'' := N'.mill C'.mill b12
        have hD'' := b12 _ _ hD' ndl
        obtain ⟨dn'', tn'', hn'', _⟩ := id N''.ex
        refine ⟨_, rfl, _, rfl, n, dn'', _, rfl, hn'', rfl, _, rfl, by show 2 ≤ sizeLine; decide, fun tp htp => ⟨by show 1 ≤ sizeLine; decide, fun tt o htt oc od => ?_⟩⟩
        have e20 := (Ext.new htp (.tup [.int k, .int 1])).trans (Ext.new htt (.frz o (.tup [.ref tp])))
        have pk : PairsAt K (upd (upd H'' tp (.tup [.int k, .int 1])) tt (.frz o (.tup [.ref tp]))) tt [((k : Int), 1)] := ⟨[tp], plt_new oc od, .cons (SqT.of ((Ext.new htt _) _ _ upd_same)) .nil⟩
        generalize upd (upd H'' tp (.tup [.int k, .int 1])) tt (.frz o (.tup [.ref tp])) = H20 at e20 pk ⊢
        intro n2 dn2 hn2 hdn2 nn2
        have e21 : Ext H20 (upd (upd H20 dn2 (.own n2)) n2 (.ins (CN K) dn2 [])) := fun x o e => by
          rw [upd_ne (ne_of_none e hn2), upd_ne (ne_of_none e hdn2)]
          exact e
        have fk := facOk_menu hk
        refine ⟨n2, tt, dn2, _, rfl, upd_same, pk.ext e21, fk, fun H22 hn22 k22 => ⟨rfl, ?_⟩⟩
        have e22 : Ext H20 H22 := fun x o e => k22 x o (e21 _ _ e) (ne_of_none e hn2)
        have Nk : NumAt K H22 n2 [((k : Int), 1)] (valueP [((k : Int), 1)]) := ⟨dn2, tt, hn22, pk.ext e22⟩
        have e02 := e20.trans e22
        have hlen : (timesI l [((k : Int), 1)]).length ≤ 12 := by
          have := timesI_len [((k : Int), 1)] l
          have := fb.len
          simp only [List.length_singleton] at *
          omega
        have hmx : ∀ e ∈ timesI l [((k : Int), 1)], e.2 ≤ 10 ^ 30 := fun e he => by
          rw [← getI_mem (timesI_nodup _ l fb.ok.nd) he, timesI_get _ _ _ (by simp)]
          have g1 := getI_le (B := 10 ^ 30 - 10 ^ 4) (by decide) e.1 fb.top
          have g2 := getI_le (B := 1) (by decide) e.1 (L := [((k : Int), 1)]) (fun e he => by rw [List.mem_singleton.mp he]; exact Int.le_refl 1)
          have t : (10 : Int) ^ 30 - 10 ^ 4 + 1 ≤ 10 ^ 30 := by decide
          omega
        refine ⟨n, n2, l, _, _, _, rfl, N''.ext e02, Nk, fb.ok, fk, hlen, hmx, fun p L' H23 NL perm fL e23 => ?_⟩
        have e03 := e02.trans e23
        refine ⟨r, p, a, b, c, L', _, rfl, (C''.ext e03).rule, ok, NL, fL, fun g H24 hg e24 => ?_⟩
        have e04 := e03.trans e24
        refine ⟨_, rfl, _, rfl, dl, _, rfl, .inl (SqL.of (e04 _ _ hD'')), rfl, flat_nats _, ?_⟩
        have ha12 : a < k := by omega
        have hmod := (times_prime fb.ok fL (show 1 ≤ a by omega) ha12 perm).1
        have hsp : spansU (modF l a) b c (cntR (modF l a) (clF L' a)) = spansU (modF l a) b c (plusOne (cntR (modF l a) (clF l a)) u) := reach_spans_congr fun w _ => by rw [cnt_times fb.ok fL (show 1 ≤ a by omega) ha12 perm hm2', hkm]
        rw [hmod, hsp] at hg
        have hgd : g = decide (u ∈ M2') := by
          rw [Bool.eq_iff_iff, hg, decide_eq_true_iff, due.2.2.1 hm2']
          exact ⟨fun z => ⟨hum, z⟩, fun z => z.2⟩
        refine ⟨rfl, _, rfl, ?_⟩
        show if (!decide (V.bl g = V.bl (inV (V.int (u : Int)) (nv M2')))) = true then _ else _
        rw [inV_nats, ← hgd, decide_eq_true rfl]
        exact iteF (fin H24 _ (M.ext e04) (but_ext b12 e04))
    · rintro σ2 H' ⟨w10, w14, rfl, C', _⟩
      exact ⟨_, _, _, _, _, _, _, _, _, _, _, _, _, _, rfl, C'.mill, C'.but⟩
end
end K81

set_option Elab.async false
set_option linter.all false
set_option maxRecDepth 100000
set_option maxHeartbeats 4000000
namespace K81
open PySem PySem.Spec PyProof.Rows L2 Bk Evl
section
variable {P : Program} {w : World} {K : PySem.W.Frag} {mg : Str → Option Value} {base : Heap}
def spLaw (K : PySem.W.Frag) : Sp := fun vs H Q _ => ∃ (a : Addr) (ns : List Int), vs = [.ref a] ∧ SqL K H a (ns.map V.int) ∧ ns.length ≤ 1000 ∧ (∀ i ∈ ns, Builtin.Int.intBits i ≤ 1048576) ∧ ∀ H', Q (.bl true) H'
theorem sc_law : FnScope ["_law_cells", "_law_turn"] ["_law_cells"] (defScope s_law) := ⟨rfl, rfl, rfl, by decide +kernel, rfl, by decide +kernel, by decide +kernel⟩
theorem ok_law (T : Txt K mg) : OkG P w K mg base 10 (He.ga K "law") ["_law_cells"] (spLaw K) := by
  obtain ⟨fd_ulaw_mill, F_ulaw_mill, b_ulaw_mill, k_ulaw_mill, _⟩ := (ok_ulaw_mill (P := P) (w := w) (base := base) T).ex
  refine fd_okG T.f_law sc_law (fun vs H Q h => ?_) (fun _ _ _ _ _ _ us hl => match us, hl with | [_], _ => rfl) (fun cdv A outer s H vs Q hr hG h => ?_)
  · obtain ⟨a, ns, rfl, _⟩ := h
    rfl
  · obtain ⟨a, ns, rfl, hs, hz, hb, q⟩ := h
    have nd := sc_law.nd
    refine ⟨_, (pss_one (ps_ret (pe_callB (cr_all rfl) rfl T.z_all (by decide +kernel) (pa_cons (pe_lc (own := [("_law_turn", 1)]) (g := (gName 1)) (tt := tYes) rfl nd (pi_range1 rfl T.z_range (pa_cons pe_int pa_nil)) (blkOk_by (own := [("_law_turn", 1)]) (N := ["_law_cells", "_law_turn"]) (sc := defScope s_law) (by decide +kernel)) (fun _ _ _ _ _ => (pg_name (i := 1) nd rfl (Or.inl rfl))) (fun _ _ _ _ _ => pts_nil) (fun _ _ _ _ _ => (pe_callG (ok_ulaw_right T) (hr.mono (by decide)) hG rfl T.g_ulaw_right (pa_cons (pe_call F_ulaw_mill (hr.mono (by decide)) rfl T.g_ulaw_mill k_ulaw_mill b_ulaw_mill .nil pass0 (pa_cons (pv 0) (pa_cons (pv 1) pa_nil))) pa_nil)))) pa_nil)))), ?_⟩
    refine ⟨3, rfl, by decide, by decide, fun D hD => ?_⟩
    refine lc_range (lo := 0) (n := 3) (fun i H' => H' D = some (.lst ((List.replicate i true).map V.bl)) ∧ ∀ o, H a = some o → H' a = some o) ⟨upd_same, fun o e => Ext.new hD _ _ _ e⟩ (fun i H1 hi p => ?_) (fun H1 p => ?_)
    · obtain ⟨p1, p2⟩ := p
      refine ⟨rfl, ?_⟩
      unfold tYes
      dsimp only
      rw [if_pos rfl]
      refine ⟨_, rfl, _, rfl, a, ns, i, by rw [Int.zero_add]; rfl, sql_at hs p2, hz, hb, by omega, fun d H2 h0 M e2 => ?_⟩
      refine ⟨d, rfl, M, fun H3 M3 e3 => ?_⟩
      have nDd : D ≠ d := ne_of_none p1 h0
      have p13 := e3 _ _ (e2 _ _ p1) nDd
      refine ⟨_, p13, ?_, ?_, fun o e => ?_⟩
      · rw [List.length_map, List.length_replicate]
        exact Nat.lt_of_lt_of_le (show i < 1000 by omega) (by decide)
      · rw [upd_same, List.replicate_succ', List.map_append]
        rfl
      · have e1 := p2 o e
        rw [upd_ne (ne_of_none e hD)]
        exact e3 _ _ (e2 _ _ e1) (ne_of_none e1 h0)
    · obtain ⟨p1, p2⟩ := p
      refine ⟨D, _, rfl, SqL.of p1, ?_⟩
      have e : (List.replicate 3 true).all id = true := by simp
      rw [e]
      exact q H1
end
end K81

set_option Elab.async false
set_option linter.all false
set_option maxRecDepth 100000
set_option maxHeartbeats 0
open PySem PySem.W PySem.Calls PyProof.Rows
theorem K81.fa_eq {K : PySem.W.Frag} {mg : PySem.Str → Option PySem.Value} {fa : PySem.Addr} (T : K81.Txt K mg) (h : mg ("law" : PySem.Str) = some (.ref fa)) : He.ga K "law" = fa := by
  have z := T.g_law.symm.trans h
  injection z with z
  injection z
theorem PySem.Challenge.cw_unitpairs_k81_whole_helping_rests_holds : PySem.Challenge.rw_unitpairs_k81_whole_helping_rests.Holds := by
  w_on; o_law
  refine HandSHeadRun.head_any (r := OpenLaw.row PySem.Challenge.rw_unitpairs_k81_whole_helping_rests) (q := view (OpenLaw.row PySem.Challenge.rw_unitpairs_k81_whole_helping_rests).prog [80]) (H := K81.hk) (ob := K81.ob) (M := 20000) (loose := K81.ls) (d := HandSHeadRun.topDef (OpenLaw.row PySem.Challenge.rw_unitpairs_k81_whole_helping_rests).prog 80) (kwd := []) K81.ob_eq
    (by kernel_rfl) (fun s => by kernel_rfl) K81.run (by kernel_rfl) (by kernel_rfl) (by kernel_rfl) (by rfl) (by first | assumption | decide +kernel) (by decide +kernel) ⟨rfl, rfl, rfl, rfl, rfl, by decide +kernel⟩ ?hw ?hc
  case hw => w_witness2
  case hc =>
    refine Bk.walk_own (l := PySem.Challenge.rw_unitpairs_k81_whole_helping_rests) (n := 63) (k := 10) (x := "_law_cells") rfl (by decide) (by kernel_rfl) ⟨rfl, by decide, by decide⟩ ?F
    intro w mg fa h Y G hmg0
    obtain ⟨K, KX, c⟩ := Y
    have T := K81.Txt.of KX G c
    have hmg : mg ("law" : PySem.Str) = some (.ref fa) := by
      have e : (HandSHeadRun.topDef (OpenLaw.row PySem.Challenge.rw_unitpairs_k81_whole_helping_rests).prog 80).name = ("law" : PySem.Str) := by kernel_rfl
      rw [← e]
      exact hmg0
    have hfa : He.ga K "law" = fa := K81.fa_eq T hmg
    clear hmg hmg0
    refine ⟨K, K81.spLaw K, KX, fun H a ns hl hb hS => ⟨a, ns, rfl, hS, Nat.le_trans hl (by decide), hb, fun _ => rfl⟩, fun base _ _ => ?_⟩
    rw [← hfa]
    exact K81.ok_law T
