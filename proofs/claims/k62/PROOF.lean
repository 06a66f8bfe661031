import PyProof.Rows.All
import Wide.All
import OpenK.AllK
import Wide.FinOn
import HandS.ForMost
import HandS.Defaults
import HandS.Property
import HandS.IsInst
import HandS.HeadHook1
import HandS.HeadHook2
import HandS.HeadEnd
import PyProof.ReprRoads
import HandS.EndBits
import HandS.WideBits
import KE.GoesEnum
import KE.GoesMore
import PyProof.DictUpdate
import KE.KDictLaw
import HandS.More
import HandS.Small
import PyProof.Rows.Range3
import KE.KCallOwn
import KE.KStateDown
import HandS.Base
import HandS.Call
import HandS.Ends
import HandS.Words
import HandS.Head0
import HandS.Head1
import HandS.Head2
import PySem.Challenge.RW_unitpairs_k62_books_kept
import HandS.Evl
import HandS.StrMore
import HandS.FStr
import HandS.Codes
import HandS.DictComp
import HandS.WordsDict
import HandS.Conv
import HandS.NoneIn
import HandS.Text
import PyProof.Rows.StrMeet
import PyProof.ReprLen
import HandS.Style
set_option Elab.async false
set_option linter.all false
set_option maxRecDepth 100000
set_option maxHeartbeats 2000000
/-! Own layer 1: a def's promise in one bundle; operators that an own class defines, over the hand layer. -/
namespace Bk
open PySem PySem.Spec PyProof.Rows L2

/-- a def that keeps a promise, all its parameters given by place -/
structure Ok (P : Program) (w : World) (K : PySem.W.Frag) (mg : Str → Option Value) (base : Heap) (k : Nat) (f : Addr) (ps : List Str) (sp : Sp) : Prop where
  ex : ∃ fd, FnOk P w K mg base CX0 k f fd ps sp ∧ Binds K fd ps [] ∧ PySem.W.keepIn K (.ref f) = true ∧ PySem.W.fnIn K f = true

section
variable {P : Program} {w : World} {K : PySem.W.Frag} {mg : Str → Option Value} {base : Heap} {k : Nat} {f : Addr} {ps : List Str} {sp : Sp}
theorem Ok.mono {j : Nat} (o : Ok P w K mg base j f ps sp) (h : j ≤ k) : Ok P w K mg base k f ps sp :=
  let ⟨fd, a, b, c⟩ := o.ex
  ⟨fd, a.mono h, b, c⟩
theorem Ok.imp {sp' : Sp} (o : Ok P w K mg base k f ps sp) (h : ∀ vs H Q E, sp' vs H Q E → sp vs H Q E) : Ok P w K mg base k f ps sp' :=
  let ⟨fd, a, b, c⟩ := o.ex
  ⟨fd, a.imp h, b, c⟩
end

theorem fnIn_of {K : PySem.W.Frag} {x qual : Str} {params : Arguments} {body : List Stmt} {scope : Scope} {dvs : List V} {kws : List (Str × V)} {f : Addr} {fd : FuncData} (F : FunD K x qual params body scope dvs kws f fd) : PySem.W.fnIn K f = true := by
  obtain ⟨_, _, _, _, _, _, _, _, _, _, _, lk, _⟩ := F.ex
  unfold PySem.W.fnIn
  rw [lk]
/-- bindings of a def without defaults; h: one pattern a parameter -/
theorem fd_ok {P : Program} {w : World} {K : PySem.W.Frag} {mg : Str → Option Value} {base : Heap} {x qual : Str} {params : Arguments} {body : List Stmt} {scope : Scope} {f : Addr} {N ps : List Str} {k : Nat} {sp : Sp}
    (F : ∃ fd, FunD K x qual params body scope [] [] f fd) (S : FnScope N ps scope) (len : ∀ vs H Q E, sp vs H Q E → vs.length = ps.length)
    (hb : ∀ (kV doc pm : Value) (an : Option Addr) (cdv ct : Value) (us : List Value), us.length = ps.length → bindArgs (PySem.W.fnOf x qual params body scope .none kV doc pm an cdv ct) ⟨us, []⟩ = pure (ps.zip us))
    (hbody : ∀ (cdv : Value) (A : Around) (outer : List Env) (s : Shared) (H : Hp) (vs : List V) (Q : VK) (E : XK), Room k (A.deeper (envOfC qual scope s.heap.objs.size f cdv)) → sp vs H Q E →
      ∃ t, PSs (cxOf CX0 P w K mg base N qual scope f cdv A outer s H E).nox body t ∧ t { nx := fun _ H' => Q .non H', rt := Q } (start N vs) H) : Ok P w K mg base (k + 1) f ps sp := by
  obtain ⟨fd, F⟩ := F
  exact ⟨fd, F.ok S len fun cdv A outer s H vs Q E hr h => let ⟨t, a, b⟩ := hbody cdv A outer s H vs Q E hr h; ⟨t, a.nox, b⟩, F.bindsN hb, F.kp, fnIn_of F⟩

theorem rrf (a : Addr) : RelV (.ref a) (.ref a) := rfl
/-! ### what an own class defines for an operator -/
section
variable {X : Cx} {k : Nat} {f C : Addr} {ps : List Str} {sp : Sp}
/-- the def is run beside the body X, one unit deeper or not -/
theorem run_own {A : Around} {pins : List (Addr × Obj)} {σ : L2.St} {H : Hp} {s : Shared} {Q : VK} {E' : Value → Shared → Prop} {us : List Value} {vs : List V} (F : Ok X.prog X.w X.K X.mg X.base k f ps sp) (hr : Room k A) (ef : A.frames = X.A.frames)
    (I : L2.Inv X pins σ H s) (r : Vals vs us) (h : sp vs H Q E0) : wpAny (model X.prog X.w) A (call (.ref f) us) (EP X pins σ Q) E' s := by
  obtain ⟨fd, F, b, _⟩ := F.ex
  have hl : us.length = ps.length := by rw [← r.length]; exact F.len _ _ _ _ h
  have e0 : Env0 X.prog X.w X.K X.mg X.base A X.stack s H := by
    have z := I.env0
    exact ⟨ef.trans z.frames, z.mod, z.bs, z.bsz, z.funs, z.frf, z.hok, z.bare⟩
  have hb := b s us I.kIn (by rw [List.append_nil]; exact hl)
  rw [List.append_nil] at hb
  refine wpAny_call (codeAny_mono (F.run A X.stack s H ⟨us, []⟩ us vs Q E0 hr e0 hb r h) fun q s' hq => ?_)
  cases q with
  | error e => exact False.elim hq
  | ok fl =>
    cases fl with
    | ret u => exact I.after hq
    | next => exact False.elim hq
    | brk => exact False.elim hq
    | cont => exact False.elim hq
theorem at_ins {pins : List (Addr × Obj)} {σ : L2.St} {H : Hp} {s : Shared} {a dx : Addr} {fs : List (Str × V)} (I : L2.Inv X pins σ H s) (h : H a = some (.ins C dx fs)) : ∃ ox od, PySem.W.InstAt s.heap a ox C od := by
  obtain ⟨mA, J, _⟩ := ins_get I.hok h
  obtain ⟨od, J, _⟩ := J.look
  exact ⟨_, _, J⟩
/-- x in o, by the class's own __contains__ -/
def rInO (C : Addr) (sp : Sp) (neg : Bool) : R2 := fun x y H Q => ∃ a dx fs, y = .ref a ∧ H a = some (.ins C dx fs) ∧ sp [.ref a, x] H (fun v H' => ∃ b : Bool, v = .bl b ∧ Q (.bl (b != neg)) H') E0
theorem op_inO (m : Meth X.K C "__contains__" f) (F : Ok X.prog X.w X.K X.mg X.base k f ps sp) (hr : Room k X.A) : OpR X (compareOp .In) (rInO C sp false) := by
  intro pins s σ H x y v u Q I rx ry h
  obtain ⟨a, dx, fs, rfl, ha, h⟩ := h
  cases (show u = Value.ref a from ry)
  obtain ⟨ox, od, J⟩ := at_ins I ha
  obtain ⟨_, hF⟩ := I.fr
  refine PySem.W.in_K hF I.ok.mod.kin J m.at_ m.fn (thn (run_own F hr rfl I (.cons (rrf _) (.cons rx .nil)) h) fun r s' (z : EP X _ _ _ r s') => ?_)
  obtain ⟨w', H', I', rw', b, rfl, q⟩ := z
  cases (show r = Value.bool b from rw')
  refine wpAny_truthy_bool ⟨.bl b, H', I', rfl, ?_⟩
  rw [show (b != false) = b by cases b <;> rfl] at q
  exact q
theorem op_notInO (m : Meth X.K C "__contains__" f) (F : Ok X.prog X.w X.K X.mg X.base k f ps sp) (hr : Room k X.A) : OpR X (compareOp .NotIn) (rInO C sp true) := by
  intro pins s σ H x y v u Q I rx ry h
  obtain ⟨a, dx, fs, rfl, ha, h⟩ := h
  cases (show u = Value.ref a from ry)
  obtain ⟨ox, od, J⟩ := at_ins I ha
  obtain ⟨_, hF⟩ := I.fr
  refine PySem.W.notIn_K hF I.ok.mod.kin J m.at_ m.fn (thn (run_own F hr rfl I (.cons (rrf _) (.cons rx .nil)) h) fun r s' (z : EP X _ _ _ r s') => ?_)
  obtain ⟨w', H', I', rw', b, rfl, q⟩ := z
  cases (show r = Value.bool b from rw')
  refine wpAny_truthy_bool ⟨.bl (!b), H', I', rfl, ?_⟩
  rw [show (b != true) = !b by cases b <;> rfl] at q
  exact q
/-- o[i], by the class's own __getitem__ -/
def rIxO (C : Addr) (sp : Sp) : R2 := fun x y H Q => ∃ a dx fs, x = .ref a ∧ H a = some (.ins C dx fs) ∧ sp [.ref a, y] H Q E0
def SubOwn (b : Expr) : Prop := ∀ (x : Addr) (i : Value), subscripted b true (.ref x) i = runValue (.builtin "lifetime.subscript" ⟨[.ref x, i], []⟩)
theorem pe_ixO {a b : Expr} {ta tb : TE} {pos : Pos} (m : Meth X.K C "__getitem__" f) (F : Ok X.prog X.w X.K X.mg X.base k f ps sp) (hr : Room (k + 1) X.A) (ha : PE X a ta) (hb : PE X b tb) (hs : SubOwn b) : PE X (.Subscript a b pos) (tOp (rIxO C sp) ta tb) := by
  refine ⟨fun pins s σ H Q I h => ?_⟩
  refine Subscript_ (binT ha hb I h fun v u s2 x y H2 I2 rx ry q => ?_)
  obtain ⟨p, dx, fs, rfl, hp, q⟩ := q
  cases (show v = Value.ref p from rx)
  obtain ⟨ox, od, J⟩ := at_ins I2 hp
  obtain ⟨_, hF⟩ := I2.fr
  have hfn : PySem.W.fnIn X.K f = true := let ⟨_, _, _, _, z⟩ := F.ex; z
  exact PySem.W.sub_K hF I2.ok.mod.kin J m.at_ hfn m.fn (run_own F hr.in1 rfl I2 (.cons (rrf _) (.cons ry .nil)) q) (hs _ _)
/-- o[i] = v, by the class's own __setitem__ -/
def rSetO (C : Addr) (sp : Sp) : TSet := fun o i v H Q => ∃ a dx fs, o = .ref a ∧ H a = some (.ins C dx fs) ∧ sp [.ref a, i, v] H (fun _ H' => Q H') E0
theorem set_own (m : Meth X.K C "__setitem__" f) (ns : PySem.W.noSeq X.K C = true) (F : Ok X.prog X.w X.K X.mg X.base k f ps sp) (hr : Room k X.A) : PSet X (rSetO C sp) := by
  intro pins s σ H o i v ov iv u Q I ro ri rv h
  obtain ⟨a, dx, fs, rfl, ha, h⟩ := h
  cases (show ov = Value.ref a from ro)
  obtain ⟨ox, od, J⟩ := at_ins I ha
  obtain ⟨_, hF⟩ := I.fr
  refine PySem.W.ksp_setItem hF I.ok.mod.kin J ns m.at_ m.fn (thn (run_own F hr rfl I (.cons (rrf _) (.cons ri (.cons rv .nil))) h) fun r s' (z : EP X _ _ _ r s') => ?_)
  obtain ⟨_, H', I', _, q⟩ := z
  exact ⟨H', I', q⟩
/-- len(o), by the class's own __len__ -/
def rLenO (C : Addr) (sp : Sp) : List V → Hp → VK → Prop := fun xs H Q => ∃ a dx fs, xs = [.ref a] ∧ H a = some (.ins C dx fs) ∧ sp [.ref a] H (fun v H' => ∃ n : Int, v = .int n ∧ (0 ≤ n ∧ n < 2 ^ 63) ∧ Q (.int n) H') E0
theorem call_lenO (m : Meth X.K C "__len__" f) (F : Ok X.prog X.w X.K X.mg X.base k f ps sp) (hr : Room (k + 1) X.A) : CallR X (.builtin "len") (rLenO C sp) := by
  intro pins s σ H xs us Q I r h
  obtain ⟨a, dx, fs, rfl, ha, h⟩ := h
  obtain ⟨u, rfl, ru⟩ := vals1 r
  cases (show u = Value.ref a from ru)
  obtain ⟨ox, od, J⟩ := at_ins I ha
  obtain ⟨_, hF⟩ := I.fr
  refine PySem.W.len_K hF I.ok.mod.kin J m.at_ m.fn (thn (run_own F hr.in1 rfl I (.cons (rrf _) .nil) h) fun r s' (z : EP X _ _ _ r s') => ?_)
  obtain ⟨w', H', I', rw', n, rfl, b, q⟩ := z
  obtain ⟨t, rfl⟩ := (show ∃ t, r = Value.int n t from rw')
  exact ⟨b, .int n, H', I'.tok _, ⟨_, rfl⟩, q⟩
end
end Bk

set_option Elab.async false
set_option linter.all false
set_option maxRecDepth 100000
set_option maxHeartbeats 2000000
/-! Own layer 2: defs that are run where no repr is under way; repr of data; the law's end for such a def. -/
namespace Bk
open PySem PySem.Spec PyProof.Rows L2

/-- as Ok, promised only where no repr runs around -/
structure OkG (P : Program) (w : World) (K : PySem.W.Frag) (mg : Str → Option Value) (base : Heap) (k : Nat) (f : Addr) (ps : List Str) (sp : Sp) : Prop where
  kp : PySem.W.keepIn K (.ref f) = true
  len : ∀ vs H Q, sp vs H Q E0 → vs.length = ps.length
  go : ∀ (A : Around) (outer : List Env) (s : Shared) (H : Hp) (us : List Value) (vs : List V) (Q : VK), Room k A → A.guards = some [] → Env0 P w K mg base A outer s H → Vals vs us → sp vs H Q E0 →
    codeAny (model P w) A (.call (.ref f) ⟨us, []⟩) (CR CX0 outer P w H s Q E0) s
theorem Ok.g {P : Program} {w : World} {K : PySem.W.Frag} {mg : Str → Option Value} {base : Heap} {k : Nat} {f : Addr} {ps : List Str} {sp : Sp} (o : Ok P w K mg base k f ps sp) : OkG P w K mg base k f ps sp := by
  obtain ⟨fd, F, b, kp, _⟩ := o.ex
  refine ⟨kp, fun vs H Q h => F.len _ _ _ _ h, fun A outer s H us vs Q hr _ e0 r h => ?_⟩
  have KX : K.In s.heap := e0.mod.kin.keeps fun b o e => (e0.bs b o e).1
  have hb := b s us KX (by rw [List.append_nil, ← r.length]; exact F.len _ _ _ _ h)
  rw [List.append_nil] at hb
  exact F.run A outer s H ⟨us, []⟩ us vs Q E0 hr e0 hb r h
theorem fd_okG {P : Program} {w : World} {K : PySem.W.Frag} {mg : Str → Option Value} {base : Heap} {x qual : Str} {params : Arguments} {body : List Stmt} {scope : Scope} {f : Addr} {N ps : List Str} {k : Nat} {sp : Sp}
    (F : ∃ fd, FunD K x qual params body scope [] [] f fd) (S : FnScope N ps scope) (len : ∀ vs H Q, sp vs H Q E0 → vs.length = ps.length)
    (hb : ∀ (kV doc pm : Value) (an : Option Addr) (cdv ct : Value) (us : List Value), us.length = ps.length → bindArgs (PySem.W.fnOf x qual params body scope .none kV doc pm an cdv ct) ⟨us, []⟩ = pure (ps.zip us))
    (hbody : ∀ (cdv : Value) (A : Around) (outer : List Env) (s : Shared) (H : Hp) (vs : List V) (Q : VK), Room k (A.deeper (envOfC qual scope s.heap.objs.size f cdv)) → A.guards = some [] → sp vs H Q E0 →
      ∃ t, PSs (cxOf CX0 P w K mg base N qual scope f cdv A outer s H E0).nox body t ∧ t { nx := fun _ H' => Q .non H', rt := Q } (start N vs) H) : OkG P w K mg base (k + 1) f ps sp := by
  obtain ⟨fd, F⟩ := F
  refine ⟨F.kp, len, fun A outer s H us vs Q hr hG e0 r hsp => ?_⟩
  have hl := len _ _ _ hsp
  have bind : BindsTo s fd ⟨us, []⟩ (ps.zip us) := F.bindsA hb s us (by rw [← r.length]; exact hl)
  obtain ⟨oc, od, dV, kV, doc, pm, an, cdv, ct, osl, rfl, lk, hcd, _, _⟩ := F.ex
  have KX : K.In s.heap := e0.mod.kin.keeps fun b o e => (e0.bs b o e).1
  have lim : s.heap.NoLimit := e0.mod.nolimit.keeps fun b o e => (e0.bs b o e).1
  refine codeAny_call_function hr.depth (KX _ _ lk) rfl S.co S.gen rfl (PySem.W.codeRec_of KX hcd) (bind _ _ _ _ (wpAny_newFunctionEnv_cells S.kind (fun ⟨n, v⟩ hy => ?_) fun env he s1 x => ?_))
  · refine (S.par n (List.of_mem_zip hy).1).imp id fun q => ⟨q, PySem.W.cellsFrom_some _ _ _ (.inl q)⟩
  · subst he
    obtain ⟨t, ht, hq⟩ := hbody cdv A outer s H vs Q (hr.deeper _) hG hsp
    have I : L2.Inv (cxOf CX0 P w K mg base N qual scope f cdv A outer s H E0) [] (start N vs) H s1 := inv_start S hr.hd e0 hl r x
    refine ⟨lim.keeps x.toInCall.keep, codeAny_func (wpAny_mono (ht.nox.run [] s1 (start N vs) H _ I hq) (fun fl s' hs => ?_) fun e s' hs => hs)⟩
    cases fl with
    | ret u =>
      obtain ⟨v, _, H', J, rv, q⟩ := hs
      exact ⟨v, H', J.os, J.bare, J.base, J.hok, rv, q⟩
    | next =>
      obtain ⟨_, H', J, q⟩ := hs
      exact ⟨V.non, H', J.os, J.bare, J.base, J.hok, rfl, q⟩
    | brk => exact hs.elim fun _ z => z.elim fun _ z => z.2.elim
    | cont => exact hs.elim fun _ z => z.elim fun _ z => z.2.elim
section
variable {X : Cx} {k : Nat} {f C : Addr} {ps : List Str} {sp : Sp} {x m : Str} {p pos apos : Pos} {e o : Expr} {es : List Expr} {ta : TE} {t : TA}
theorem run_g {pins : List (Addr × Obj)} {σ : L2.St} {H : Hp} {s : Shared} {Q : VK} {us : List Value} {vs : List V} (F : OkG X.prog X.w X.K X.mg X.base k f ps sp) (hr : Room k X.A) (hG : X.A.guards = some [])
    (I : L2.Inv X pins σ H s) (r : Vals vs us) (h : sp vs H Q E0) : wpAny (model X.prog X.w) X.A (call (.ref f) us) (EP X pins σ Q) X.xe s := by
  refine wpAny_call (codeAny_mono (F.go X.A X.stack s H us vs Q hr hG I.env0 r h) fun q s' hq => ?_)
  cases q with
  | error e => exact False.elim hq
  | ok fl =>
    cases fl with
    | ret u => exact I.after hq
    | next => exact False.elim hq
    | brk => exact False.elim hq
    | cont => exact False.elim hq
/-- f(e, ..) of such a def -/
theorem pe_callG (F : OkG X.prog X.w X.K X.mg X.base k f ps sp) (hr : Room k X.A) (hG : X.A.guards = some []) (hg : Gl X x) (hm : X.mg x = some (.ref f)) (ha : PA X (e :: es) t)
    (hdb : (x == ("__debug__" : Str)) = false := by decide) (he : starEach (e :: es) X.env = (false, eval e X.env) :: starEach es X.env := by rfl) (hpl : (backTo pos (starEach es X.env)).any (·.1) = false := by rfl) :
    PE X (.Call (.Name x p) (e :: es) [] pos) (tCall sp [] E0 t) := by
  refine ⟨fun pins s σ H Q I h => wpAny_Call_Name_kw (ld_glob I hg hm ?_ hdb)⟩
  refine PySem.W.callWith_K (h₀ := X.base) I.ok.mod.kin F.kp (thn (ha.run pos pins s σ H _ I h) fun us s1 ⟨vs, H1, I1, r, q⟩ => ⟨I1.kIn, run_g F hr hG I1 r ?_⟩) he hpl
  have q2 : sp (vs ++ []) H1 Q E0 := q
  rw [List.append_nil] at q2
  exact q2
end

/-! ### repr of data -/
/-- repr(x), x None, a bool, an int, a text, or lists and tuples of these -/
def rRepr (K : PySem.W.Frag) : List V → Hp → VK → Prop := fun xs H Q => ∃ (a : Addr) (d : PyData), xs = [.ref a] ∧ Dp K H (.ref a) d ∧ d.showable = true ∧ d.hasDict = false ∧ d.depth ≤ 60 ∧ d.shown.length ≤ sizeLine ∧ Q (.str d.shown) H
theorem call_repr {X : Cx} {k : Nat} (hr : Room k X.A) (hG : X.A.guards = some []) : CallR X (.builtin "repr") (rRepr X.K) := by
  intro pins s σ H xs us Q I r h
  obtain ⟨a, d, rfl, hd, h1, h2, h3, h4, q⟩ := h
  obtain ⟨u, rfl, ru⟩ := vals1 r
  cases (show u = Value.ref a from ru)
  obtain ⟨as, R⟩ := Dp.reads I d _ _ hd ru
  refine repr_of_reads' R h1 (PyData.noDict_hsm h2) hG (by have := hr.units; omega) (fun _ _ e => e) (fun h' u tk hk => ?_) h4
  exact ⟨.str d.shown, H, I.kept (h' := h') hk, ⟨_, rfl⟩, q⟩
end Bk

set_option Elab.async false
set_option linter.all false
set_option maxRecDepth 100000
set_option maxHeartbeats 2000000
/-! Own layer 3: the end of a law whose defs ask that no repr is under way; products of very great ints. -/
namespace Bk
open PySem PySem.Spec PyProof.Rows L2

/-- the law's def, called by the outside: from an abstract heap that knows the script alone -/
theorem end_from {P : Program} {w : World} {K : PySem.W.Frag} {mg mb : Str → Option Value} {k : Nat} {fa a : Addr} {x : Str} {sp : Sp} {s1 : Shared} {vs : List Value} {ns : List Int} {H : Hp}
    (KX : K.In s1.heap) (hns : s1.heap.Ns mainGlobals mg) (hb : s1.heap.Ns builtinsNs mb) (hbb : ∀ x : Str, x ≠ "__name__" → mb x = bootBuiltins x) (lim : s1.heap.NoLimit) (hg : s1.gens = #[])
    (ha : s1.heap.get? a = some { cls := .type "list", data := .seq vs.toArray }) (hr : Room k callerA)
    (F : ∀ base : Heap, K.In base → base.Ns mainGlobals mg → OkG P w K mg base k fa [x] sp) (hO : Only H) (hok : HOk P w H s1.heap) (one : ∀ b, H b ≠ none → b = a) (hK : H a ≠ none → K.lookup a = none)
    (hsp : sp [.ref a] H (fun v _ => v = .bl true) E0) :
    codeAny (model P w) callerA (.call (.ref fa) ⟨[.ref a], []⟩) (fun r s' => r = .ok (.ret (.bool true)) ∧ OldK s1.heap s'.heap ∧ s'.os = s1.os ∧ AllBare s'.gens) s1 := by
  have none_of : ∀ b : Addr, (H b ≠ none → False) → H b = none := fun b h => by
    cases q : H b with
    | none => rfl
    | some u => exact (h (by rw [q]; simp)).elim
  -- what is no list stands in the hidden heap, too
  have ns_hid : ∀ {b : Addr} {m : Str → Option Value}, s1.heap.Ns b m → (hidT s1.heap H).Ns b m := by
    rintro b m ⟨o, es, ep, e, d, r⟩
    refine ⟨o, es, ep, hidT_get e (none_of b fun q => ?_), d, r⟩
    rw [one b q, ha] at e
    cases e
    cases (show Data.seq vs.toArray _ = Data.dict es ep from d)
  have k_hid : K.In (hidT s1.heap H) := fun b o e => hidT_get (KX b o e) (none_of b fun q => by
    have eb := one b q
    rw [eb, hK (eb ▸ q)] at e
    cases e)
  have hM : Mod K mg (hidT s1.heap H) := ⟨k_hid, ns_hid hns, ⟨mb, ns_hid hb, hbb⟩, lim.elim fun mc z => ⟨mc, ns_hid z.1, z.2⟩⟩
  have e0 : Env0 P w K mg (hidT s1.heap H) callerA [] s1 H := ⟨rfl, hM, fun b o e => of_hidT e, Nat.le_of_eq (hidT_size _ _), trivial, fun b hb => (by simp [frs] at hb), hok, .of_eq hg⟩
  refine codeAny_mono ((F _ k_hid (ns_hid hns)).go callerA [] s1 H [.ref a] [.ref a] _ hr rfl e0 (.cons (rrf a) .nil) hsp) fun r s' h => ?_
  cases r with
  | error e => exact False.elim h
  | ok fl =>
    cases fl with
    | next => exact False.elim h
    | brk => exact False.elim h
    | cont => exact False.elim h
    | ret u =>
      obtain ⟨v, H', os, bare, un, hok', rv, q⟩ := h
      rw [show v = V.bl true from q] at rv
      cases (show u = Value.bool true from rv)
      refine ⟨rfl, OldK.of_keep fun b o e => ?_, os, bare⟩
      rcases hO b with z | ⟨ob, xs, z⟩
      · exact un.keep b o e z (by simp [frs]) (by simp)
      · rw [(hok b _ z).1] at e
        cases e
        exact (hok' b _ (un.frzs b _ _ z)).1
/-- the same, whatever the script is -/
theorem end_call {P : Program} {w : World} {K : PySem.W.Frag} {mg mb : Str → Option Value} {k : Nat} {fa a : Addr} {x : Str} {sp : Sp} {s1 : Shared} {vs : List Value} {ns : List Int}
    (KX : K.In s1.heap) (hns : s1.heap.Ns mainGlobals mg) (hb : s1.heap.Ns builtinsNs mb) (hbb : ∀ x : Str, x ≠ "__name__" → mb x = bootBuiltins x) (lim : s1.heap.NoLimit) (hg : s1.gens = #[])
    (ha : s1.heap.get? a = some { cls := .type "list", data := .seq vs.toArray }) (hi : IntsAre vs ns) (hl : ns.length ≤ sizeLine) (hr : Room k callerA)
    (F : ∀ base : Heap, K.In base → base.Ns mainGlobals mg → OkG P w K mg base k fa [x] sp)
    (hsp : ∀ H : Hp, SqL K H a (ns.map V.int) → sp [.ref a] H (fun v _ => v = .bl true) E0) :
    codeAny (model P w) callerA (.call (.ref fa) ⟨[.ref a], []⟩) (fun r s' => r = .ok (.ret (.bool true)) ∧ OldK s1.heap s'.heap ∧ s'.os = s1.os ∧ AllBare s'.gens) s1 := by
  have rv := vals_ints hi
  cases hk : K.lookup a with
  | some o =>
    have e := KX a o hk
    rw [ha] at e
    cases e
    refine end_from (ns := ns) (H := fun _ => none) KX hns hb hbb lim hg ha hr F (fun _ => .inl rfl) (fun b u z => nomatch z) (fun b z => absurd rfl z) (fun z => absurd rfl z) (hsp _ (.inr ⟨_, vs.toArray, _, hk, rfl, rfl, rfl, ?_, by simpa using rv⟩))
    rw [List.size_toArray, hi.length]
    exact hl
  | none =>
    let o1 : Obj := { cls := .type "list", data := .seq vs.toArray }
    refine end_from (ns := ns) (H := upd (fun _ => none) a (.frz o1 (.lst (ns.map V.int)))) KX hns hb hbb lim hg ha hr F (fun b => ?_) (fun b u z => ?_) (fun b z => ?_) (fun _ => hk) (hsp _ (.inl (.inr ⟨o1, upd_same⟩)))
    · by_cases e : b = a
      · exact .inr ⟨o1, _, by rw [e]; exact upd_same⟩
      · exact .inl (upd_ne e)
    · by_cases e : b = a
      · subst e
        rw [upd_same] at z
        cases z
        exact ⟨ha, by rw [List.length_map]; exact hl, vs, _, rv, ha⟩
      · rw [upd_ne e] at z
        cases z
    · by_cases e : b = a
      · exact e
      · exact absurd (upd_ne e) z
/-- a law's end: F gives what the top has left, the promise, the def over every base -/
theorem walk_own {l : PySem.W.OpenLaw} {n k : Nat} {q : Program} {loose : List Str} {XP : (Str → Option Value) → Heap → Prop} {YP : World → Heap → Prop} {d : DefRec} {x : Str}
    (hn : l.most = some n) (hn2 : n ≤ sizeLine) (hdf : d.params.defaults = []) (hr : Room k callerA)
    (F : ∀ (w : World) (mg : Str → Option Value) (fa : Addr) (h : Heap), YP w h → h.Ns mainGlobals mg → mg d.name = some (.ref fa) → ∃ (K : PySem.W.Frag) (sp : Sp), K.In h ∧
      (∀ (H : Hp) (a : Addr) (ns : List Int), ns.length ≤ n → (∀ i ∈ ns, Builtin.Int.intBits i ≤ 1048576) → SqL K H a (ns.map V.int) → sp [.ref a] H (fun v _ => v = .bl true) E0) ∧
      ∀ base : Heap, K.In base → base.Ns mainGlobals mg → OkG l.prog w K mg base k fa [x] sp) :
    PySem.W.WalkO q loose XP YP l.row.toRowW d [] (fun f vs => PySem.call f vs) := by
  refine Att.attach_callB hn hdf fun w s0 s1 mg mb fa o pm cd doc a vs ns G Y ho hd hcd hmg hobj hints hlen hbits hg => ?_
  obtain ⟨K, sp, KX, hsp, hF⟩ := F w mg fa _ Y G.T.g hmg
  exact end_call KX G.T.g G.T.b G.T.builtins G.T.nolimit hg hobj hints (Nat.le_trans hlen hn2) hr hF fun H hS => hsp H a ns hlen hbits hS

/-! ### products of ints of some million bits -/
def CMulX (i j : Int) : Prop := i.natAbs.log2 + j.natAbs.log2 < 100000000
theorem CMulX.ok {i j : Int} (h : CMulX i j) : IntMulOk i j := by
  have b : ∀ x : Int, Builtin.Int.intBits x ≤ x.natAbs.log2 + 1 := fun x => by
    unfold Builtin.Int.intBits
    split <;> omega
  have h1 := b i
  have h2 := b j
  have h3 : i.natAbs.log2 + j.natAbs.log2 < 100000000 := h
  have e : bitsLine = 134217728 := by decide
  unfold IntMulOk
  intro z
  have z2 := of_decide_eq_true (Bool.and_eq_true_iff.mp z).2
  rw [e] at z2
  omega
theorem op_mulX {X : Cx} : OpR X (binaryOp .Mult) (rI CMulX fun i j => .int (i * j)) := opI fun _ _ _ _ _ _ _ hc q => mul_int q hc.ok
theorem mulX {i j : Int} {a b : Nat} (ha : i.natAbs < 2 ^ a) (hb : j.natAbs < 2 ^ b) (h : a + b ≤ 90000000 := by decide) (h0 : 0 < a := by decide) (h1 : 0 < b := by decide) : CMulX i j := by
  have x := PySem.Flt.log2_lt_of h0 ha
  have y := PySem.Flt.log2_lt_of h1 hb
  unfold CMulX
  omega
end Bk

set_option Elab.async false
set_option linter.all false
set_option maxRecDepth 100000
set_option maxHeartbeats 2000000
/-! Own layer 4: a field as a target among others. -/
namespace Bk
open PySem PySem.Spec PyProof.Rows L2
/-- o.f = .. -/
def gFld (K : PySem.W.Frag) (to : TE) (f : Str) : TG := fun v σ H Q => to σ H fun x H1 => ∃ a C dx fs, x = .ref a ∧ H1 a = some (.ins C dx fs) ∧ Cls K C ∧ NoAttr K C f ∧ fs.length < 1000 ∧ Q σ (upd H1 a (.ins C dx (putF f v fs)))
theorem pg_fld {X : Cx} {o : Expr} {f : Str} {pos : Pos} {to : TE} (ho : PE X o to)
    (ha : ∀ v, assign (.Attribute o f pos) X.env v = (do
      let ov ← holding [v] (eval o X.env)
      standAt pos.atName
      holding [v, ov] (setAttr ov f v)
      release [v, ov] []) := by intro _; rfl) : PG X (.Attribute o f pos) (gFld X.K to f) := by
  refine ⟨fun pins s σ H v u Q I r h => ?_⟩
  rw [ha]
  refine wpAny_bind (wpAny_holding (thn (ho.run pins s σ H _ I h) fun ov s1 ⟨x, H1, I1, rx, a, C, dx, fs, ex, ea, c, n, l, q⟩ => ?_))
  subst ex
  obtain rfl : ov = Value.ref a := rx
  refine wpAny_bind (wpAny_standAt (wpAny_bind (wpAny_holding (setattr_ok I1 ea c n l r fun s3 I3 => ?_))))
  exact wpAny_release ⟨σ, _, I3, q⟩
/-- a def with defaults, all its parameters given -/
theorem fd_okD {P : Program} {w : World} {K : PySem.W.Frag} {mg : Str → Option Value} {base : Heap} {x qual : Str} {params : Arguments} {body : List Stmt} {scope : Scope} {dvs : List V} {f : Addr} {N ps : List Str} {k : Nat} {sp : Sp}
    (F : ∃ fd, FunD K x qual params body scope dvs [] f fd) (hd : dvs ≠ []) (S : FnScope N ps scope) (len : ∀ vs H Q E, sp vs H Q E → vs.length = ps.length)
    (hb : ∀ (T : Addr) (kV doc pm : Value) (an : Option Addr) (cdv ct : Value) (us its : List Value), us.length = ps.length → its.length = dvs.length →
      ∃ k, bindArgs (PySem.W.fnOf x qual params body scope (.ref T) kV doc pm an cdv ct) ⟨us, []⟩ = seqItems? (.ref T) >>= k ∧ k (some its.toArray) = pure (ps.zip us))
    (hbody : ∀ (cdv : Value) (A : Around) (outer : List Env) (s : Shared) (H : Hp) (vs : List V) (Q : VK) (E : XK), Room k (A.deeper (envOfC qual scope s.heap.objs.size f cdv)) → sp vs H Q E →
      ∃ t, PSs (cxOf CX0 P w K mg base N qual scope f cdv A outer s H E).nox body t ∧ t { nx := fun _ H' => Q .non H', rt := Q } (start N vs) H) : Ok P w K mg base (k + 1) f ps sp := by
  obtain ⟨fd, F⟩ := F
  obtain ⟨ds, v, b⟩ := F.binds1 (ps := ps) ps.length dvs.length hd (by omega) fun T kV doc pm an cdv ct us its h1 h2 => by
    obtain ⟨k, e1, e2⟩ := hb T kV doc pm an cdv ct us its h1 h2
    refine ⟨k, e1, ?_⟩
    rw [e2, ← h2, List.drop_length, List.append_nil]
  rw [List.drop_length] at v
  cases v
  exact ⟨fd, F.ok S len fun cdv A outer s H vs Q E hr h => let ⟨t, a, b⟩ := hbody cdv A outer s H vs Q E hr h; ⟨t, a.nox, b⟩, b, F.kp, fnIn_of F⟩
end Bk

set_option Elab.async false
set_option linter.all false
set_option maxRecDepth 100000
set_option maxHeartbeats 4000000
/-! Own layer 5: for i, x in enumerate(a tuple). -/
namespace BkE
open PySem PySem.SeqAt
open AutoSeq1 (wpAny_loadPart')
theorem meets_enumT {v : Value} {o : Obj} {H : Heap → Prop} (B : Begins v o H) :
    Meets (Builtin.«enumerate.__new__» ⟨[.type "enumerate", v], []⟩) (fun _ R s => H s.heap ∧
      R (.ok (.ret (.ref (s.heap.push o).objs.size))) { s with heap := (s.heap.push o).push { cls := .type "enumerate", data := .fields #[.none, .bool false, .ref s.heap.objs.size, rawInt 0, .none, .none] } }) :=
  .of_wp fun prog w A R s h => by
    obtain ⟨hp, g, d, tk, os⟩ := s
    obtain ⟨h1, h⟩ := h
    have hsub := sub_enumerate
    have step : ∀ {A' : Around} {E : Value → Shared → Prop} {Q : Value → Shared → Prop}, Q (.ref hp.objs.size) ⟨hp.push o, g, d, tk, os⟩ → wpAny (model prog w) A' (pyIter v) Q E ⟨hp, g, d, tk, os⟩ :=
      fun q => B.iter prog w _ _ ⟨hp, g, d, tk, os⟩ _ h1 q
    wp_walk using step
    refine wpAny_stack_any fun st => wpAny_pure ?_
    split
    · rename_i c _ _ _ _ _
      cases (c == Value.type "enumerate") <;> (wp_walk using step) <;> exact ⟨_, rfl, h⟩
    · wp_walk using step
      exact ⟨_, rfl, h⟩
theorem call_enumT {prog : Program} {w : World} {A : Around} {E : Value → Shared → Prop} {s : Shared} {t : Addr} {items : Array Value} {Q : Value → Shared → Prop} (hT : s.heap.IsTuple t items)
    (h : ∀ h', IsEnum h' (s.heap.objs.size + 1) s.heap.objs.size 0 .none → h'.IsTupleIter s.heap.objs.size t 0 → h'.objs.size = s.heap.objs.size + 2 → (∀ b o, s.heap.get? b = some o → h'.get? b = some o) →
      Q (.ref (s.heap.objs.size + 1)) { s with heap := h' }) : wpAny (model prog w) A (call (.type "enumerate") [.ref t]) Q E s := by
  refine callType_new F.called_enumerate (by decide) (F.typeCall_enumerate_1 _) (F.newCall_enumerate_1 _) (fun obj => F.args_object_init_2 obj _) F.entry_enumerate_new (meets_enumT (begins_tuple t items)) ⟨hT, ?_⟩
  generalize ho : ({ cls := .type "tuple_iterator", data := .fields #[.ref t, .int 0 0] } : Obj) = o
  have fo : o.isFreed = false := by rw [← ho]; rfl
  have hz : (s.heap.push o).objs.size = s.heap.objs.size + 1 := Heap.size_push ..
  show _ ∧ _
  rw [hz]
  generalize hoe : ({ cls := .type "enumerate", data := .fields #[.none, .bool false, .ref s.heap.objs.size, rawInt 0, .none, .none] } : Obj) = oe
  have fe : oe.isFreed = false := by rw [← hoe]; rfl
  have he : ((s.heap.push o).push oe).get? (s.heap.objs.size + 1) = some oe := by
    have z := Heap.get?_push_size (s.heap.push o) (o := oe) fe
    rw [hz] at z
    exact z
  have hit : ((s.heap.push o).push oe).get? s.heap.objs.size = some o := Heap.get?_push_of_some _ (Heap.get?_push_size _ fo)
  refine ⟨⟨oe, he, by rw [← hoe]⟩, h _ (by rw [← hoe] at he ⊢; exact he) ⟨o, hit, by rw [← ho], by rw [← ho]; rfl⟩ (by rw [Heap.size_push, hz]) fun b q x => Heap.get?_push_of_some _ (Heap.get?_push_of_some _ x)⟩
end BkE
namespace Bk
open PySem PySem.Spec PyProof.Rows L2
/-- the tuple at a, each item in a new pair behind its place -/
def IteT (K : PySem.W.Frag) (a : Addr) : It :=
  ⟨fun i H => ∃ (xs : List V) (x : V), SqT K H a xs ∧ xs[i]? = some x, fun i H v H' => ∃ T x, v = .ref T ∧ H T = none ∧ H' = upd H T (.tup [.int (i : Nat), x]) ∧ ∀ xs, SqT K H a xs → xs[i]? = some x, fun i H => ∃ xs : List V, SqT K H a xs ∧ xs.length ≤ i⟩
theorem turn_enumT {P : Program} {w : World} {K : PySem.W.Frag} {elts : List Expr} {kk : Nat} {tpos : Pos} (a e it : Addr) :
    Turn P w K (.Tuple elts kk tpos) (IteT K a) [e, it] e (fun i h => (∃ old, IsEnum h e it ((i : Nat) : Int) old) ∧ h.IsTupleIter it a i ∧ e ≠ it ∧ a ≠ it ∧ e ≠ a) where
  mem := by simp
  obj := fun i h st b hb => by
    obtain ⟨⟨old, he⟩, ⟨o, ho, hc, hd⟩, _⟩ := st
    rcases (show b = e ∨ b = it by simpa using hb) with z | z
    · refine ⟨_, by rw [z]; exact he, fun v q => ?_⟩
      cases q
    · exact ⟨o, by rw [z]; exact ho, fun v q => by rw [hd] at q; cases q⟩
  keep := fun i h h' st k => let ⟨⟨old, he⟩, hi, hne⟩ := st; ⟨⟨old, k e (by simp) _ he⟩, hi.at fun o q => k it (by simp) o q, hne⟩
  item := by
    intro X hP hw hK hc i pins s σ H E I hf st hg
    subst hP hw hK
    obtain ⟨⟨old, he⟩, hit, hne, hai, hea⟩ := st
    obtain ⟨xs, x, hq, hx⟩ := hg
    obtain ⟨its, rv, p, hz⟩ := I.tuple hq
    obtain ⟨u, hu, ru⟩ := rv.get hx
    have hlt : i < its.toArray.size := by simpa using (List.getElem?_eq_some_iff.mp hu).1
    have hel : e < s.heap.objs.size := Heap.lt_size he
    have hil : it < s.heap.objs.size := by obtain ⟨_, q, _⟩ := hit; exact Heap.lt_size q
    refine wpAny_pyNext_enum_itemD (Draws.tuple (A := X.A.in1) (I.ok.hd hc) it a hai its.toArray) he ⟨hit, p⟩ hlt hne (by simpa using ⟨hne, hea⟩) fun y h' tk hy ho hst' hT hsz hk => ?_
    obtain rfl : y = u := by
      have z : its[i]? = some y := by simpa using hy
      rw [hu] at z
      exact (Option.some.inj z).symm
    refine ⟨_, rfl, wpAny_letOwnedTupleGo_enum (s := { s with heap := h', toks := tk + 1 }) ho fun h'' he' sb => ?_⟩
    have hT2 : h''.get? s.heap.objs.size = some { cls := .type "tuple", data := .seq #[.int i tk, y] } := (sb.2 _ (Nat.ne_of_gt hel)).trans hT
    have new : ObjOk X.prog X.w (upd H s.heap.objs.size (.tup [.int (i : Nat), x])) h'' s.heap.objs.size (.tup [.int (i : Nat), x]) :=
      ⟨by show 2 ≤ sizeLine; decide, [.int i tk, y], .cons ⟨_, rfl⟩ (.cons ru .nil), ⟨_, hT2, rfl, _, rfl⟩⟩
    have I1 : L2.Inv X pins σ (upd H s.heap.objs.size (.tup [.int (i : Nat), x])) { s with heap := h'', toks := tk + 1 } :=
      I.turnedNew (ch := [e, it]) (fun b ob hb q => (sb.2 b (fun z => hb (by simp [z]))).trans (hk b ob (fun z => hb (by simp [z])) (fun z => hb (by simp [z])) q)) hf (Nat.le_refl _) new
    refine ⟨.ref s.heap.objs.size, _, I1, rfl, ⟨_, x, rfl, I.hok.fresh (Nat.le_refl _), rfl, fun ys hy => by rw [I.tuple_inj hy hq]; exact hx⟩, ⟨⟨y, ?_⟩, hst'.1.at fun o q => (sb.2 it (Ne.symm hne)).trans q, hne, hai, hea⟩, fun b hb => ?_⟩
    · rw [show ((i + 1 : Nat) : Int) = (i : Int) + 1 by omega]
      exact he'
    · have hb' : b < s.heap.objs.size := by
        rcases (show b = e ∨ b = it by simpa using hb) with z | z
        · rw [z]; exact hel
        · rw [z]; exact hil
      rw [upd_ne (Nat.ne_of_lt hb')]
      exact (hf b hb).1
  done := by
    intro X hP hw hK hc i pins s σ H E I hf st hg
    subst hP hw hK
    obtain ⟨⟨old, he⟩, hit, hne, hai, hea⟩ := st
    obtain ⟨xs, hq, hx⟩ := hg
    obtain ⟨its, rv, p, hz⟩ := I.tuple hq
    obtain ⟨f0, f1, f2, f3, f4, f5⟩ := hf it (by simp)
    have hl := rv.length
    have hT : s.TypeIs (.ref e) "enumerate" := ⟨_, he, rfl⟩
    unfold pyNext
    refine wpAny_bind (wpAny_attempt (wpAny_callSpecial?_slot (name := Str.ofString "__next__") hT F.slot_enumerate_next (wpAny_call_entry F.slot_enumerate_next hT F.entry_enumerate_next ?_ (F.args_enumerate_next_1 _))))
    show wpAny _ _ (field (.ref e) 2 >>= _) _ _ _
    refine wpAny_bind (wpAny_field he rfl (x := .ref it) rfl ?_)
    refine wpAny_bind (wpAny_nextOf_tuple_end (I.ok.hd hc) hit p (by simp; omega) fun h' y eb hy => ?_)
    obtain ⟨o, ho, hoc⟩ := hy
    refine wpAny_bind (wpAny_isInstance (T := "StopIteration") (b := true) ⟨o, ho, hoc⟩ isSubtype_stop ?_)
    exact wpAny_pure ⟨rfl, I.turned (t' := s.toks) (fun b o hb q => eb b o hb q) f0 f1 f3 f4 f5⟩
  self := fun A i s Q E st h => let ⟨⟨_, he⟩, _⟩ := st; wpAny_pyIter_enum he h
def iEnumT (K : PySem.W.Frag) (ta : TA) : TI := fun σ H R => ta σ H fun vs H1 => ∃ a xs, vs = [.ref a] ∧ SqT K H1 a xs ∧ R (IteT K a) H1
theorem pi_enumT {X : Cx} {e : Expr} {ta : TA} {p pos tpos : Pos} {elts : List Expr} {kk : Nat} (hg : Gl X "enumerate") (hm : X.mg "enumerate" = none) (ha : PA X [e] ta) (hs : starEach [e] X.env = [(false, eval e X.env)] := by rfl) :
    PI X (.Tuple elts kk tpos) (.Call (.Name "enumerate" p) [e] [] pos) (iEnumT X.K ta) := by
  refine ⟨fun pins s σ H R I h => Call_ (ld_blt I hg hm boot_enumerate (PyProof.Rows.callWith_type1 (thn (ha.run pos pins s σ H _ I h) fun us s1 ⟨vs, H1, I1, r1, q1⟩ => ?_) hs rfl))⟩
  obtain ⟨a, xs, rfl, hq, q⟩ := q1
  obtain ⟨u, rfl, ru⟩ := vals1 r1
  cases (show u = Value.ref a from ru)
  obtain ⟨its, rv, p', hz⟩ := I1.tuple hq
  have hal : a < s1.heap.objs.size := by obtain ⟨o, ho, _⟩ := p'; exact Heap.lt_size ho
  refine BkE.call_enumT p' fun h' he hit hsz hk => wpAny_pyIter_enum he ?_
  have I2 : L2.Inv X pins σ H1 { s1 with heap := h' } := I1.kept (t' := s1.toks) hk
  refine ⟨s1.heap.objs.size + 1, [s1.heap.objs.size + 1, s1.heap.objs.size], _, _, H1, rfl, I2, turn_enumT a (s1.heap.objs.size + 1) s1.heap.objs.size, ⟨⟨.none, he⟩, hit, Nat.succ_ne_self _, Nat.ne_of_lt hal, Nat.ne_of_gt (Nat.lt_succ_of_lt hal)⟩, fun b hb => ?_, q⟩
  have hle : s1.heap.objs.size ≤ b := by
    rcases (show b = s1.heap.objs.size + 1 ∨ b = s1.heap.objs.size by simpa using hb) with z | z
    · rw [z]; exact Nat.le_succ _
    · rw [z]; exact Nat.le_refl _
  exact I1.fpOk hle (I1.hok.fresh hle)
/-- the loop's invariant over it -/
theorem for_enumT {K : PySem.W.Frag} {a : Addr} {xs : List V} {g : TG} {tb : TS} {D : Ends} {σ : L2.St} {H : Hp} (Pv : Nat → L2.St → Hp → Prop) (h0 : Pv 0 σ H) (hl : ∀ i σ H, i ≤ xs.length → Pv i σ H → SqT K H a xs)
    (hs : ∀ i x T σ H, xs[i]? = some x → Pv i σ H → H T = none → g (.ref T) σ (upd H T (.tup [.int (i : Nat), x])) fun σ2 H2 => tb { D with nx := Pv (i + 1), ct := Pv (i + 1), bk := D.nx } σ2 H2) (hd : ∀ σ H, Pv xs.length σ H → D.nx σ H) :
    ∃ W : Nat → Nat → L2.St → Hp → Prop, (∃ m, W 0 m σ H) ∧ ∀ i m σ H, W i m σ H →
      ((IteT K a).stop i H ∧ D.nx σ H) ∨ ((IteT K a).go i H ∧ ∃ N : L2.St → Hp → Prop, (∀ σ' H', N σ' H' → ∃ m', m' < m ∧ W (i + 1) m' σ' H') ∧ ∀ x H', (IteT K a).yld i H x H' → g x σ H' fun σ2 H2 => tb { D with nx := N, ct := N, bk := D.nx } σ2 H2) := by
  refine ⟨fun i m σ H => m = xs.length - i ∧ i ≤ xs.length ∧ Pv i σ H, ⟨xs.length, by simp, Nat.zero_le _, h0⟩, ?_⟩
  rintro i m σ H ⟨rfl, hi, p⟩
  have q := hl i σ H hi p
  by_cases hlt : i < xs.length
  · refine .inr ⟨⟨xs, xs[i], q, List.getElem?_eq_getElem hlt⟩, Pv (i + 1), fun σ' H' p' => ⟨xs.length - (i + 1), by omega, rfl, hlt, p'⟩, fun x H' y => ?_⟩
    obtain ⟨T, z, rfl, hT, rfl, hz⟩ := y
    exact hs i z T σ H (hz xs q) p hT
  · obtain rfl : i = xs.length := by omega
    exact .inl ⟨⟨xs, q, Nat.le_refl _⟩, hd σ H p⟩
end Bk

set_option Elab.async false
set_option linter.all false
set_option maxRecDepth 100000
set_option maxHeartbeats 4000000
/-! Own layer 6: the display {**d, k: v}. -/
namespace BkD
open PySem
open Sem (wp)
section
variable {prog : Program} {w : World} {K : Type} [DecidableEq K] {knd : KeyKind prog w K} {A : Around} {E : Value → Shared → Prop} {s : Shared}
theorem wpAny_dictPut_pairs {d : Addr} {kvs : List (K × Value)} {k : K} {key v : Value} {Q : Unit → Shared → Prop} (hkey : knd.is k key = true) (hm : s.heap.DictOf knd d kvs)
    (hQ : ∀ h', h'.DictOf knd d (stored kvs k v) → Heap.SameBut d s.heap h' → Q () { s with heap := h' }) (hsz : kvs.length ≤ sizeLine) :
    wpAny (model prog w) A (dictPut d (knd.hash k) key v) Q E s := by
  obtain ⟨o, es, ep, ho, hc, hd, hk, hp, hn⟩ := hm
  have hes : es.size ≤ sizeLine := by
    have e1 := hp.length
    have e2 : es.toList.length = es.size := by simp
    omega
  unfold dictPut
  refine wpAny_bind (wpAny_dictFind_of hkey ho hd hk ?_)
  have hidx : (es.findIdx? fun e => knd.is k e.key) = kvs.findIdx? fun kv => decide (kv.1 = k) := by
    rw [← hp.findIdx k]; obtain ⟨l⟩ := es; simp
  cases hi : es.findIdx? fun e => knd.is k e.key with
  | some i =>
    refine wpAny_updateDict ho hd (hQ _ ⟨_, _, ep, Heap.get?_update_self _ ho (Obj.isFreed_of_dict (Obj.data_mapDict hd _)),
      hc.mapDict _, Obj.data_mapDict hd _, hk.modify _ _, ?_, ?_⟩ (Heap.SameBut.update ..))
    · rw [stored, if_pos (any_of_findIdx_some (hidx ▸ hi))]
      have hl : (es.toList.findIdx? fun e => knd.is k e.key) = some i := by rw [← hi]; obtain ⟨l⟩ := es; simp
      have := hp.modify hn hl v
      obtain ⟨l⟩ := es
      simpa using this
    · rw [stored, if_pos (any_of_findIdx_some (hidx ▸ hi)), keys_map_store]; exact hn
  | none =>
    have hnot : k ∉ kvs.map (·.1) := not_mem_of_findIdx_none (hidx ▸ hi)
    have hany : ¬ (kvs.any fun kv => decide (kv.1 = k)) = true := by
      rw [List.any_eq_true]; rintro ⟨kv, hkv, he⟩
      exact hnot (List.mem_map.mpr ⟨kv, hkv, of_decide_eq_true he⟩)
    refine wpAny_updateDictKeys (hz := hes) ho hd (hQ _ ⟨_, _, ep + 1, Heap.get?_update_self _ ho (Obj.isFreed_of_dict (Obj.data_mapDictKeys hd _)),
      hc.mapDictKeys _, Obj.data_mapDictKeys hd _, hk.push hkey _, ?_, ?_⟩ (Heap.SameBut.update ..))
    · rw [stored, if_neg hany]
      have := hp.append hkey (knd.hash k) v
      obtain ⟨l⟩ := es
      simpa using this
    · rw [stored, if_neg hany, List.map_append, List.nodup_append]
      refine ⟨hn, by simp, ?_⟩
      intro a ha b hb
      simp only [List.map_cons, List.map_nil, List.mem_singleton] at hb
      subst hb
      exact fun e => hnot (e ▸ ha)
theorem mergeK_pairs {d o : Addr} {kvs more : List (K × Value)} {Q : Unit → Shared → Prop} (hdo : d ≠ o) (hoS : (o == sysModules) = false)
    (hd : s.heap.DictOf knd d kvs) (ho : s.heap.DictOf knd o more)
    (hQ : ∀ h', h'.DictOf knd d (merged kvs more) → Heap.SameBut d s.heap h' → Q () { s with heap := h' })
    (hsz : kvs.length + more.length ≤ sizeLine) :
    wpAny (model prog w) A (mergeMapping d (.ref o) false) Q E s := by
  obtain ⟨od, esd, epd, hod, hcd, hdd, hkd, hpd, hnd⟩ := id hd
  obtain ⟨oo, eso, epo, hoo, hco, hdo', hko, hpo, hno⟩ := id ho
  have hT : s.TypeIs (.ref o) "dict" := ho.typeIs
  have hlen : more.length = eso.size := by rw [← hpo.length]; simp
  have loop : wpAny (model prog w) A (do
      let size := (← dictEntries o).size
      let epoch ← dictEpoch o
      for i in List.range size do
        let some e := (← dictEntries o)[i]? | unsupported "dict.changed-during-merge"
        holding [e.key, e.val] do
          if false = true then
            if (← dictFind d e.key e.hash).isSome then rule "dict.merge.duplicate-key"; raiseNew (← newExc (.type "KeyError") [e.key])
          dictPut d e.hash e.key e.val
        if (← dictEpoch o) != epoch then unsupported "dict.changed-during-merge") Q E s := by
    refine wpAny_bind (wpAny_dictEntries hoo hdo' ?_)
    refine wpAny_bind (wpAny_dictEpoch hoo hdo' ?_)
    dsimp only
    refine wpAny_bind ?_
    refine wpAny_forIn_list _
      (fun rest _ s' => ∃ h' i, s' = { s with heap := h' } ∧ rest = List.range' i (eso.size - i) ∧ i ≤ eso.size ∧ h'.DictOf knd d (merged kvs (more.take i)) ∧ h'.get? o = some oo ∧ Heap.SameBut d s.heap h')
      _ ?_ ?_ _ _ ⟨s.heap, 0, rfl, by simp [List.range_eq_range'], Nat.zero_le _, by simpa [merged] using hd, hoo, Heap.SameBut.refl _ _⟩
    · rintro x rest b s' ⟨h', i, rfl, hr, hi, hd', hoo', hs'⟩
      have hlt : i < eso.size := by
        rcases Nat.lt_or_ge i eso.size with h | h
        · exact h
        · rw [Nat.sub_eq_zero_of_le h] at hr; simp at hr
      obtain ⟨rfl, hrest⟩ : x = i ∧ rest = List.range' (i + 1) (eso.size - (i + 1)) := by
        have e : eso.size - i = (eso.size - (i + 1)) + 1 := by omega
        rw [e, List.range'_succ] at hr
        injection hr with h1 h2
        exact ⟨h1, h2⟩
      refine wpAny_bind (wpAny_dictEntries hoo' hdo' ?_)
      rw [Array.getElem?_eq_getElem hlt]
      obtain ⟨kv, hkv⟩ : ∃ kv, more[x]? = some kv := ⟨more[x]'(by rw [hlen]; exact hlt), List.getElem?_eq_getElem _⟩
      obtain ⟨k, v⟩ := kv
      obtain ⟨hkey, hval⟩ := hpo.get? (e := eso[x]) (by simp [hlt]) hkv
      obtain ⟨k', hkey', hhash⟩ := hko eso[x] (Array.getElem_mem hlt)
      obtain rfl : k' = k := knd.inj _ _ _ hkey' hkey
      show wpAny _ _ (holding [eso[x].key, eso[x].val] (dictPut d eso[x].hash eso[x].key eso[x].val) >>= _) _ _ _
      rw [hhash, hval]
      have hmx : (merged kvs (more.take x)).length ≤ sizeLine := by
        have e1 := merged_length_le kvs (more.take x)
        have e2 : (more.take x).length ≤ more.length := by rw [List.length_take]; omega
        omega
      refine wpAny_bind (wpAny_holding (wpAny_dictPut_pairs hkey hd' (fun h'' hd'' hs'' => ?_) hmx))
      have hoo'' : h''.get? o = some oo := (hs''.2 o (Ne.symm hdo)).trans hoo'
      refine wpAny_bind (wpAny_dictEpoch hoo'' hdo' ?_)
      rw [if_neg (by simp)]
      exact wpAny_pure ⟨h'', x + 1, rfl, hrest, hlt, by rw [merged_take_succ kvs more x (k', v) hkv]; exact hd'', hoo'', hs'.trans hs''⟩
    · rintro b s' ⟨h', i, rfl, hr, hi, hd', hoo', hs'⟩
      have hin : i = eso.size := by
        rcases Nat.lt_or_ge i eso.size with h | h
        · have e : eso.size - i = (eso.size - (i + 1)) + 1 := by omega
          rw [e, List.range'_succ] at hr; exact nomatch hr
        · exact Nat.le_antisymm hi h
      refine wpAny_pure (hQ h' ?_ hs')
      rw [hin, ← hlen, List.take_length] at hd'; exact hd'
  unfold mergeMapping
  refine wpAny_bind (wpAny_isInstance (T := "dict") hT PySem.F.sub_dict_dict ?_)
  dsimp only
  rw [if_pos rfl]
  refine wpAny_bind (wpAny_specialOf hT F.slot_dict_iter.lookup ?_)
  simp only [beq_self_eq_true]
  refine wpAny_bind (wpAny_pure ?_)
  dsimp only
  rw [if_neg (by rw [hoS]; exact Bool.false_ne_true)]
  refine wpAny_bind (wpAny_dictEntries hod hdd ?_)
  split
  · refine wpAny_bind (wpAny_dictEntries hoo hdo' ?_)
    refine wpAny_bind ?_
    rw [← Array.forIn_toList]
    refine wpAny_forIn_list _ (fun l _ s' => s' = s ∧ ∀ e ∈ l, e ∈ eso) _ (fun e rest b s₁ hI => ?_) (fun b s₁ hI => ?_) _ _ ⟨rfl, fun e he => Array.mem_toList_iff.mp he⟩
    · obtain ⟨rfl, hm⟩ := hI
      obtain ⟨k, hk, _⟩ := hko e (hm e List.mem_cons_self)
      have hb := knd.byValue _ _ hk
      have rest' : ∀ e' ∈ rest, e' ∈ eso := fun e' h => hm e' (List.mem_cons_of_mem _ h)
      split
      · rename_i a ha
        rw [ha] at hb
        cases hb
      · exact wpAny_pure ⟨rfl, rest'⟩
    · obtain ⟨rfl, _⟩ := hI
      exact loop
  · exact loop
/-- {**m, k: v} -/
theorem display_star1 {m k v : Sem Value} {Q : Value → Shared → Prop}
    (h : wpAny (model prog w) A m (fun mv s1 => ∃ o more, mv = .ref o ∧ (o == sysModules) = false ∧ s.heap.objs.size ≠ o ∧ s1.heap.DictOf knd s.heap.objs.size [] ∧ s1.heap.DictOf knd o more ∧ more.length ≤ sizeLine ∧
      ∀ h', h'.DictOf knd s.heap.objs.size (merged [] more) → Heap.SameBut s.heap.objs.size s1.heap h' →
        wpAny (model prog w) A (evalPairs [(k, v)]) (fun vs s3 => ∃ key kv vv kvs3, vs = [(kv, vv)] ∧ knd.is key kv = true ∧ s3.heap.DictOf knd s.heap.objs.size kvs3 ∧ s.heap.objs.size ≠ h'.objs.size ∧ (h'.objs.size == sysModules) = false ∧
          s3.heap.DictOf knd h'.objs.size [] ∧ kvs3.length + 1 ≤ sizeLine ∧
          ∀ h3 h4 tk, Heap.SameBut h'.objs.size s3.heap h3 → Heap.SameBut s.heap.objs.size h3 h4 → h3.DictOf knd h'.objs.size [(key, vv)] → h4.DictOf knd s.heap.objs.size (merged kvs3 [(key, vv)]) →
            Q (.ref s.heap.objs.size) { s3 with heap := h4, toks := tk }) E { s1 with heap := h'.push { cls := .type "dict", data := .dict #[] } }) E { s with heap := s.heap.push { cls := .type "dict", data := .dict #[] } }) :
    wpAny (model prog w) A (dictDisplay [(none, m), (some k, v)]) Q E s := by
  unfold dictDisplay
  dsimp only
  refine wpAny_bind ?_
  rw [List.forIn_cons]
  refine wpAny_bind ?_
  dsimp only
  refine wpAny_bind ?_
  rw [if_pos List.isEmpty_nil]
  refine wpAny_pure ?_
  dsimp only
  refine wpAny_bind (wpAny_alloc ?_)
  refine wpAny_bind (wpAny_holding (wpAny_mono h (fun mv s1 h1 => ?_) fun _ _ e => e))
  obtain ⟨o, more, rfl, hoS, hne, hd, ho, hz, h1⟩ := h1
  refine wpAny_bind (wpAny_onRaise (wpAny_tryCatch (wpAny_onRaise (wpAny_holding (mergeK_pairs hne hoS hd ho (fun h' hd' hs' => ?_) (by simpa using hz))))))
  refine wpAny_pure ?_
  dsimp only
  rw [List.forIn_cons]
  refine wpAny_bind ?_
  dsimp only
  rw [if_neg (by simp)]
  refine wpAny_pure ?_
  dsimp only
  rw [List.forIn_nil]
  refine wpAny_pure ?_
  dsimp only
  refine wpAny_bind ?_
  rw [if_neg (by simp)]
  refine wpAny_bind (wpAny_holding ?_)
  rw [List.nil_append]
  refine wpAny_subDict (knd := knd) (by simp) (wpAny_mono (h1 h' hd' hs') (fun vs s3 h3 => ?_) fun _ _ e => e)
  obtain ⟨key, kv, vv, kvs3, rfl, hk, hd3, hn3, hm3, he3, hz3, q⟩ := h3
  refine ⟨[(key, vv)], ⟨hk, rfl, True.intro⟩, he3, fun h3 hm hs3 => ?_⟩
  refine wpAny_bind (wpAny_onRaise (wpAny_holding (mergeK_pairs hn3 hm3 (hd3.sameBut hs3 hn3) hm (fun h4 hd4 hs4 => ?_) hz3)))
  exact wpAny_pure (wpAny_pure (q h3 h4 _ hs3 hs4 hm hd4))
end
end BkD
namespace Bk
open PySem PySem.Spec PyProof.Rows L2
theorem mergeK_fresh (acc more : List (Key × V)) (hn : ((acc ++ more).map (·.1)).Nodup) : mergeK acc more = acc ++ more := by
  induction more generalizing acc with
  | nil => simp [mergeK]
  | cons kv rest ih =>
    have hv : valV acc kv.1 = none := by
      cases e : valV acc kv.1 with
      | none => rfl
      | some x =>
        have z := valV_any kv.1 acc
        rw [e] at z
        obtain ⟨y, hy, he⟩ := List.any_eq_true.mp z
        rw [List.map_append, List.map_cons, List.nodup_append] at hn
        exact (hn.2.2 y.1 (List.mem_map.mpr ⟨y, hy, rfl⟩) kv.1 List.mem_cons_self (of_decide_eq_true he)).elim
    have e1 : mergeK acc (kv :: rest) = mergeK (acc ++ [kv]) rest := by
      show mergeK (putK acc kv.1 kv.2) rest = _
      rw [putK_new _ hv]
    rw [e1, ih (acc ++ [kv]) (by simpa using hn)]
    simp
/-- {**d, k: v} with a dict whose keys stand once: k is put behind or in its place -/
def tStar1 (tm tk tv : TE) : TE := fun σ H Q => ∀ p, H p = none → tm σ (upd H p (.dK [])) fun x H1 => ∃ d kvs, x = .ref d ∧ H1 d = some (.dK kvs) ∧ H1 p = some (.dK []) ∧ d ≠ p ∧ kvs.length < sizeLine ∧
  ∀ q, upd H1 p (.dK kvs) q = none → tk σ (upd (upd H1 p (.dK kvs)) q (.dK [])) fun y H2 => tv σ H2 fun z H3 => ∃ k, y = kV k ∧ H3 p = some (.dK kvs) ∧ H3 q = some (.dK []) ∧
    Q (.ref p) (upd (upd H3 q (.dK [(k, z)])) p (.dK (putK kvs k z)))
theorem pe_star1 {X : Cx} {m k v : Expr} {pos : Pos} {tm tk tv : TE} (hm : PE X m tm) (hk : PE X k tk) (hv : PE X v tv) : PE X (.Dict [none, some k] [m, v] pos) (tStar1 tm tk tv) := by
  refine ⟨fun pins s σ H Q I h => ?_⟩
  have hn := I.hok.fresh (Nat.le_refl s.heap.objs.size)
  have I1 := I.laid (a := s.heap.objs.size) (o := .dK []) (h' := s.heap.push { cls := .type "dict", data := .dict #[] }) (t' := s.toks) (fun _ _ q => Heap.get?_push_of_some _ q) (Nat.le_refl _) (dk_empty s.heap I.big)
  rw [arm_eval_Dict]
  refine wpAny_bind (wpAny_standAt ?_)
  show wpAny _ _ (dictDisplay [(none, do let x ← eval m X.env; standAt pos; pure x), (some (eval k X.env), do let x ← eval v X.env; standAt pos; pure x)]) _ _ _
  refine BkD.display_star1 (knd := mixKind X.prog X.w) (wpAny_bind (thn (hm.run pins _ σ _ _ I1 (h _ hn)) fun u s1 ⟨x, H1, I2, rx, d, kvs, ex, ed, ep, hne, hz, q⟩ => wpAny_bind (wpAny_standAt (wpAny_pure ?_))))
  subst ex
  obtain rfl : u = Value.ref d := rx
  obtain ⟨z, hd, vs, rel, dd⟩ := dk_of I2.hok ed
  obtain ⟨_, hp, vs0, r0, pp⟩ := dk_of I2.hok ep
  cases r0
  have hnod : (vs.map (·.1)).Nodup := let ⟨_, _, _, _, _, _, _, _, n⟩ := dd; n
  have hl := rel.length
  refine ⟨d, vs, rfl, hd, hne.symm, pp, dd, by omega, fun h' dd' hs => ?_⟩
  rw [merged_nil_of_nodup _ hnod] at dd'
  have he : ∃ q, h'.get? s.heap.objs.size = some q := let ⟨q, _, _, hq, _⟩ := dd'; ⟨q, hq⟩
  have I3 : L2.Inv X pins σ (upd H1 s.heap.objs.size (.dK kvs)) { s1 with heap := h', toks := s1.toks } := d_write I2 (by rw [ep]; exact True.intro) hs he (dk_new z hp rel dd')
  have hq0 := I3.hok.fresh (Nat.le_refl h'.objs.size)
  have I4 := I3.laid (a := h'.objs.size) (o := .dK []) (h' := h'.push { cls := .type "dict", data := .dict #[] }) (t' := s1.toks) (fun _ _ q => Heap.get?_push_of_some _ q) (Nat.le_refl _) (dk_empty h' I3.big)
  have hPP := (pps_cons (pos := pos) hk hv pps_nil).run pins _ σ _ (fun ps H' => match ps with
    | [(y, z)] => ∃ k, y = kV k ∧ H' s.heap.objs.size = some (.dK kvs) ∧ H' h'.objs.size = some (.dK []) ∧ Q (.ref s.heap.objs.size) (upd (upd H' h'.objs.size (.dK [(k, z)])) s.heap.objs.size (.dK (putK kvs k z)))
    | _ => False) I4 (q _ hq0)
  refine thn hPP fun ws s3 ⟨ps, H3, I5, rws, q5⟩ => ?_
  match ps, rws, q5 with
  | [(y, zz)], rws, q5 =>
    obtain ⟨key, ey, e1, e2, q3⟩ := q5
    subst ey
    cases rws with
    | @cons a b as bs hab ht =>
      cases ht
      obtain ⟨b1, b2⟩ := b
      obtain ⟨_, hp3, vs1, r1, pp3⟩ := dk_of I5.hok e1
      obtain ⟨_, hq3, vs2, r2, qq3⟩ := dk_of I5.hok e2
      cases r2
      have hne2 : s.heap.objs.size ≠ h'.objs.size := fun z => by
        rw [← z, upd_same] at hq0
        cases hq0
      refine ⟨key, _, _, vs1, rfl, kV_is hab.1, pp3, hne2, hq3, qq3, by have := r1.length; omega, fun h3 h4 tk hs3 hs4 m3 m4 => ?_⟩
      have kv1 : KV [(key, zz)] [(key, b2)] := .cons ⟨rfl, hab.2⟩ .nil
      have I6 : L2.Inv X pins σ (upd H3 h'.objs.size (.dK [(key, zz)])) { s3 with heap := h3, toks := tk } :=
        d_write I5 (by rw [e2]; exact True.intro) hs3 (let ⟨q, _, _, hq, _⟩ := m3; ⟨q, hq⟩) (dk_new (by show 1 ≤ sizeLine; decide) hq3 kv1 m3)
      have e1' : upd H3 h'.objs.size (.dK [(key, zz)]) s.heap.objs.size = some (.dK kvs) := by rw [upd_ne hne2]; exact e1
      have hlp : (putK kvs key zz).length ≤ sizeLine := by have := length_putK kvs key zz; omega
      have I7 : L2.Inv X pins σ (upd (upd H3 h'.objs.size (.dK [(key, zz)])) s.heap.objs.size (.dK (putK kvs key zz))) { s3 with heap := h4, toks := tk } :=
        d_write (s := { s3 with heap := h3, toks := tk }) I6 (by rw [e1']; exact True.intro) hs4 (let ⟨q, _, _, hq, _⟩ := m4; ⟨q, hq⟩) (dk_new hlp hp (r1.put key hab.2) m4)
      exact ⟨.ref s.heap.objs.size, _, I7, rfl, q3⟩
end Bk

set_option Elab.async false
set_option linter.all false
set_option maxRecDepth 100000
set_option maxHeartbeats 4000000
/-! Own layer 7: == and != of two instances without an __eq__ of their own; bool(o) by the class's own __bool__; a list against an empty one. -/
namespace BkI
open PySem PySem.Spec PyProof.Rows PySem.SeqAt
structure EqObj (K : PySem.W.Frag) (C : Addr) : Prop where
  eq : PySem.W.findIn K (.ref C) "__eq__" = some (some (.builtin "object.__eq__"))
  ne : PySem.W.findIn K (.ref C) "__ne__" = some (some (.builtin "object.__ne__"))
  mro : PySem.W.mroIn K C (.type "object") = some true
section
variable {M : Model} {prog : Program} {w : World} {A : Around} {E : Value → Shared → Prop} {s : Shared} {K : PySem.W.Frag} {x y C D : Addr} {ox oy : Obj} {od oe : Option Obj}
theorem inst_cls (I : PySem.W.InstAt s.heap x ox C od) : s.heap.get? x = some ox ∧ ox.cls = .ref C := ⟨I.at_, I.cls⟩
theorem call_eq (X : K.In s.heap) (I : PySem.W.InstAt s.heap x ox C od) (J : PySem.W.InstAt s.heap y oy D oe) (q : EqObj K C) {Q : Value → Shared → Prop} (hq : Q (if x = y then .bool true else .notImplemented) s) :
    wpAny (model prog w) A (call (.builtin "object.__eq__") [.ref x, .ref y]) Q E s := by
  refine wpAny_call (codeAny_call_builtin F.cmp_object.eq.plain F.cmpEntry_eq (PySem.W.check_slot F.cmpKind_eq F.cmpSplit_eq (I.type.andThen (PySem.W.looks_mroIn X q.mro)) (F.cmpArgs_eq _ _) ?_))
  by_cases h : x = y
  · subst h
    rw [if_pos rfl] at hq
    exact objEq_entry_same hq
  · rw [if_neg h] at hq
    exact objEq_entry_other h (inst_cls I).1 (inst_cls J).1 (by rw [(inst_cls I).2]; intro z; cases z) hq
theorem special_eq (X : K.In s.heap) (I : PySem.W.InstAt s.heap x ox C od) (J : PySem.W.InstAt s.heap y oy D oe) (q : EqObj K C) {Q : Option Value → Shared → Prop} (hq : Q (some (if x = y then .bool true else .notImplemented)) s) :
    wpAny (model prog w) A (callSpecialIfBound? (.ref x) "__eq__" [.ref y]) Q E s := HN.ifBound_objEq X I q.eq (call_eq X I J q hq)
theorem try_eq (X : K.In s.heap) (I : PySem.W.InstAt s.heap x ox C od) (J : PySem.W.InstAt s.heap y oy D oe) (q : EqObj K C) {Q : Option Value → Shared → Prop} (hq : Q (if x = y then some (.bool true) else none) s) :
    wpAny (model prog w) A (tryCompare (.ref x) "__eq__" (.ref y)) Q E s := by
  unfold tryCompare
  refine wpAny_bind (special_eq X I J q ?_)
  by_cases h : x = y
  · rw [if_pos h] at hq ⊢
    exact wpAny_pure hq
  · rw [if_neg h] at hq ⊢
    exact wpAny_pure hq
theorem entry_ne (hu : A.units < cLine) (X : K.In s.heap) (I : PySem.W.InstAt s.heap x ox C od) (J : PySem.W.InstAt s.heap y oy D oe) (q : EqObj K C) {Q : Fin → Shared → Prop} (hq : Q (.done (.ret (if x = y then .bool false else .notImplemented))) s) :
    wpAny (model prog w) A (Builtin.«object.__ne__» ⟨[.ref x, .ref y], []⟩) Q E s := by
  unfold Builtin.«object.__ne__»
  by_cases h : x = y
  · rw [if_pos h] at hq
    repeat (first | with_reducible refine wpAny_cRoomFor hu ?_ | (with_reducible refine special_eq X I J q ?_; rw [if_pos h]) | wp_step)
    exact hq
  · rw [if_neg h] at hq
    repeat (first | with_reducible refine wpAny_cRoomFor hu ?_ | (with_reducible refine special_eq X I J q ?_; rw [if_neg h]) | wp_step)
    exact hq
theorem ifBound_objNe {args : List Value} {Q : Option Value → Shared → Prop} (X : K.In s.heap) (I : PySem.W.InstAt s.heap x ox C od) (hs : PySem.W.findIn K (.ref C) "__ne__" = some (some (.builtin "object.__ne__")))
    (h : wpAny M A (call (.builtin "object.__ne__") (.ref x :: args)) (fun v => Q (some v)) E s) : wpAny M A (callSpecialIfBound? (.ref x) "__ne__" args) Q E s := by
  simp only [callSpecialIfBound?, bindSpecialIfBound?]
  refine wpAny_holding (wpAny_bind (wpAny_bind (wpAny_bind (I.type.here ((PySem.W.looks_findIn X hs).here ?_)))))
  refine wpAny_bind (wpAny_askSetting (wpAny_ite ?_))
  have fin : wpAny M A (call (.builtin "object.__ne__") ([.ref x] ++ args) >>= fun v => pure (some v)) Q E s := wpAny_bind (wpAny_mono h (fun v s' h' => wpAny_pure h') fun _ _ h' => h')
  split
  · exact wpAny_bind (wpAny_of_eq (F.cmp_object.ne.bind _) (wpAny_pure (by exact fin)))
  · exact wpAny_tryCatch (wpAny_bind (wpAny_of_eq (F.cmp_object.ne.bind _) (wpAny_pure (by exact fin))))
theorem try_ne (hu : A.units + 1 < cLine) (X : K.In s.heap) (I : PySem.W.InstAt s.heap x ox C od) (J : PySem.W.InstAt s.heap y oy D oe) (q : EqObj K C) {Q : Option Value → Shared → Prop} (hq : Q (if x = y then some (.bool false) else none) s) :
    wpAny (model prog w) A (tryCompare (.ref x) "__ne__" (.ref y)) Q E s := by
  unfold tryCompare
  refine wpAny_bind (ifBound_objNe X I q.ne (wpAny_call (codeAny_call_builtin F.cmp_object.ne.plain F.cmpEntry_ne
    (PySem.W.check_slot F.cmpKind_ne F.cmpSplit_ne (I.type.andThen (PySem.W.looks_mroIn X q.mro)) (F.cmpArgs_ne _ _) (entry_ne (A := A.in1) hu X I J q ?_)))))
  by_cases h : x = y
  · rw [if_pos h] at hq ⊢
    exact wpAny_pure hq
  · rw [if_neg h] at hq ⊢
    exact wpAny_pure hq
theorem rc_eq (hu : A.units < cLine) (X : K.In s.heap) (I : PySem.W.InstAt s.heap x ox C od) (J : PySem.W.InstAt s.heap y oy C oe) (q : EqObj K C) {Q : Value → Shared → Prop} (hq : Q (.bool (decide (x = y))) s) :
    wpAny (model prog w) A (richCompare .Eq (.ref x) (.ref y)) Q E s := by
  simp only [richCompare, cmpInfo_Eq, oneThing_ref]
  refine wpAny_holding (wpAny_bind (wpAny_cRoomFor hu ?_))
  refine wpAny_bind (I.type.here ?_)
  refine wpAny_bind (J.type.here ?_)
  rw [if_neg (by simp)]
  refine wpAny_bind (wpAny_pure ?_)
  rw [if_neg Bool.false_ne_true]
  refine wpAny_bind (try_eq X I J q ?_)
  by_cases h : x = y
  · rw [if_pos h]
    rw [decide_eq_true h] at hq
    exact wpAny_pure hq
  · rw [if_neg h]
    rw [decide_eq_false h] at hq
    dsimp only
    rw [if_pos (by rfl)]
    refine wpAny_bind (try_eq X J I q ?_)
    rw [if_neg (fun z => h z.symm)]
    dsimp only
    refine wpAny_bind (wpAny_rule (wpAny_bind (wpAny_isSame_ref_other h (inst_cls I).1 (inst_cls J).1 (by rw [(inst_cls I).2]; intro z; cases z) (wpAny_pure hq))))
theorem rc_ne (hu : A.units + 1 < cLine) (X : K.In s.heap) (I : PySem.W.InstAt s.heap x ox C od) (J : PySem.W.InstAt s.heap y oy C oe) (q : EqObj K C) {Q : Value → Shared → Prop} (hq : Q (.bool (!decide (x = y))) s) :
    wpAny (model prog w) A (richCompare .NotEq (.ref x) (.ref y)) Q E s := by
  simp only [richCompare, cmpInfo_NotEq, oneThing_ref]
  refine wpAny_holding (wpAny_bind (wpAny_cRoomFor (Nat.lt_of_succ_lt hu) ?_))
  refine wpAny_bind (I.type.here ?_)
  refine wpAny_bind (J.type.here ?_)
  rw [if_neg (by simp)]
  refine wpAny_bind (wpAny_pure ?_)
  rw [if_neg Bool.false_ne_true]
  refine wpAny_bind (try_ne hu X I J q ?_)
  by_cases h : x = y
  · rw [if_pos h]
    rw [decide_eq_true h] at hq
    exact wpAny_pure hq
  · rw [if_neg h]
    rw [decide_eq_false h] at hq
    dsimp only
    rw [if_pos (by rfl)]
    refine wpAny_bind (try_ne hu X J I q ?_)
    rw [if_neg (fun z => h z.symm)]
    dsimp only
    refine wpAny_bind (wpAny_rule (wpAny_bind (wpAny_isSame_ref_other h (inst_cls I).1 (inst_cls J).1 (by rw [(inst_cls I).2]; intro z; cases z) (wpAny_pure hq))))
end
end BkI
namespace Bk
open PySem PySem.Spec PyProof.Rows L2
/-- x == y, x != y of two instances of one class -/
def rEqO (C : Addr) (neg : Bool) : R2 := fun x y H Q => ∃ a dx fs b dy gs, x = .ref a ∧ y = .ref b ∧ H a = some (.ins C dx fs) ∧ H b = some (.ins C dy gs) ∧ Q (.bl (decide (a = b) != neg)) H
section
variable {X : Cx} {k : Nat} {C : Addr}
theorem op_eqO (q : BkI.EqObj X.K C) (hr : Room k X.A) : OpR X (compareOp .Eq) (rEqO C false) := by
  intro pins s σ H x y v u Q I rx ry h
  obtain ⟨a, dx, fs, b, dy, gs, rfl, rfl, ha, hb, h⟩ := h
  cases (show v = Value.ref a from rx)
  cases (show u = Value.ref b from ry)
  obtain ⟨_, _, J1⟩ := at_ins I ha
  obtain ⟨_, _, J2⟩ := at_ins I hb
  refine BkI.rc_eq (by have := hr.units; omega) I.kIn J1 J2 q ⟨.bl (decide (a = b)), H, I, rfl, ?_⟩
  rw [show (decide (a = b) != false) = decide (a = b) by cases decide (a = b) <;> rfl] at h
  exact h
theorem op_neO (q : BkI.EqObj X.K C) (hr : Room k X.A) : OpR X (compareOp .NotEq) (rEqO C true) := by
  intro pins s σ H x y v u Q I rx ry h
  obtain ⟨a, dx, fs, b, dy, gs, rfl, rfl, ha, hb, h⟩ := h
  cases (show v = Value.ref a from rx)
  cases (show u = Value.ref b from ry)
  obtain ⟨_, _, J1⟩ := at_ins I ha
  obtain ⟨_, _, J2⟩ := at_ins I hb
  refine BkI.rc_ne (by have := hr.units; omega) I.kIn J1 J2 q ⟨.bl (!decide (a = b)), H, I, rfl, ?_⟩
  rw [show (decide (a = b) != true) = !decide (a = b) by cases decide (a = b) <;> rfl] at h
  exact h
/-- two lists of unlike lengths -/
def rEqLen (K : PySem.W.Frag) : R2 := fun x y H Q => ∃ a b xs ys, x = .ref a ∧ y = .ref b ∧ SqL K H a xs ∧ SqL K H b ys ∧ xs.length ≠ ys.length ∧ Q (.bl false) H
theorem op_eqLen (hr : Room k X.A) : OpR X (compareOp .Eq) (rEqLen X.K) := by
  intro pins s σ H x y v u Q I rx ry h
  obtain ⟨a, b, xs, ys, rfl, rfl, ha, hb, hne, h⟩ := h
  cases (show v = Value.ref a from rx)
  cases (show u = Value.ref b from ry)
  obtain ⟨its, r1, p1, _⟩ := I.list ha
  obtain ⟨jts, r2, p2, _⟩ := I.list hb
  refine PySem.SeqAt.eq_list_lengthsAt p1.isList p2.isList ?_ (by have := hr.units; omega) ⟨.bl false, H, I, rfl, h⟩
  rw [List.size_toArray, List.size_toArray, ← r1.length, ← r2.length]
  simpa using hne
end
end Bk

set_option Elab.async false
set_option linter.all false
set_option maxRecDepth 100000
set_option maxHeartbeats 4000000
namespace BkI
open PySem PySem.Spec PyProof.Rows
theorem meets_bool_own {prog : Program} {w : World} (x : Addr) :
    MeetsIn prog w (Builtin.«bool.__new__» ⟨[.type "bool", .ref x], []⟩) (fun A R s => wpAny (model prog w) A.in1 (truthy (.ref x)) (fun b s' => R (.ok (.ret (.bool b))) s') (fun e s' => R (.error e) s') s) :=
  .of_wp fun A R s h => by
    have f1 := F.conv_sub_bool
    obtain ⟨hp, g, d, tk, os⟩ := s
    have step : ∀ {Q : Bool → Shared → Prop}, (∀ b s', R (.ok (.ret (.bool b))) s' → Q b s') → wpAny (model prog w) A.in1 (truthy (.ref x)) Q (fun e s' => R (.error e) s') ⟨hp, g, d, tk, os⟩ := fun q => wpAny_mono h (fun b s' r => q b s' r) fun _ _ z => z
    repeat (any_goals (first | assumption | (with_reducible refine step fun b s' r => ?_) | wp_step))
    all_goals exact ⟨_, rfl, r⟩
end BkI
namespace Bk
open PySem PySem.Spec PyProof.Rows L2
/-- bool(o), by the class's own __bool__ -/
def rBoolO (C : Addr) (sp : Sp) : List V → Hp → VK → Prop := fun xs H Q => ∃ a dx fs, xs = [.ref a] ∧ H a = some (.ins C dx fs) ∧ sp [.ref a] H (fun v H' => ∃ b : Bool, v = .bl b ∧ Q (.bl b) H') E0
theorem call_boolO {X : Cx} {k : Nat} {C f : Addr} {ps : List Str} {sp : Sp} (m : Meth X.K C "__bool__" f) (G : Ok X.prog X.w X.K X.mg X.base k f ps sp) (hr : Room (k + 2) X.A) : CallR X (.type "bool") (rBoolO C sp) := by
  intro pins s σ H xs us Q I r h
  obtain ⟨a, dx, fs, rfl, ha, h⟩ := h
  obtain ⟨u, rfl, ru⟩ := vals1 r
  cases (show u = Value.ref a from ru)
  obtain ⟨ox, od, J⟩ := at_ins I ha
  obtain ⟨_, hF⟩ := I.fr
  refine callType_newIn F.called_bool F.newNe_bool (F.typeCall_bool_1 _) (F.newCall_bool_1 _) (fun obj => F.args_object_init_2 obj _) F.entry_bool_new (BkI.meets_bool_own a) ?_
  refine PySem.W.truthy_K hF I.ok.mod.kin J m.at_ m.fn (thn (run_own G (Room.in1 (Room.in1 hr)) rfl I (.cons (rrf _) .nil) h) fun r s' (z : EP X _ _ _ r s') => ?_)
  obtain ⟨w', H', I', rw', b, rfl, q⟩ := z
  cases (show r = Value.bool b from rw')
  exact ⟨rfl, .bl b, H', I', rfl, q⟩
end Bk
namespace Bk
open PySem PySem.Spec PyProof.Rows L2
/-- str(o), by the class's own __str__ -/
def rStrO (C : Addr) (sp : Sp) : List V → Hp → VK → Prop := fun xs H Q => ∃ a dx fs, xs = [.ref a] ∧ H a = some (.ins C dx fs) ∧ sp [.ref a] H (fun v H' => ∃ b : Str, v = .str b ∧ Q (.str b) H') E0
theorem call_strO {X : Cx} {k : Nat} {C f : Addr} {ps : List Str} {sp : Sp} (m : Meth X.K C "__str__" f) (G : Ok X.prog X.w X.K X.mg X.base k f ps sp) (hr : Room (k + 2) X.A) : CallR X (.type "str") (rStrO C sp) := by
  intro pins s σ H xs us Q I r h
  obtain ⟨a, dx, fs, rfl, ha, h⟩ := h
  obtain ⟨u, rfl, ru⟩ := vals1 r
  cases (show u = Value.ref a from ru)
  obtain ⟨ox, od, J⟩ := at_ins I ha
  refine PySem.W.kso_call (Room.in1 (Room.in1 hr)).units0 I.kIn J m.at_ m.fn (thn (run_own G (Room.in1 (Room.in1 hr)) rfl I (.cons (rrf _) .nil) h) fun r s' (z : EP X _ _ _ r s') => ?_)
  obtain ⟨w', H', I', rw', b, rfl, q⟩ := z
  obtain ⟨t, rfl⟩ := (show ∃ t, r = Value.str b t from rw')
  exact ⟨.str b, H', I', ⟨_, rfl⟩, q⟩
end Bk

set_option Elab.async false
set_option linter.all false
set_option maxRecDepth 100000
set_option maxHeartbeats 0
namespace K62
open PySem PySem.Spec PyProof.Rows L2
def top (i : Nat) : Stmt := PySem.Challenge.pw_unitpairs_k62_books_kept.main.body.getD i (.Pass ⟨0, 0, 0, 0⟩)
abbrev s_is_integer : Stmt := top 28
abbrev s_is_between : Stmt := top 29
abbrev s_check_number : Stmt := top 30
abbrev s_is_word : Stmt := top 31
abbrev s_gcd : Stmt := top 33
abbrev s_is_share : Stmt := top 50
abbrev s_check_rule : Stmt := top 53
abbrev s_names_of : Stmt := top 90
abbrev s_answer_to : Stmt := top 94
abbrev s_check_claims : Stmt := top 95
abbrev s_ulaw_deck : Stmt := top 99
abbrev s_ulaw_pick : Stmt := top 100
abbrev s_ulaw_shares : Stmt := top 101
abbrev s_ulaw_gcd : Stmt := top 102
abbrev s_ulaw_rule : Stmt := top 103
abbrev s_ulaw_line : Stmt := top 104
abbrev s_ulaw_odd : Stmt := top 105
abbrev s_ulaw_names : Stmt := top 106
abbrev s_ulaw_shows : Stmt := top 107
abbrev s_ulaw_turn : Stmt := top 108
abbrev s_ulaw_right : Stmt := top 109
abbrev s_law : Stmt := top 110
abbrev s_Rule_uuinit__ : Stmt := inClass (top 51) 0
abbrev s_Rule_uustr__ : Stmt := inClass (top 51) 3
abbrev s_Leaf_uuinit__ : Stmt := inClass (top 96) 0
abbrev s_Book_uuinit__ : Stmt := inClass (top 97) 0
abbrev s_Book_lay : Stmt := inClass (top 97) 1
abbrev s_Book_need : Stmt := inClass (top 97) 2
abbrev s_Book_uusetitem__ : Stmt := inClass (top 97) 3
abbrev s_Book_uugetitem__ : Stmt := inClass (top 97) 4
abbrev s_Book_uucontains__ : Stmt := inClass (top 97) 6
abbrev s_Book_uulen__ : Stmt := inClass (top 97) 7
abbrev s_Book_uubool__ : Stmt := inClass (top 97) 8
abbrev s_Book_remove : Stmt := inClass (top 97) 9
abbrev s_Book_undo : Stmt := inClass (top 97) 12
abbrev s_Book_titles : Stmt := inClass (top 97) 15
abbrev s_Book_claims : Stmt := inClass (top 97) 16
abbrev s_Book_changes : Stmt := inClass (top 97) 17
/-! facts by name -/
def fa0 : List He.Fa := [.glo "is_integer", .glo "is_between", .glo "check_number", .glo "is_word", .glo "gcd", .glo "is_share", .glo "check_rule", .glo "names_of", .glo "answer_to", .glo "check_claims", .glo "_law_deck", .glo "_law_pick", .glo "_law_shares", .glo "_law_gcd", .glo "_law_rule", .glo "_law_line", .glo "_law_odd", .glo "_law_names", .glo "_law_shows", .glo "_law_turn", .glo "_law_right", .glo "law", .glo "Rule", .cls "Rule", .noat "Rule" "parts", .noat "Rule" "first", .noat "Rule" "second", .noat "Rule" "moduli", .mkr "Rule", .meth "Rule" "__str__"]
def fa1 : List He.Fa := [.glo "Leaf", .cls "Leaf", .noat "Leaf" "shelf", .noat "Leaf" "told", .noat "Leaf" "below", .noat "Leaf" "depth", .mkr "Leaf", .glo "Book", .cls "Book", .noat "Book" "leaf", .mkr "Book", .meth "Book" "lay", .meth "Book" "need", .meth "Book" "__setitem__", .meth "Book" "__getitem__", .meth "Book" "__contains__", .meth "Book" "__len__", .meth "Book" "__bool__", .meth "Book" "remove", .meth "Book" "undo", .free "isinstance", .free "int", .free "bool", .free "str", .free "len", .free "range", .free "tuple", .free "sorted", .free "enumerate", .free "abs"]
def fa2 : List He.Fa := [.free "min", .free "max", .free "divmod", .free "repr", .free "all", .free "dict", .int "MOST_PARTS" (12), .int "MOST_SHARE" (12), .str "LETTERS" "abcdefghijklmnopqrstuvwxyz"]
def fa : List He.Fa := fa0 ++ fa1 ++ fa2
def d_is_integer : He.DefD := ⟨("is_integer", none), "is_integer", "is_integer", defArgs s_is_integer, defBody s_is_integer, defScope s_is_integer, [], []⟩
def d_is_between : He.DefD := ⟨("is_between", none), "is_between", "is_between", defArgs s_is_between, defBody s_is_between, defScope s_is_between, [], []⟩
def d_check_number : He.DefD := ⟨("check_number", none), "check_number", "check_number", defArgs s_check_number, defBody s_check_number, defScope s_check_number, [], []⟩
def d_is_word : He.DefD := ⟨("is_word", none), "is_word", "is_word", defArgs s_is_word, defBody s_is_word, defScope s_is_word, [], []⟩
def d_gcd : He.DefD := ⟨("gcd", none), "gcd", "gcd", defArgs s_gcd, defBody s_gcd, defScope s_gcd, [], []⟩
def d_is_share : He.DefD := ⟨("is_share", none), "is_share", "is_share", defArgs s_is_share, defBody s_is_share, defScope s_is_share, [], []⟩
def d_check_rule : He.DefD := ⟨("check_rule", none), "check_rule", "check_rule", defArgs s_check_rule, defBody s_check_rule, defScope s_check_rule, [], []⟩
def d_names_of : He.DefD := ⟨("names_of", none), "names_of", "names_of", defArgs s_names_of, defBody s_names_of, defScope s_names_of, [], []⟩
def d_answer_to : He.DefD := ⟨("answer_to", none), "answer_to", "answer_to", defArgs s_answer_to, defBody s_answer_to, defScope s_answer_to, [], []⟩
def d_check_claims : He.DefD := ⟨("check_claims", none), "check_claims", "check_claims", defArgs s_check_claims, defBody s_check_claims, defScope s_check_claims, [], []⟩
def d_ulaw_deck : He.DefD := ⟨("_law_deck", none), "_law_deck", "_law_deck", defArgs s_ulaw_deck, defBody s_ulaw_deck, defScope s_ulaw_deck, [], []⟩
def d_ulaw_pick : He.DefD := ⟨("_law_pick", none), "_law_pick", "_law_pick", defArgs s_ulaw_pick, defBody s_ulaw_pick, defScope s_ulaw_pick, [], []⟩
def d_ulaw_shares : He.DefD := ⟨("_law_shares", none), "_law_shares", "_law_shares", defArgs s_ulaw_shares, defBody s_ulaw_shares, defScope s_ulaw_shares, [], []⟩
def d_ulaw_gcd : He.DefD := ⟨("_law_gcd", none), "_law_gcd", "_law_gcd", defArgs s_ulaw_gcd, defBody s_ulaw_gcd, defScope s_ulaw_gcd, [], []⟩
def d_ulaw_rule : He.DefD := ⟨("_law_rule", none), "_law_rule", "_law_rule", defArgs s_ulaw_rule, defBody s_ulaw_rule, defScope s_ulaw_rule, [], []⟩
def d_ulaw_line : He.DefD := ⟨("_law_line", none), "_law_line", "_law_line", defArgs s_ulaw_line, defBody s_ulaw_line, defScope s_ulaw_line, [], []⟩
def d_ulaw_odd : He.DefD := ⟨("_law_odd", none), "_law_odd", "_law_odd", defArgs s_ulaw_odd, defBody s_ulaw_odd, defScope s_ulaw_odd, [], []⟩
def d_ulaw_names : He.DefD := ⟨("_law_names", none), "_law_names", "_law_names", defArgs s_ulaw_names, defBody s_ulaw_names, defScope s_ulaw_names, [], []⟩
def d_ulaw_shows : He.DefD := ⟨("_law_shows", none), "_law_shows", "_law_shows", defArgs s_ulaw_shows, defBody s_ulaw_shows, defScope s_ulaw_shows, [], []⟩
def d_ulaw_turn : He.DefD := ⟨("_law_turn", none), "_law_turn", "_law_turn", defArgs s_ulaw_turn, defBody s_ulaw_turn, defScope s_ulaw_turn, [], []⟩
def d_ulaw_right : He.DefD := ⟨("_law_right", none), "_law_right", "_law_right", defArgs s_ulaw_right, defBody s_ulaw_right, defScope s_ulaw_right, [], []⟩
def d_law : He.DefD := ⟨("law", none), "law", "law", defArgs s_law, defBody s_law, defScope s_law, [], []⟩
def d_Rule_uuinit__ : He.DefD := ⟨("Rule", some "__init__"), "__init__", "Rule.__init__", defArgs s_Rule_uuinit__, defBody s_Rule_uuinit__, defScope s_Rule_uuinit__, [.int (1), .int (1)], []⟩
def d_Rule_uustr__ : He.DefD := ⟨("Rule", some "__str__"), "__str__", "Rule.__str__", defArgs s_Rule_uustr__, defBody s_Rule_uustr__, defScope s_Rule_uustr__, [], []⟩
def d_Leaf_uuinit__ : He.DefD := ⟨("Leaf", some "__init__"), "__init__", "Leaf.__init__", defArgs s_Leaf_uuinit__, defBody s_Leaf_uuinit__, defScope s_Leaf_uuinit__, [], []⟩
def d_Book_uuinit__ : He.DefD := ⟨("Book", some "__init__"), "__init__", "Book.__init__", defArgs s_Book_uuinit__, defBody s_Book_uuinit__, defScope s_Book_uuinit__, [], []⟩
def d_Book_lay : He.DefD := ⟨("Book", some "lay"), "lay", "Book.lay", defArgs s_Book_lay, defBody s_Book_lay, defScope s_Book_lay, [], []⟩
def d_Book_need : He.DefD := ⟨("Book", some "need"), "need", "Book.need", defArgs s_Book_need, defBody s_Book_need, defScope s_Book_need, [], []⟩
def d_Book_uusetitem__ : He.DefD := ⟨("Book", some "__setitem__"), "__setitem__", "Book.__setitem__", defArgs s_Book_uusetitem__, defBody s_Book_uusetitem__, defScope s_Book_uusetitem__, [], []⟩
def d_Book_uugetitem__ : He.DefD := ⟨("Book", some "__getitem__"), "__getitem__", "Book.__getitem__", defArgs s_Book_uugetitem__, defBody s_Book_uugetitem__, defScope s_Book_uugetitem__, [], []⟩
def d_Book_uucontains__ : He.DefD := ⟨("Book", some "__contains__"), "__contains__", "Book.__contains__", defArgs s_Book_uucontains__, defBody s_Book_uucontains__, defScope s_Book_uucontains__, [], []⟩
def d_Book_uulen__ : He.DefD := ⟨("Book", some "__len__"), "__len__", "Book.__len__", defArgs s_Book_uulen__, defBody s_Book_uulen__, defScope s_Book_uulen__, [], []⟩
def d_Book_uubool__ : He.DefD := ⟨("Book", some "__bool__"), "__bool__", "Book.__bool__", defArgs s_Book_uubool__, defBody s_Book_uubool__, defScope s_Book_uubool__, [], []⟩
def d_Book_remove : He.DefD := ⟨("Book", some "remove"), "remove", "Book.remove", defArgs s_Book_remove, defBody s_Book_remove, defScope s_Book_remove, [], []⟩
def d_Book_undo : He.DefD := ⟨("Book", some "undo"), "undo", "Book.undo", defArgs s_Book_undo, defBody s_Book_undo, defScope s_Book_undo, [], []⟩
def fn0 : List He.DefD := [d_is_integer, d_is_between, d_check_number, d_is_word, d_gcd, d_is_share, d_check_rule, d_names_of, d_answer_to, d_check_claims, d_ulaw_deck, d_ulaw_pick, d_ulaw_shares, d_ulaw_gcd, d_ulaw_rule, d_ulaw_line, d_ulaw_odd, d_ulaw_names, d_ulaw_shows, d_ulaw_turn, d_ulaw_right, d_law, d_Rule_uuinit__, d_Rule_uustr__, d_Leaf_uuinit__, d_Book_uuinit__, d_Book_lay, d_Book_need, d_Book_uusetitem__, d_Book_uugetitem__]
def fn1 : List He.DefD := [d_Book_uucontains__, d_Book_uulen__, d_Book_uubool__, d_Book_remove, d_Book_undo]
def fn : List He.DefD := fn0 ++ fn1
/-! a property's getter: found by the class's name for it -/
structure PropD where
  cls : Str
  attr : Str
  qual : Str
  st : Stmt
def getr (K : PySem.W.Frag) (C m : Str) : Addr := match PySem.W.recIn K (He.ma K (He.ga K C) m) "property" with
  | some (.ref g :: _) => g
  | _ => 0
def fnA (K : PySem.W.Frag) (a : Addr) : He.FnW := match K.lookup a with
  | some ⟨_, _, .func fd, _⟩ => some (fd.name, fd.qualname, fd.params, fd.body, fd.scope, fd.globals, fd.closure, fd.builtins)
  | _ => none
def PropD.val (d : PropD) : He.FnW := some (d.attr, d.qual, defArgs d.st, .stmts (defBody d.st), defScope d.st, mainGlobals, [], builtinsNs)
def propRec (K : PySem.W.Frag) (C m : Str) : Bool := match PySem.W.recIn K (He.ma K (He.ga K C) m) "property" with
  | some (.ref g :: _) => decide (g = getr K C m)
  | _ => false
def PropD.ok (K : PySem.W.Frag) (d : PropD) : Bool := He.eqO (PySem.W.findIn K (.ref (He.ga K d.cls)) d.attr) (some (some (.ref (He.ma K (He.ga K d.cls) d.attr)))) &&
  (He.eqO (PySem.W.specialIn K (.ref (He.ma K (He.ga K d.cls) d.attr)) "__get__") (some (some (.builtin "property.__get__"))) && (decide (PySem.W.takesIn K (.ref (He.ma K (He.ga K d.cls) d.attr)) = some true) &&
  (propRec K d.cls d.attr && (match K.lookup (getr K d.cls d.attr) with
    | some ⟨_, _, .func fd, _⟩ => PySem.W.codeIn K fd.code d.qual && decide (fd.defaults = .none)
    | _ => false))))
structure PropF (K : PySem.W.Frag) (C m qual : Str) (st : Stmt) : Prop where
  p : L2.PropOf K (He.ga K C) m (He.ma K (He.ga K C) m) (getr K C m)
  f : ∃ oc od osl kV doc pm an cdv ct, K.lookup (getr K C m) = some ⟨oc, od, .func (PySem.W.fnOf m qual (defArgs st) (defBody st) (defScope st) .none kV doc pm an cdv ct), osl⟩ ∧ PySem.W.codeIn K cdv qual = true
theorem propRec_ok {K : PySem.W.Frag} {C m : Str} (h : propRec K C m = true) : ∃ rest, PySem.W.recIn K (He.ma K (He.ga K C) m) "property" = some (.ref (getr K C m) :: rest) := by
  unfold propRec at h
  cases q : PySem.W.recIn K (He.ma K (He.ga K C) m) "property" with
  | none => rw [q] at h; cases h
  | some l =>
    rw [q] at h
    cases l with
    | nil => cases h
    | cons a r =>
      cases a with
      | ref g => exact ⟨r, by rw [show g = getr K C m from of_decide_eq_true h]⟩
      | _ => cases h
theorem PropD.prop {K : PySem.W.Frag} {d : PropD} (e : fnA K (getr K d.cls d.attr) = d.val) (c : d.ok K = true) : PropF K d.cls d.attr d.qual d.st := by
  obtain ⟨c1, c⟩ := He.ba c
  obtain ⟨c2, c⟩ := He.ba c
  obtain ⟨c3, c⟩ := He.ba c
  obtain ⟨c4, c5⟩ := He.ba c
  refine ⟨⟨He.eqO_ok c1, He.eqO_ok c2, of_decide_eq_true c3, propRec_ok c4⟩, ?_⟩
  unfold fnA at e
  cases q : K.lookup (getr K d.cls d.attr) with
  | none => rw [q] at c5; cases c5
  | some o =>
    obtain ⟨oc, od, dt, osl⟩ := o
    rw [q] at c5 e
    cases dt with
    | func fd =>
      obtain ⟨n1, n2, n3, n4, n5, n6, n7, n8, n9, n10, n11, n12, n13, n14, n15⟩ := fd
      have e2 : (some (n1, n2, n3, n4, n5, n6, n7, n15) : He.FnW) = some (d.attr, d.qual, defArgs d.st, .stmts (defBody d.st), defScope d.st, mainGlobals, [], builtinsNs) := e
      simp only [Option.some.injEq, Prod.mk.injEq] at e2
      obtain ⟨h1, h2, h3, h4, h5, h6, h7, h8⟩ := e2
      subst h1 h2 h3 h4 h5 h6 h7 h8
      obtain ⟨k1, k2⟩ := He.ba c5
      have k3 : n8 = Value.none := of_decide_eq_true k2
      subst k3
      exact ⟨oc, od, osl, n9, n10, n11, n12, n13, n14, rfl, k1⟩
    | _ => cases c5
def nms0 : List Str := ["is_integer", "is_between", "check_number", "is_word", "gcd", "is_share", "check_rule", "names_of", "answer_to", "check_claims", "_law_deck", "_law_pick", "_law_shares", "_law_gcd", "_law_rule", "_law_line", "_law_odd", "_law_names", "_law_shows", "_law_turn", "_law_right", "law", "Rule", "Leaf", "Book"]
def nms : List Str := nms0
def pr : List PropD := [⟨"Book", "titles", "Book.titles", s_Book_titles⟩, ⟨"Book", "claims", "Book.claims", s_Book_claims⟩, ⟨"Book", "changes", "Book.changes", s_Book_changes⟩]
def e_isi_Rule (K : PySem.W.Frag) : Bool := He.eqO (PySem.W.findIn K (.ref (He.ga K "Rule")) "__class__") (some (some (.builtin "object.__class__"))) && (He.eqO (PySem.W.specialIn K (.builtin "object.__class__") "__get__") (some (some (.builtin "getset_descriptor.__get__"))) && (decide (PySem.W.takesIn K (.builtin "object.__class__") = some true) && decide (PySem.W.mroIn K (He.ga K "Rule") (.type "object") = some true)))
def e_noseq_Book (K : PySem.W.Frag) : Bool := PySem.W.noSeq K (He.ga K "Book")
def e_eqobj_Book (K : PySem.W.Frag) : Bool := He.eqO (PySem.W.findIn K (.ref (He.ga K "Book")) "__eq__") (some (some (.builtin "object.__eq__"))) && (He.eqO (PySem.W.findIn K (.ref (He.ga K "Book")) "__ne__") (some (some (.builtin "object.__ne__"))) && decide (PySem.W.mroIn K (He.ga K "Book") (.type "object") = some true))
def ex : List (PySem.W.Frag → Bool) := [e_isi_Rule, e_noseq_Book, e_eqobj_Book]
abbrev AlP : Type := He.AlD × Bool × List He.FnW
def obsP (K : PySem.W.Frag) : AlP := (He.obsD fa fn K, (pr.all fun d => d.ok K) && ex.all fun f => f K, pr.map fun d => fnA K (getr K d.cls d.attr))
def valP : AlP := (He.valD fn, true, pr.map PropD.val)
def SaysP (K : PySem.W.Frag) : Prop := obsP K = valP
def fnR (g : Addr → Option Obj) (a : Addr) : List Addr := match g a with
  | some ⟨_, _, .func fd, _⟩ => a :: (He.refV fd.code ++ He.refV fd.defaults)
  | _ => [a]
def memR (g : Addr → Option Obj) (a : Addr) : List Addr := match g a with
  | some ⟨_, _, .func fd, _⟩ => a :: (He.refV fd.code ++ He.refV fd.defaults)
  | some ⟨_, _, .fields vs, _⟩ => a :: (vs.toList.flatMap He.refV).flatMap (fnR g)
  | _ => [a]
def clsR (g : Addr → Option Obj) (a : Addr) : List Addr := match g a with
  | some ⟨_, _, .func fd, _⟩ => a :: (He.refV fd.code ++ He.refV fd.defaults)
  | some ⟨_, _, .cls cd, _⟩ => a :: cd.ns :: (match g cd.ns with
    | some ⟨_, _, .dict es _, _⟩ => (es.toList.flatMap fun e => He.refV e.val).flatMap (memR g)
    | _ => [])
  | _ => [a]
def asP (g : Addr → Option Obj) : List Addr := mainGlobals :: nms.flatMap fun x => match PySem.W.nsIn (He.frG g [mainGlobals]) mainGlobals x with
  | some (some (.ref a)) => clsR g a
  | _ => []
def obsPG (_n : Nat) (g : Addr → Option Obj) : AlP := obsP (He.frG g (asP g))
def hookP (n : Nat) : PySem.W.Hook where
  α := AlP
  obs := fun s => obsPG n s.heap.get?
  val := fun _ => valP
  says := fun _ h => ∃ K : PySem.W.Frag, K.In h ∧ SaysP K
  of := fun _ _ e => ⟨_, He.frG_in, e⟩
  keeps := fun _ _ _ ⟨K, hK, c⟩ k => ⟨K, PySem.W.Frag.In.keeps hK k, c⟩
theorem obsPG_eq {n : Nat} {g : Addr → Option Obj} {s : Shared} (h : ∀ a, g a = s.heap.get? a) : obsPG n g = (hookP n).obs s := by
  have e : g = s.heap.get? := funext h
  rw [e] <;> rfl
section
variable {K : PySem.W.Frag}
theorem SaysP.d (c : SaysP K) : He.SaysD fa fn K := congrArg (fun z : AlP => z.1) c
theorem SaysP.fact (c : SaysP K) (i : Nat) {f : He.Fa} (h : fa[i]? = some f := by rfl) : f.ok K = true := c.d.fact i h
theorem SaysP.def_ (c : SaysP K) (i : Nat) {d : He.DefD} (h : fn[i]? = some d := by rfl) : ∃ fd, FunD K d.name d.qual d.params d.body d.scope (d.dvs K) (d.kws K) (He.fAd K d.at_) fd := c.d.def_ i h
theorem SaysP.prop (c : SaysP K) (i : Nat) {d : PropD} (h : pr[i]? = some d := by rfl) : PropF K d.cls d.attr d.qual d.st := by
  have c0 : ((pr.all fun d => d.ok K) && ex.all fun f => f K) = true := congrArg (fun z : AlP => z.2.1) c
  have c1 : pr.all (fun d => d.ok K) = true := (He.ba c0).1
  have e : pr.map (fun d => fnA K (getr K d.cls d.attr)) = pr.map PropD.val := congrArg (fun z : AlP => z.2.2) c
  have e2 : (pr.map fun d => fnA K (getr K d.cls d.attr))[i]? = (pr.map PropD.val)[i]? := by rw [e]
  rw [List.getElem?_map, List.getElem?_map, h] at e2
  exact PropD.prop (Option.some.inj e2) (List.all_eq_true.mp c1 d (List.mem_of_getElem? h))
theorem SaysP.more (c : SaysP K) (i : Nat) {f : PySem.W.Frag → Bool} (h : ex[i]? = some f := by rfl) : f K = true := by
  have c0 : ((pr.all fun d => d.ok K) && ex.all fun f => f K) = true := congrArg (fun z : AlP => z.2.1) c
  exact List.all_eq_true.mp (He.ba c0).2 f (List.mem_of_getElem? h)
end
/-- what the walk asks of the top -/
structure Txt (K : PySem.W.Frag) (mg : Str → Option Value) : Prop where
  says : SaysP K
  glo : ∀ x : Str, (He.Fa.glo x).ok K = true → mg x = some (.ref (He.ga K x))
  free : ∀ x : Str, (He.Fa.free x).ok K = true → mg x = none
  int : ∀ (x : Str) (i : Int), (He.Fa.int x i).ok K = true → ∃ t, mg x = some (.int i t)
  str : ∀ x z : Str, (He.Fa.str x z).ok K = true → ∃ t, mg x = some (.str z t)
theorem Txt.of {K : PySem.W.Frag} {h : Heap} {mg : Str → Option Value} (X : K.In h) (G : h.Ns mainGlobals mg) (c : SaysP K) : Txt K mg :=
  ⟨c, fun _ q => He.glo_ok X G q, fun _ q => He.free_ok X G q, fun _ _ q => He.int_ok X G q, fun _ _ q => He.str_ok X G q⟩
section
variable {K : PySem.W.Frag} {mg : Str → Option Value}
theorem Txt.g_is_integer (T : Txt K mg) : mg "is_integer" = some (.ref (He.ga K "is_integer")) := T.glo _ (T.says.fact (f := .glo "is_integer") 0)
theorem Txt.g_is_between (T : Txt K mg) : mg "is_between" = some (.ref (He.ga K "is_between")) := T.glo _ (T.says.fact (f := .glo "is_between") 1)
theorem Txt.g_check_number (T : Txt K mg) : mg "check_number" = some (.ref (He.ga K "check_number")) := T.glo _ (T.says.fact (f := .glo "check_number") 2)
theorem Txt.g_is_word (T : Txt K mg) : mg "is_word" = some (.ref (He.ga K "is_word")) := T.glo _ (T.says.fact (f := .glo "is_word") 3)
theorem Txt.g_gcd (T : Txt K mg) : mg "gcd" = some (.ref (He.ga K "gcd")) := T.glo _ (T.says.fact (f := .glo "gcd") 4)
theorem Txt.g_is_share (T : Txt K mg) : mg "is_share" = some (.ref (He.ga K "is_share")) := T.glo _ (T.says.fact (f := .glo "is_share") 5)
theorem Txt.g_check_rule (T : Txt K mg) : mg "check_rule" = some (.ref (He.ga K "check_rule")) := T.glo _ (T.says.fact (f := .glo "check_rule") 6)
theorem Txt.g_names_of (T : Txt K mg) : mg "names_of" = some (.ref (He.ga K "names_of")) := T.glo _ (T.says.fact (f := .glo "names_of") 7)
theorem Txt.g_answer_to (T : Txt K mg) : mg "answer_to" = some (.ref (He.ga K "answer_to")) := T.glo _ (T.says.fact (f := .glo "answer_to") 8)
theorem Txt.g_check_claims (T : Txt K mg) : mg "check_claims" = some (.ref (He.ga K "check_claims")) := T.glo _ (T.says.fact (f := .glo "check_claims") 9)
theorem Txt.g_ulaw_deck (T : Txt K mg) : mg "_law_deck" = some (.ref (He.ga K "_law_deck")) := T.glo _ (T.says.fact (f := .glo "_law_deck") 10)
theorem Txt.g_ulaw_pick (T : Txt K mg) : mg "_law_pick" = some (.ref (He.ga K "_law_pick")) := T.glo _ (T.says.fact (f := .glo "_law_pick") 11)
theorem Txt.g_ulaw_shares (T : Txt K mg) : mg "_law_shares" = some (.ref (He.ga K "_law_shares")) := T.glo _ (T.says.fact (f := .glo "_law_shares") 12)
theorem Txt.g_ulaw_gcd (T : Txt K mg) : mg "_law_gcd" = some (.ref (He.ga K "_law_gcd")) := T.glo _ (T.says.fact (f := .glo "_law_gcd") 13)
theorem Txt.g_ulaw_rule (T : Txt K mg) : mg "_law_rule" = some (.ref (He.ga K "_law_rule")) := T.glo _ (T.says.fact (f := .glo "_law_rule") 14)
theorem Txt.g_ulaw_line (T : Txt K mg) : mg "_law_line" = some (.ref (He.ga K "_law_line")) := T.glo _ (T.says.fact (f := .glo "_law_line") 15)
theorem Txt.g_ulaw_odd (T : Txt K mg) : mg "_law_odd" = some (.ref (He.ga K "_law_odd")) := T.glo _ (T.says.fact (f := .glo "_law_odd") 16)
theorem Txt.g_ulaw_names (T : Txt K mg) : mg "_law_names" = some (.ref (He.ga K "_law_names")) := T.glo _ (T.says.fact (f := .glo "_law_names") 17)
theorem Txt.g_ulaw_shows (T : Txt K mg) : mg "_law_shows" = some (.ref (He.ga K "_law_shows")) := T.glo _ (T.says.fact (f := .glo "_law_shows") 18)
theorem Txt.g_ulaw_turn (T : Txt K mg) : mg "_law_turn" = some (.ref (He.ga K "_law_turn")) := T.glo _ (T.says.fact (f := .glo "_law_turn") 19)
theorem Txt.g_ulaw_right (T : Txt K mg) : mg "_law_right" = some (.ref (He.ga K "_law_right")) := T.glo _ (T.says.fact (f := .glo "_law_right") 20)
theorem Txt.g_law (T : Txt K mg) : mg "law" = some (.ref (He.ga K "law")) := T.glo _ (T.says.fact (f := .glo "law") 21)
theorem Txt.g_Rule (T : Txt K mg) : mg "Rule" = some (.ref (He.ga K "Rule")) := T.glo _ (T.says.fact (f := .glo "Rule") 22)
theorem Txt.c_Rule (T : Txt K mg) : Cls K (He.ga K "Rule") := He.cls_ok (T.says.fact (f := .cls "Rule") 23)
theorem Txt.n_Rule_parts (T : Txt K mg) : NoAttr K (He.ga K "Rule") "parts" := He.noat_ok (T.says.fact (f := .noat "Rule" "parts") 24)
theorem Txt.n_Rule_first (T : Txt K mg) : NoAttr K (He.ga K "Rule") "first" := He.noat_ok (T.says.fact (f := .noat "Rule" "first") 25)
theorem Txt.n_Rule_second (T : Txt K mg) : NoAttr K (He.ga K "Rule") "second" := He.noat_ok (T.says.fact (f := .noat "Rule" "second") 26)
theorem Txt.n_Rule_moduli (T : Txt K mg) : NoAttr K (He.ga K "Rule") "moduli" := He.noat_ok (T.says.fact (f := .noat "Rule" "moduli") 27)
theorem Txt.mk_Rule (T : Txt K mg) : Mk K (He.ga K "Rule") (He.ma K (He.ga K "Rule") "__init__") := He.mkr_ok (T.says.fact (f := .mkr "Rule") 28)
theorem Txt.m_Rule_uustr__ (T : Txt K mg) : Meth K (He.ga K "Rule") "__str__" (He.ma K (He.ga K "Rule") "__str__") := He.meth_ok (T.says.fact (f := .meth "Rule" "__str__") 29)
theorem Txt.g_Leaf (T : Txt K mg) : mg "Leaf" = some (.ref (He.ga K "Leaf")) := T.glo _ (T.says.fact (f := .glo "Leaf") 30)
theorem Txt.c_Leaf (T : Txt K mg) : Cls K (He.ga K "Leaf") := He.cls_ok (T.says.fact (f := .cls "Leaf") 31)
theorem Txt.n_Leaf_shelf (T : Txt K mg) : NoAttr K (He.ga K "Leaf") "shelf" := He.noat_ok (T.says.fact (f := .noat "Leaf" "shelf") 32)
theorem Txt.n_Leaf_told (T : Txt K mg) : NoAttr K (He.ga K "Leaf") "told" := He.noat_ok (T.says.fact (f := .noat "Leaf" "told") 33)
theorem Txt.n_Leaf_below (T : Txt K mg) : NoAttr K (He.ga K "Leaf") "below" := He.noat_ok (T.says.fact (f := .noat "Leaf" "below") 34)
theorem Txt.n_Leaf_depth (T : Txt K mg) : NoAttr K (He.ga K "Leaf") "depth" := He.noat_ok (T.says.fact (f := .noat "Leaf" "depth") 35)
theorem Txt.mk_Leaf (T : Txt K mg) : Mk K (He.ga K "Leaf") (He.ma K (He.ga K "Leaf") "__init__") := He.mkr_ok (T.says.fact (f := .mkr "Leaf") 36)
theorem Txt.g_Book (T : Txt K mg) : mg "Book" = some (.ref (He.ga K "Book")) := T.glo _ (T.says.fact (f := .glo "Book") 37)
theorem Txt.c_Book (T : Txt K mg) : Cls K (He.ga K "Book") := He.cls_ok (T.says.fact (f := .cls "Book") 38)
theorem Txt.n_Book_leaf (T : Txt K mg) : NoAttr K (He.ga K "Book") "leaf" := He.noat_ok (T.says.fact (f := .noat "Book" "leaf") 39)
theorem Txt.mk_Book (T : Txt K mg) : Mk K (He.ga K "Book") (He.ma K (He.ga K "Book") "__init__") := He.mkr_ok (T.says.fact (f := .mkr "Book") 40)
theorem Txt.m_Book_lay (T : Txt K mg) : Meth K (He.ga K "Book") "lay" (He.ma K (He.ga K "Book") "lay") := He.meth_ok (T.says.fact (f := .meth "Book" "lay") 41)
theorem Txt.m_Book_need (T : Txt K mg) : Meth K (He.ga K "Book") "need" (He.ma K (He.ga K "Book") "need") := He.meth_ok (T.says.fact (f := .meth "Book" "need") 42)
theorem Txt.m_Book_uusetitem__ (T : Txt K mg) : Meth K (He.ga K "Book") "__setitem__" (He.ma K (He.ga K "Book") "__setitem__") := He.meth_ok (T.says.fact (f := .meth "Book" "__setitem__") 43)
theorem Txt.m_Book_uugetitem__ (T : Txt K mg) : Meth K (He.ga K "Book") "__getitem__" (He.ma K (He.ga K "Book") "__getitem__") := He.meth_ok (T.says.fact (f := .meth "Book" "__getitem__") 44)
theorem Txt.m_Book_uucontains__ (T : Txt K mg) : Meth K (He.ga K "Book") "__contains__" (He.ma K (He.ga K "Book") "__contains__") := He.meth_ok (T.says.fact (f := .meth "Book" "__contains__") 45)
theorem Txt.m_Book_uulen__ (T : Txt K mg) : Meth K (He.ga K "Book") "__len__" (He.ma K (He.ga K "Book") "__len__") := He.meth_ok (T.says.fact (f := .meth "Book" "__len__") 46)
theorem Txt.m_Book_uubool__ (T : Txt K mg) : Meth K (He.ga K "Book") "__bool__" (He.ma K (He.ga K "Book") "__bool__") := He.meth_ok (T.says.fact (f := .meth "Book" "__bool__") 47)
theorem Txt.m_Book_remove (T : Txt K mg) : Meth K (He.ga K "Book") "remove" (He.ma K (He.ga K "Book") "remove") := He.meth_ok (T.says.fact (f := .meth "Book" "remove") 48)
theorem Txt.m_Book_undo (T : Txt K mg) : Meth K (He.ga K "Book") "undo" (He.ma K (He.ga K "Book") "undo") := He.meth_ok (T.says.fact (f := .meth "Book" "undo") 49)
theorem Txt.z_isinstance (T : Txt K mg) : mg "isinstance" = none := T.free _ (T.says.fact (f := .free "isinstance") 50)
theorem Txt.z_int (T : Txt K mg) : mg "int" = none := T.free _ (T.says.fact (f := .free "int") 51)
theorem Txt.z_bool (T : Txt K mg) : mg "bool" = none := T.free _ (T.says.fact (f := .free "bool") 52)
theorem Txt.z_str (T : Txt K mg) : mg "str" = none := T.free _ (T.says.fact (f := .free "str") 53)
theorem Txt.z_len (T : Txt K mg) : mg "len" = none := T.free _ (T.says.fact (f := .free "len") 54)
theorem Txt.z_range (T : Txt K mg) : mg "range" = none := T.free _ (T.says.fact (f := .free "range") 55)
theorem Txt.z_tuple (T : Txt K mg) : mg "tuple" = none := T.free _ (T.says.fact (f := .free "tuple") 56)
theorem Txt.z_sorted (T : Txt K mg) : mg "sorted" = none := T.free _ (T.says.fact (f := .free "sorted") 57)
theorem Txt.z_enumerate (T : Txt K mg) : mg "enumerate" = none := T.free _ (T.says.fact (f := .free "enumerate") 58)
theorem Txt.z_abs (T : Txt K mg) : mg "abs" = none := T.free _ (T.says.fact (f := .free "abs") 59)
theorem Txt.z_min (T : Txt K mg) : mg "min" = none := T.free _ (T.says.fact (f := .free "min") 60)
theorem Txt.z_max (T : Txt K mg) : mg "max" = none := T.free _ (T.says.fact (f := .free "max") 61)
theorem Txt.z_divmod (T : Txt K mg) : mg "divmod" = none := T.free _ (T.says.fact (f := .free "divmod") 62)
theorem Txt.z_repr (T : Txt K mg) : mg "repr" = none := T.free _ (T.says.fact (f := .free "repr") 63)
theorem Txt.z_all (T : Txt K mg) : mg "all" = none := T.free _ (T.says.fact (f := .free "all") 64)
theorem Txt.z_dict (T : Txt K mg) : mg "dict" = none := T.free _ (T.says.fact (f := .free "dict") 65)
theorem Txt.i_MOST_PARTS (T : Txt K mg) : ∃ t, mg "MOST_PARTS" = some (.int (12) t) := T.int _ _ (T.says.fact (f := .int "MOST_PARTS" (12)) 66)
theorem Txt.i_MOST_SHARE (T : Txt K mg) : ∃ t, mg "MOST_SHARE" = some (.int (12) t) := T.int _ _ (T.says.fact (f := .int "MOST_SHARE" (12)) 67)
theorem Txt.t_LETTERS (T : Txt K mg) : ∃ t, mg "LETTERS" = some (.str "abcdefghijklmnopqrstuvwxyz" t) := T.str _ _ (T.says.fact (f := .str "LETTERS" "abcdefghijklmnopqrstuvwxyz") 68)
theorem Txt.f_is_integer (T : Txt K mg) : ∃ fd, FunD K "is_integer" "is_integer" (defArgs s_is_integer) (defBody s_is_integer) (defScope s_is_integer) [] [] (He.fAd K ("is_integer", none)) fd := T.says.def_ (d := d_is_integer) 0
theorem Txt.f_is_between (T : Txt K mg) : ∃ fd, FunD K "is_between" "is_between" (defArgs s_is_between) (defBody s_is_between) (defScope s_is_between) [] [] (He.fAd K ("is_between", none)) fd := T.says.def_ (d := d_is_between) 1
theorem Txt.f_check_number (T : Txt K mg) : ∃ fd, FunD K "check_number" "check_number" (defArgs s_check_number) (defBody s_check_number) (defScope s_check_number) [] [] (He.fAd K ("check_number", none)) fd := T.says.def_ (d := d_check_number) 2
theorem Txt.f_is_word (T : Txt K mg) : ∃ fd, FunD K "is_word" "is_word" (defArgs s_is_word) (defBody s_is_word) (defScope s_is_word) [] [] (He.fAd K ("is_word", none)) fd := T.says.def_ (d := d_is_word) 3
theorem Txt.f_gcd (T : Txt K mg) : ∃ fd, FunD K "gcd" "gcd" (defArgs s_gcd) (defBody s_gcd) (defScope s_gcd) [] [] (He.fAd K ("gcd", none)) fd := T.says.def_ (d := d_gcd) 4
theorem Txt.f_is_share (T : Txt K mg) : ∃ fd, FunD K "is_share" "is_share" (defArgs s_is_share) (defBody s_is_share) (defScope s_is_share) [] [] (He.fAd K ("is_share", none)) fd := T.says.def_ (d := d_is_share) 5
theorem Txt.f_check_rule (T : Txt K mg) : ∃ fd, FunD K "check_rule" "check_rule" (defArgs s_check_rule) (defBody s_check_rule) (defScope s_check_rule) [] [] (He.fAd K ("check_rule", none)) fd := T.says.def_ (d := d_check_rule) 6
theorem Txt.f_names_of (T : Txt K mg) : ∃ fd, FunD K "names_of" "names_of" (defArgs s_names_of) (defBody s_names_of) (defScope s_names_of) [] [] (He.fAd K ("names_of", none)) fd := T.says.def_ (d := d_names_of) 7
theorem Txt.f_answer_to (T : Txt K mg) : ∃ fd, FunD K "answer_to" "answer_to" (defArgs s_answer_to) (defBody s_answer_to) (defScope s_answer_to) [] [] (He.fAd K ("answer_to", none)) fd := T.says.def_ (d := d_answer_to) 8
theorem Txt.f_check_claims (T : Txt K mg) : ∃ fd, FunD K "check_claims" "check_claims" (defArgs s_check_claims) (defBody s_check_claims) (defScope s_check_claims) [] [] (He.fAd K ("check_claims", none)) fd := T.says.def_ (d := d_check_claims) 9
theorem Txt.f_ulaw_deck (T : Txt K mg) : ∃ fd, FunD K "_law_deck" "_law_deck" (defArgs s_ulaw_deck) (defBody s_ulaw_deck) (defScope s_ulaw_deck) [] [] (He.fAd K ("_law_deck", none)) fd := T.says.def_ (d := d_ulaw_deck) 10
theorem Txt.f_ulaw_pick (T : Txt K mg) : ∃ fd, FunD K "_law_pick" "_law_pick" (defArgs s_ulaw_pick) (defBody s_ulaw_pick) (defScope s_ulaw_pick) [] [] (He.fAd K ("_law_pick", none)) fd := T.says.def_ (d := d_ulaw_pick) 11
theorem Txt.f_ulaw_shares (T : Txt K mg) : ∃ fd, FunD K "_law_shares" "_law_shares" (defArgs s_ulaw_shares) (defBody s_ulaw_shares) (defScope s_ulaw_shares) [] [] (He.fAd K ("_law_shares", none)) fd := T.says.def_ (d := d_ulaw_shares) 12
theorem Txt.f_ulaw_gcd (T : Txt K mg) : ∃ fd, FunD K "_law_gcd" "_law_gcd" (defArgs s_ulaw_gcd) (defBody s_ulaw_gcd) (defScope s_ulaw_gcd) [] [] (He.fAd K ("_law_gcd", none)) fd := T.says.def_ (d := d_ulaw_gcd) 13
theorem Txt.f_ulaw_rule (T : Txt K mg) : ∃ fd, FunD K "_law_rule" "_law_rule" (defArgs s_ulaw_rule) (defBody s_ulaw_rule) (defScope s_ulaw_rule) [] [] (He.fAd K ("_law_rule", none)) fd := T.says.def_ (d := d_ulaw_rule) 14
theorem Txt.f_ulaw_line (T : Txt K mg) : ∃ fd, FunD K "_law_line" "_law_line" (defArgs s_ulaw_line) (defBody s_ulaw_line) (defScope s_ulaw_line) [] [] (He.fAd K ("_law_line", none)) fd := T.says.def_ (d := d_ulaw_line) 15
theorem Txt.f_ulaw_odd (T : Txt K mg) : ∃ fd, FunD K "_law_odd" "_law_odd" (defArgs s_ulaw_odd) (defBody s_ulaw_odd) (defScope s_ulaw_odd) [] [] (He.fAd K ("_law_odd", none)) fd := T.says.def_ (d := d_ulaw_odd) 16
theorem Txt.f_ulaw_names (T : Txt K mg) : ∃ fd, FunD K "_law_names" "_law_names" (defArgs s_ulaw_names) (defBody s_ulaw_names) (defScope s_ulaw_names) [] [] (He.fAd K ("_law_names", none)) fd := T.says.def_ (d := d_ulaw_names) 17
theorem Txt.f_ulaw_shows (T : Txt K mg) : ∃ fd, FunD K "_law_shows" "_law_shows" (defArgs s_ulaw_shows) (defBody s_ulaw_shows) (defScope s_ulaw_shows) [] [] (He.fAd K ("_law_shows", none)) fd := T.says.def_ (d := d_ulaw_shows) 18
theorem Txt.f_ulaw_turn (T : Txt K mg) : ∃ fd, FunD K "_law_turn" "_law_turn" (defArgs s_ulaw_turn) (defBody s_ulaw_turn) (defScope s_ulaw_turn) [] [] (He.fAd K ("_law_turn", none)) fd := T.says.def_ (d := d_ulaw_turn) 19
theorem Txt.f_ulaw_right (T : Txt K mg) : ∃ fd, FunD K "_law_right" "_law_right" (defArgs s_ulaw_right) (defBody s_ulaw_right) (defScope s_ulaw_right) [] [] (He.fAd K ("_law_right", none)) fd := T.says.def_ (d := d_ulaw_right) 20
theorem Txt.f_law (T : Txt K mg) : ∃ fd, FunD K "law" "law" (defArgs s_law) (defBody s_law) (defScope s_law) [] [] (He.fAd K ("law", none)) fd := T.says.def_ (d := d_law) 21
theorem Txt.f_Rule_uuinit__ (T : Txt K mg) : ∃ fd, FunD K "__init__" "Rule.__init__" (defArgs s_Rule_uuinit__) (defBody s_Rule_uuinit__) (defScope s_Rule_uuinit__) [.int (1), .int (1)] [] (He.fAd K ("Rule", some "__init__")) fd := T.says.def_ (d := d_Rule_uuinit__) 22
theorem Txt.f_Rule_uustr__ (T : Txt K mg) : ∃ fd, FunD K "__str__" "Rule.__str__" (defArgs s_Rule_uustr__) (defBody s_Rule_uustr__) (defScope s_Rule_uustr__) [] [] (He.fAd K ("Rule", some "__str__")) fd := T.says.def_ (d := d_Rule_uustr__) 23
theorem Txt.f_Leaf_uuinit__ (T : Txt K mg) : ∃ fd, FunD K "__init__" "Leaf.__init__" (defArgs s_Leaf_uuinit__) (defBody s_Leaf_uuinit__) (defScope s_Leaf_uuinit__) [] [] (He.fAd K ("Leaf", some "__init__")) fd := T.says.def_ (d := d_Leaf_uuinit__) 24
theorem Txt.f_Book_uuinit__ (T : Txt K mg) : ∃ fd, FunD K "__init__" "Book.__init__" (defArgs s_Book_uuinit__) (defBody s_Book_uuinit__) (defScope s_Book_uuinit__) [] [] (He.fAd K ("Book", some "__init__")) fd := T.says.def_ (d := d_Book_uuinit__) 25
theorem Txt.f_Book_lay (T : Txt K mg) : ∃ fd, FunD K "lay" "Book.lay" (defArgs s_Book_lay) (defBody s_Book_lay) (defScope s_Book_lay) [] [] (He.fAd K ("Book", some "lay")) fd := T.says.def_ (d := d_Book_lay) 26
theorem Txt.f_Book_need (T : Txt K mg) : ∃ fd, FunD K "need" "Book.need" (defArgs s_Book_need) (defBody s_Book_need) (defScope s_Book_need) [] [] (He.fAd K ("Book", some "need")) fd := T.says.def_ (d := d_Book_need) 27
theorem Txt.f_Book_uusetitem__ (T : Txt K mg) : ∃ fd, FunD K "__setitem__" "Book.__setitem__" (defArgs s_Book_uusetitem__) (defBody s_Book_uusetitem__) (defScope s_Book_uusetitem__) [] [] (He.fAd K ("Book", some "__setitem__")) fd := T.says.def_ (d := d_Book_uusetitem__) 28
theorem Txt.f_Book_uugetitem__ (T : Txt K mg) : ∃ fd, FunD K "__getitem__" "Book.__getitem__" (defArgs s_Book_uugetitem__) (defBody s_Book_uugetitem__) (defScope s_Book_uugetitem__) [] [] (He.fAd K ("Book", some "__getitem__")) fd := T.says.def_ (d := d_Book_uugetitem__) 29
theorem Txt.f_Book_uucontains__ (T : Txt K mg) : ∃ fd, FunD K "__contains__" "Book.__contains__" (defArgs s_Book_uucontains__) (defBody s_Book_uucontains__) (defScope s_Book_uucontains__) [] [] (He.fAd K ("Book", some "__contains__")) fd := T.says.def_ (d := d_Book_uucontains__) 30
theorem Txt.f_Book_uulen__ (T : Txt K mg) : ∃ fd, FunD K "__len__" "Book.__len__" (defArgs s_Book_uulen__) (defBody s_Book_uulen__) (defScope s_Book_uulen__) [] [] (He.fAd K ("Book", some "__len__")) fd := T.says.def_ (d := d_Book_uulen__) 31
theorem Txt.f_Book_uubool__ (T : Txt K mg) : ∃ fd, FunD K "__bool__" "Book.__bool__" (defArgs s_Book_uubool__) (defBody s_Book_uubool__) (defScope s_Book_uubool__) [] [] (He.fAd K ("Book", some "__bool__")) fd := T.says.def_ (d := d_Book_uubool__) 32
theorem Txt.f_Book_remove (T : Txt K mg) : ∃ fd, FunD K "remove" "Book.remove" (defArgs s_Book_remove) (defBody s_Book_remove) (defScope s_Book_remove) [] [] (He.fAd K ("Book", some "remove")) fd := T.says.def_ (d := d_Book_remove) 33
theorem Txt.f_Book_undo (T : Txt K mg) : ∃ fd, FunD K "undo" "Book.undo" (defArgs s_Book_undo) (defBody s_Book_undo) (defScope s_Book_undo) [] [] (He.fAd K ("Book", some "undo")) fd := T.says.def_ (d := d_Book_undo) 34
theorem Txt.p_Book_titles (T : Txt K mg) : PropF K "Book" "titles" "Book.titles" s_Book_titles := T.says.prop (d := ⟨"Book", "titles", "Book.titles", s_Book_titles⟩) 0
theorem Txt.p_Book_claims (T : Txt K mg) : PropF K "Book" "claims" "Book.claims" s_Book_claims := T.says.prop (d := ⟨"Book", "claims", "Book.claims", s_Book_claims⟩) 1
theorem Txt.p_Book_changes (T : Txt K mg) : PropF K "Book" "changes" "Book.changes" s_Book_changes := T.says.prop (d := ⟨"Book", "changes", "Book.changes", s_Book_changes⟩) 2
theorem Txt.x_isi_Rule (T : Txt K mg) : e_isi_Rule K = true := T.says.more 0
theorem Txt.x_noseq_Book (T : Txt K mg) : e_noseq_Book K = true := T.says.more 1
theorem Txt.x_eqobj_Book (T : Txt K mg) : e_eqobj_Book K = true := T.says.more 2
theorem Txt.ty_Rule (T : Txt K mg) {H : Hp} {a dx : Addr} {fs : List (Str × V)} (h : H a = some (.ins (He.ga K "Rule") dx fs)) : TyOf K H (.ref a) (.ref (He.ga K "Rule")) := by
  obtain ⟨c1, c⟩ := He.ba T.x_isi_Rule
  obtain ⟨c2, c⟩ := He.ba c
  obtain ⟨c3, c4⟩ := He.ba c
  exact .ins h T.c_Rule (He.eqO_ok c1) (He.eqO_ok c2) (of_decide_eq_true c3) (of_decide_eq_true c4)
end
def ls0 : List PySem.Str := ["_wall", "__name__", "BadValue", "InvalidText", "InvalidNumber", "InvalidName", "InvalidClaim", "NotARule", "NotANumber", "InvalidFactors", "BadName", "UnknownName", "InUse", "NoAnswer", "TooMany", "NothingToUndo", "Broken", "MOST_PARTS", "MOST_SHARE", "MOST_PRIME", "MOST_PRIMES", "MOST_EXPONENT", "MOST_VALUE", "MOST_TIMES", "MOST_LOOK", "LETTERS", "FIGURES", "is_integer", "is_between", "check_number"]
def ls1 : List PySem.Str := ["is_word", "decimal", "gcd", "MOST_SMALL", "MOST_MODULUS", "LONG_EXPONENT", "is_prime", "factors_of", "is_factor", "check_factors", "value_of", "power_rest", "read_factor", "number_of", "number_with", "check_value", "Number", "is_share", "Rule", "rule_of", "check_rule", "units", "powers", "added", "counts_of", "spares", "core_factors", "Core", "check_pair", "powers_of"]
def ls2 : List PySem.Str := ["spread", "reach_of", "goes_by", "counted", "is_part", "with_rest", "least_from", "least_of", "goes", "check_times", "check_class", "class_of", "least_place", "always_of", "always", "first_with", "first_failing", "beyond", "counted_beyond", "MOST_CLASS", "is_claim", "names_of", "shown_failing", "answer_always", "answer_within", "answer_to", "check_claims", "Leaf", "Book", "_law_deck"]
def ls3 : List PySem.Str := ["_law_pick", "_law_shares", "_law_gcd", "_law_rule", "_law_line", "_law_odd", "_law_names", "_law_shows", "_law_turn", "_law_right"]
def ls : List PySem.Str := ls0 ++ ls1 ++ ls2 ++ ls3
abbrev R : PySem.W.OpenRow := PySem.W.OpenLaw.row PySem.Challenge.rw_unitpairs_k62_books_kept
abbrev hk : PySem.W.Hook := hookP 5
def ob (s : PySem.W.SharedT) : AlP := obsPG 5 (HandSHeadRun.getT s)
theorem ob_eq (s : PySem.W.SharedT) : ob s = hk.obs s.abs := obsPG_eq (HandSHeadRun.getT_eq s)
theorem run (w : World) : HandSHeadRun.RunEq R (PySem.W.view R.prog [110]) hk ob 20000 ls w := by
  intro os
  kernel_rfl
end K62

set_option Elab.async false
set_option linter.all false
set_option maxRecDepth 100000
set_option maxHeartbeats 4000000
namespace K62
open PySem PySem.Spec PyProof.Rows L2 Bk
section
variable {P : Program} {w : World} {K : PySem.W.Frag} {mg : Str → Option Value} {base : Heap}

/-! ### is_integer -/
def spIsInt (K : PySem.W.Frag) : Sp := fun vs H Q _ => ∃ x t b1 b2, vs = [x] ∧ TyX K H x t ∧ PySem.W.kitOne K t (.type "int") = some b1 ∧ PySem.W.kitOne K t (.type "bool") = some b2 ∧ Q (.bl (b1 && !b2)) H
theorem sc_is_integer : FnScope ["value"] ["value"] (defScope s_is_integer) := ⟨rfl, rfl, rfl, by decide +kernel, rfl, by decide +kernel, by decide +kernel⟩
theorem ok_is_integer (T : Txt K mg) : Ok P w K mg base 1 (He.ga K "is_integer") ["value"] (spIsInt K) := by
  refine fd_ok T.f_is_integer sc_is_integer (fun vs H Q E h => ?_) (fun _ _ _ _ _ _ us hl => match us, hl with | [_], _ => rfl) (fun cdv A outer s H vs Q E hr h => ?_)
  · obtain ⟨x, t, b1, b2, rfl, _⟩ := h
    rfl
  · obtain ⟨x, t, b1, b2, rfl, ty, k1, k2, q⟩ := h
    refine ⟨_, pss_one (ps_ret (pe_and (pe_callB call_isi rfl T.z_isinstance (by decide +kernel) (pa_cons (pv 0) (pa_cons (pe_bltn rfl T.z_int (by decide +kernel) (v := .ty "int") rfl) pa_nil)))
      (pe_one (pe_not (pe_callB call_isi rfl T.z_isinstance (by decide +kernel) (pa_cons (pv 0) (pa_cons (pe_bltn rfl T.z_bool (by decide +kernel) (v := .ty "bool") rfl) pa_nil))))))), ?_⟩
    refine ⟨_, rfl, _, _, t, _, b1, rfl, .ty _, ty, k1, b1, rfl, ?_⟩
    cases b1 with
    | false => exact iteF q
    | true => exact iteT ⟨_, rfl, _, _, t, _, b2, rfl, .ty _, ty, k2, b2, rfl, q⟩
theorem kit_ii : PySem.W.kitOne K (.type "int") (.type "int") = some true := by rfl
theorem kit_ib : PySem.W.kitOne K (.type "int") (.type "bool") = some false := by rfl
theorem isInt_int (i : Int) (H : Hp) (Q : VK) (E : XK) (q : Q (.bl true) H) : spIsInt K [.int i] H Q E := ⟨_, _, true, false, rfl, .base (.int i), kit_ii, kit_ib, q⟩

/-! ### is_between, of ints -/
def spBetween : Sp := fun vs H Q _ => ∃ i lo hi : Int, vs = [.int i, .int lo, .int hi] ∧ Q (.bl (decide (lo ≤ i) && decide (i ≤ hi))) H
theorem sc_is_between : FnScope ["value", "least", "most"] ["value", "least", "most"] (defScope s_is_between) := ⟨rfl, rfl, rfl, by decide +kernel, rfl, by decide +kernel, by decide +kernel⟩
theorem ok_is_between (T : Txt K mg) : Ok P w K mg base 2 (He.ga K "is_between") ["value", "least", "most"] spBetween := by
  obtain ⟨fd1, F1, b1, k1, _⟩ := (ok_is_integer (P := P) (w := w) (base := base) T).ex
  refine fd_ok T.f_is_between sc_is_between (fun vs H Q E h => ?_) (fun _ _ _ _ _ _ us hl => match us, hl with | [_, _, _], _ => rfl) (fun cdv A outer s H vs Q E hr h => ?_)
  · obtain ⟨i, lo, hi, rfl, _⟩ := h
    rfl
  · obtain ⟨i, lo, hi, rfl, q⟩ := h
    refine ⟨_, pss_one (ps_ret (pe_and (pe_call F1 hr rfl T.g_is_integer k1 b1 .nil pass0 (pa_cons (pv 0) pa_nil)) (pe_one (pe_chain op_le op_le (pv 1) (pv 0) (pv 2))))), ?_⟩
    refine ⟨_, rfl, _, _, true, false, rfl, .base (.int i), kit_ii, kit_ib, true, rfl, iteT ?_⟩
    refine ⟨_, rfl, _, rfl, _, _, rfl, rfl, _, rfl, ?_⟩
    cases e : decide (lo ≤ i) with
    | false =>
      rw [e] at q
      exact iteF q
    | true =>
      rw [e] at q
      exact iteT ⟨_, rfl, _, _, rfl, rfl, q⟩

/-! ### check_number, of an int within the bounds -/
def spCheck : Sp := fun vs H Q _ => ∃ i lo hi : Int, vs = [.int i, .int lo, .int hi] ∧ (lo ≤ i ∧ i ≤ hi) ∧ Q .non H
theorem sc_check_number : FnScope ["value", "least", "most"] ["value", "least", "most"] (defScope s_check_number) := ⟨rfl, rfl, rfl, by decide +kernel, rfl, by decide +kernel, by decide +kernel⟩
theorem ok_check_number (T : Txt K mg) : Ok P w K mg base 3 (He.ga K "check_number") ["value", "least", "most"] spCheck := by
  obtain ⟨fd1, F1, b1, k1, _⟩ := (ok_is_between (P := P) (w := w) (base := base) T).ex
  refine fd_ok T.f_check_number sc_check_number (fun vs H Q E h => ?_) (fun _ _ _ _ _ _ us hl => match us, hl with | [_, _, _], _ => rfl) (fun cdv A outer s H vs Q E hr h => ?_)
  · obtain ⟨i, lo, hi, rfl, _⟩ := h
    rfl
  · obtain ⟨i, lo, hi, rfl, ⟨h1, h2⟩, q⟩ := h
    refine ⟨_, pss_one (ps_if (pt_not (pt_val (pe_call F1 hr rfl T.g_is_between k1 b1 .nil pass0 (pa_cons (pv 0) (pa_cons (pv 1) (pa_cons (pv 2) pa_nil)))))) (pss_one ps_never) pss_nil), ?_⟩
    refine ⟨_, rfl, _, rfl, _, rfl, i, lo, hi, rfl, _, rfl, ?_⟩
    rw [decide_eq_true h1, decide_eq_true h2]
    exact iteF q

/-! ### gcd -/
def spGcd : Sp := fun vs H Q _ => ∃ i j : Nat, vs = [.int i, .int j] ∧ Q (.int (Nat.gcd i j : Nat)) H
theorem sc_gcd : FnScope ["one", "other"] ["one", "other"] (defScope s_gcd) := ⟨rfl, rfl, rfl, by decide +kernel, rfl, by decide +kernel, by decide +kernel⟩
theorem ok_gcd (T : Txt K mg) : Ok P w K mg base 1 (He.ga K "gcd") ["one", "other"] spGcd := by
  refine fd_ok T.f_gcd sc_gcd (fun vs H Q E h => ?_) (fun _ _ _ _ _ _ us hl => match us, hl with | [_, _], _ => rfl) (fun cdv A outer s H vs Q E hr h => ?_)
  · obtain ⟨i, j, rfl, _⟩ := h
    rfl
  · obtain ⟨i, j, rfl, q⟩ := h
    refine ⟨_, pss_cons (ps_while PassesOwn.never (pt_cmpR op_gt (pv 1) pe_int (nomark _))
      (pss_one (ps_par (i := 0) (j := 1) rfl sc_gcd.nd rfl rfl (by decide) rfl rfl (pa_cons (pv 1) (pa_cons (pe_op op_mod (pe_callTy call_int1 rfl T.z_int (by decide +kernel) (pa_cons (pv 0) pa_nil)) (pv 1)) pa_nil)) (by rfl))))
      (pss_one (ps_ret (pv 0))), ?_⟩
    refine ⟨fun m σ H' => ∃ a b : Nat, σ = [some (.int a), some (.int b)] ∧ H' = H ∧ Nat.gcd a b = Nat.gcd i j ∧ m = b, ⟨j, i, j, rfl, rfl, rfl, rfl⟩, ?_⟩
    rintro m σ H1 ⟨a, b, rfl, e1, hg, rfl⟩
    cases e1
    refine ⟨_, rfl, _, _, rfl, rfl, _, rfl, ?_⟩
    refine ite2 (fun hb => ?_) (fun hb => ?_)
    · have hb' : 0 < m := by have := of_decide_eq_true hb; omega
      refine ⟨fun σ H' => ∃ a' b' : Nat, σ = [some (.int a'), some (.int b')] ∧ H' = H ∧ Nat.gcd a' b' = Nat.gcd i j ∧ b' < m, fun σ' H' ⟨a', b', e1, e2, e3, e4⟩ => ⟨b', e4, a', b', e1, e2, e3, rfl⟩, ?_⟩
      refine ⟨_, rfl, _, rfl, .inl ⟨_, rfl, _, rfl, _, _, rfl, rfl, (by omega), ?_⟩⟩
      refine ⟨_, _, rfl, m, a % m, ?_, rfl, ?_, Nat.mod_lt _ hb'⟩
      · show [some (V.int m), some (V.int ((a : Int) % (m : Int)))] = _
        rw [show ((a : Int) % (m : Int)) = ((a % m : Nat) : Int) by omega]
      · rw [← hg, Nat.gcd_comm a m, Nat.gcd_rec m a, Nat.gcd_comm]
    · have hb' : m = 0 := by
        have : ¬ (0 : Int) < (m : Int) := fun z => hb (decide_eq_true z)
        omega
      subst hb'
      refine ⟨_, rfl, ?_⟩
      rw [Nat.gcd_zero_right] at hg
      subst hg
      exact q
end
end K62

set_option Elab.async false
set_option linter.all false
set_option maxRecDepth 100000
set_option maxHeartbeats 4000000
namespace K62
open PySem PySem.Spec PyProof.Rows L2 Bk Evl
section
variable {P : Program} {w : World} {K : PySem.W.Frag} {mg : Str → Option Value} {base : Heap}

/-! ### is_share -/
def shareB (a c : Nat) : Bool := (decide (1 ≤ c) && decide (c ≤ 12)) && decide (Nat.gcd c a = 1)
def spShare : Sp := fun vs H Q _ => ∃ a c : Nat, vs = [.int a, .int c] ∧ Q (.bl (shareB a c)) H
theorem sc_is_share : FnScope ["parts", "value"] ["parts", "value"] (defScope s_is_share) := ⟨rfl, rfl, rfl, by decide +kernel, rfl, by decide +kernel, by decide +kernel⟩
theorem ok_is_share (T : Txt K mg) : Ok P w K mg base 3 (He.ga K "is_share") ["parts", "value"] spShare := by
  obtain ⟨fd1, F1, b1, k1, _⟩ := (ok_is_between (P := P) (w := w) (base := base) T).ex
  obtain ⟨fd2, F2, b2, k2, _⟩ := (ok_gcd (P := P) (w := w) (base := base) T).ex
  obtain ⟨t12, m12⟩ := T.i_MOST_SHARE
  refine fd_ok T.f_is_share sc_is_share (fun vs H Q E h => ?_) (fun _ _ _ _ _ _ us hl => match us, hl with | [_, _], _ => rfl) (fun cdv A outer s H vs Q E hr h => ?_)
  · obtain ⟨a, c, rfl, _⟩ := h
    rfl
  · obtain ⟨a, c, rfl, q⟩ := h
    have hr1 : Room 1 _ := hr.mono (by decide)
    refine ⟨_, pss_one (ps_ret (pe_and (pe_call F1 hr rfl T.g_is_between k1 b1 .nil pass0 (pa_cons (pv 1) (pa_cons pe_int (pa_cons (pe_glob (v := .int 12) rfl m12 ⟨_, rfl⟩) pa_nil))))
      (pe_one (pe_cmpR op_eq (pe_call F2 hr1 rfl T.g_gcd k2 b2 .nil pass0 (pa_cons (pv 1) (pa_cons (pv 0) pa_nil))) pe_int (nomark _))))), ?_⟩
    refine ⟨_, rfl, (c : Int), 1, 12, rfl, _, rfl, ?_⟩
    have e1 : (decide ((1 : Int) ≤ (c : Int)) && decide ((c : Int) ≤ 12)) = (decide (1 ≤ c) && decide (c ≤ 12)) := by
      congr 1 <;> exact decide_eq_decide.mpr (by omega)
    rw [e1]
    unfold shareB at q
    cases e : (decide (1 ≤ c) && decide (c ≤ 12)) with
    | false =>
      rw [e] at q
      exact iteF q
    | true =>
      rw [e] at q
      refine iteT ⟨_, rfl, _, rfl, c, a, rfl, rfl, ?_⟩
      have e2 : decide (V.int ((Nat.gcd c a : Nat) : Int) = V.int 1) = decide (Nat.gcd c a = 1) := decide_eq_decide.mpr ⟨fun z => by injection z with z; omega, fun z => by rw [z]; rfl⟩
      rw [e2]
      exact q

/-! ### a rule -/
def CR (K : PySem.W.Frag) : Addr := He.ga K "Rule"
def rf4 (a b c : Int) (m : Addr) : List (Str × V) := [("parts", V.int a), ("first", V.int b), ("second", V.int c), ("moduli", V.ref m)]
theorem rf4_put (a b c : Int) (m : Addr) : putF "moduli" (.ref m) (putF "second" (.int c) (putF "first" (.int b) (putF "parts" (.int a) []))) = rf4 a b c m := by rfl
theorem rf4_parts (a b c : Int) (m : Addr) : (rf4 a b c m).lookup ("parts" : Str) = some (.int a) := by rfl
theorem rf4_first (a b c : Int) (m : Addr) : (rf4 a b c m).lookup ("first" : Str) = some (.int b) := by rfl
theorem rf4_second (a b c : Int) (m : Addr) : (rf4 a b c m).lookup ("second" : Str) = some (.int c) := by rfl
theorem rf4_moduli (a b c : Int) (m : Addr) : (rf4 a b c m).lookup ("moduli" : Str) = some (.ref m) := by rfl
/-- the divisors of a, ascending -/
def divs (a : Nat) : List V := given a (fun i => decide (a % (i + 1) = 0)) (fun i => V.int (1 + (i : Int)))
structure RuleAt (K : PySem.W.Frag) (H : Hp) (r : Addr) (a b c : Nat) : Prop where
  ex : ∃ dx m, H r = some (.ins (CR K) dx (rf4 a b c m)) ∧ H m = some (.tup (divs a))
def okRule (a b c : Nat) : Prop := (2 ≤ a ∧ a ≤ 12) ∧ shareB a b = true ∧ shareB a c = true
def spRuleInit (K : PySem.W.Frag) : Sp := fun vs H Q _ => ∃ (r dx : Addr) (a b c : Nat), vs = [.ref r, .int a, .int b, .int c] ∧ H r = some (.ins (CR K) dx []) ∧ okRule a b c ∧
  ∀ H', RuleAt K H' r a b c → (∀ x o, H x = some o → x ≠ r → H' x = some o) → Q .non H'
theorem sc_Rule_init : FnScope ["self", "parts", "first", "second", "share", "part"] ["self", "parts", "first", "second"] (defScope s_Rule_uuinit__) := ⟨rfl, rfl, rfl, by decide +kernel, rfl, by decide +kernel, by decide +kernel⟩
theorem ok_Rule_init (T : Txt K mg) : Ok P w K mg base 4 (He.ma K (He.ga K "Rule") "__init__") ["self", "parts", "first", "second"] (spRuleInit K) := by
  obtain ⟨fd1, F1, b1, k1, _⟩ := (ok_check_number (P := P) (w := w) (base := base) T).ex
  obtain ⟨fd2, F2, b2, k2, _⟩ := (ok_is_share (P := P) (w := w) (base := base) T).ex
  obtain ⟨t12, m12⟩ := T.i_MOST_PARTS
  refine fd_okD T.f_Rule_uuinit__ (by simp) sc_Rule_init (fun vs H Q E h => ?_) (fun _ _ _ _ _ _ _ us its hl hi => match us, hl, its, hi with | [_, _, _, _], _, [_, _], _ => ⟨_, rfl, rfl⟩) (fun cdv A outer s H vs Q E hr h => ?_)
  · obtain ⟨r, dx, a, b, c, rfl, _⟩ := h
    rfl
  · obtain ⟨r, dx, a, b, c, rfl, hr0, ⟨⟨ha1, ha2⟩, hb, hc⟩, q⟩ := h
    refine ⟨_, pss_cons (ps_expr (pe_call F1 hr rfl T.g_check_number k1 b1 .nil pass0 (pa_cons (pv 1) (pa_cons pe_int (pa_cons (pe_glob (v := .int 12) rfl m12 ⟨_, rfl⟩) pa_nil)))))
      (pss_cons (ps_for PassesOwn.never rfl (pi_tup (pe_tup (pa_cons (pv 2) (pa_cons (pv 3) pa_nil)))) (pg_name (i := 4) sc_Rule_init.nd rfl (Or.inl rfl))
        (pss_one (ps_if (pt_not (pt_val (pe_call F2 hr rfl T.g_is_share k2 b2 .nil pass0 (pa_cons (pv 1) (pa_cons (pv 4) pa_nil))))) (pss_one ps_never) pss_nil)))
      (pss_cons (ps_asg (pe_tup (pa_cons (pv 1) (pa_cons (pv 2) (pa_cons (pv 3) pa_nil)))) (pg_tup rfl (pgs_cons (pg_fld (pv 0)) (pgs_cons (pg_fld (pv 0)) (pgs_cons (pg_fld (pv 0)) pgs_nil)))))
      (pss_one (ps_fld (pv 0) (pe_callTy call_tuple_of rfl T.z_tuple (by decide +kernel) (pa_cons
        (pe_lc (own := [("part", 5)]) (g := gName 5) rfl sc_Rule_init.nd (pi_range2 rfl T.z_range (pa_cons pe_int (pa_cons (pe_op op_add (pv 1) pe_int) pa_nil))) (blkOk_by (own := [("part", 5)]) (N := ["self", "parts", "first", "second", "share", "part"]) (sc := defScope s_Rule_uuinit__) (by decide +kernel))
          (fun _ _ _ _ _ => pg_name (i := 5) sc_Rule_init.nd rfl (Or.inl rfl)) (fun _ _ _ _ _ => pts_one (pt_cmpR op_eq (pe_op op_mod (pe_callTy call_int1 rfl T.z_int (by decide +kernel) (pa_cons (pv 1) pa_nil)) (pv 5)) pe_int (nomark _)))
          (fun _ _ _ _ _ => pv 5)) pa_nil)) rfl)))), ?_⟩
    -- check_number(parts, 2, MOST_PARTS)
    refine ⟨_, rfl, (a : Int), 2, 12, rfl, ⟨by omega, by omega⟩, ?_⟩
    -- for share in (first, second)
    refine ⟨_, rfl, _, rfl, by show 2 ≤ sizeLine; decide, fun p hp => ⟨p, rfl, ⟨_, SqT.of upd_same⟩, ?_⟩⟩
    have npr : p ≠ r := (ne_of_none hr0 hp).symm
    refine for_tup (xs := [V.int b, V.int c]) (fun _ σ H' => ∃ v, σ = [some (.ref r), some (.int a), some (.int b), some (.int c), v, none] ∧ H' = upd H p (.tup [.int b, .int c])) ⟨_, rfl, rfl⟩ ?_ ?_ ?_
    · rintro i σ H' _ ⟨v, rfl, rfl⟩
      exact SqT.of upd_same
    · rintro i x σ H' hx ⟨v, rfl, rfl⟩
      obtain ⟨z, rfl, hz⟩ : ∃ z : Nat, x = V.int z ∧ shareB a z = true := by
        match i, hx with
        | 0, hx => cases hx; exact ⟨b, rfl, hb⟩
        | 1, hx => cases hx; exact ⟨c, rfl, hc⟩
      refine ⟨_, rfl, _, rfl, a, z, rfl, _, rfl, ?_⟩
      rw [hz]
      exact iteF ⟨_, rfl, rfl⟩
    · rintro σ H' ⟨v, rfl, rfl⟩
      -- the three fields
      refine ⟨_, rfl, _, rfl, _, rfl, by show 3 ≤ sizeLine; decide, fun t ht => ?_⟩
      have ntr : t ≠ r := fun e => by rw [e, upd_ne npr.symm, hr0] at ht; cases ht
      have ntp : t ≠ p := fun e => by rw [e, upd_same] at ht; cases ht
      have h1 : upd (upd H p (.tup [.int b, .int c])) t (.tup [.int a, .int b, .int c]) r = some (.ins (CR K) dx []) := by rw [upd_ne ntr.symm, upd_ne npr.symm]; exact hr0
      have k3 : ∀ x o, (H x = some o ∨ x = t ∧ o = .tup [.int a, .int b, .int c]) → upd (upd H p (.tup [.int b, .int c])) t (.tup [.int a, .int b, .int c]) x = some o := fun x o e => by
        rcases e with e | ⟨rfl, rfl⟩
        · have e1 : upd H p (.tup [.int b, .int c]) x = some o := by rw [upd_ne (ne_of_none e hp)]; exact e
          rw [upd_ne (ne_of_none e1 ht)]
          exact e1
        · exact upd_same
      generalize upd (upd H p (.tup [.int b, .int c])) t (.tup [.int a, .int b, .int c]) = H3 at h1 k3 ⊢
      refine ⟨t, _, rfl, SqT.of (k3 t _ (.inr ⟨rfl, rfl⟩)), rfl, _, _, rfl, ⟨_, rfl, r, CR K, dx, _, rfl, h1, T.c_Rule, T.n_Rule_parts, by show 0 < 1000; decide, ?_⟩⟩
      refine ⟨_, _, rfl, ⟨_, rfl, r, CR K, dx, _, rfl, upd_same, T.c_Rule, T.n_Rule_first, by show 1 < 1000; decide, ?_⟩⟩
      refine ⟨_, _, rfl, ⟨_, rfl, r, CR K, dx, _, rfl, upd_same, T.c_Rule, T.n_Rule_second, by show 2 < 1000; decide, rfl, ?_⟩⟩
      rw [upd_upd, upd_upd]
      generalize hH4 : upd H3 r (.ins (CR K) dx (putF "second" (.int c) (putF "first" (.int b) (putF "parts" (.int a) [])))) = H4
      have h4 : H4 r = some (.ins (CR K) dx (putF "second" (.int c) (putF "first" (.int b) (putF "parts" (.int a) [])))) := by rw [← hH4]; exact upd_same
      have k4 : ∀ x o, H x = some o → x ≠ r → H4 x = some o := fun x o e ne => by rw [← hH4, upd_ne ne]; exact k3 x o (.inl e)
      -- the comprehension
      refine ⟨_, rfl, _, _, rfl, rfl, 1, (a : Int) + 1, rfl, ⟨by omega, by omega, by omega, by omega⟩, fun D hD => ?_⟩
      refine lc_range (lo := 1) (n := ((a : Int) + 1 - 1).toNat) (Cw H4 (fun i => decide (a % (i + 1) = 0)) (fun i => V.int (1 + (i : Int))) D) ⟨hD, Ex.new hD, upd_same⟩ (fun i H5 hi p => ?_) (fun H5 p => ?_)
      · refine ⟨rfl, cw_turn p (by omega) (fun H1 e Q q => ?_) (fun _ H1 e Q q => ⟨_, rfl, q H1 (Ex.refl H1)⟩)⟩
        refine ⟨_, rfl, .inl ⟨_, rfl, _, rfl, _, _, rfl, rfl, by omega, ?_⟩⟩
        refine ⟨rfl, _, rfl, ?_⟩
        have e0 : (a : Int) % (1 + (i : Int)) = ((a % (i + 1) : Nat) : Int) := by
          rw [show (1 + (i : Int)) = ((i + 1 : Nat) : Int) by omega]
          exact (Int.natCast_emod a (i + 1)).symm
        have e2 : decide (V.int ((a : Int) % (1 + (i : Int))) = V.int 0) = decide (a % (i + 1) = 0) := by
          rw [e0]
          exact decide_eq_decide.mpr ⟨fun z => by injection z with z; exact Int.ofNat.inj z, fun z => by rw [z]; rfl⟩
        rw [e2]
        exact q H1 (Ex.refl H1)
      · obtain ⟨p1, p2, p3⟩ := p
        have eN : ((a : Int) + 1 - 1).toNat = a := by omega
        rw [eN] at p3
        refine ⟨D, _, rfl, .inl ⟨SqL.of p3, fun l hl => ?_⟩⟩
        have hr5 := p2 r _ h4
        have nlr : l ≠ r := (ne_of_none hr5 hl).symm
        refine ⟨_, rfl, r, CR K, dx, _, rfl, by rw [upd_ne nlr.symm]; exact hr5, T.c_Rule, T.n_Rule_moduli, by show 3 < 1000; decide, ?_⟩
        rw [rf4_put]
        refine q _ ⟨dx, l, upd_same, by rw [upd_ne nlr, upd_same]; rfl⟩ fun x o e ne => ?_
        have e5 := p2 x o (k4 x o e ne)
        rw [upd_ne ne, upd_ne (ne_of_none e5 hl)]
        exact e5
end
end K62

set_option Elab.async false
set_option linter.all false
set_option maxRecDepth 100000
set_option maxHeartbeats 4000000
namespace K62
open PySem PySem.Spec PyProof.Rows L2 Bk Evl
section
variable {P : Program} {w : World} {K : PySem.W.Frag} {mg : Str → Option Value} {base : Heap}

/-! ### small numbers as texts -/
def numS (n : Nat) : Str := toString (n : Int)
theorem numS_len {n : Nat} (h : n ≤ 12) : (numS n).length ≤ 2 := by
  have z : ∀ n : Nat, n ≤ 12 → (numS n).length ≤ 2 := by decide +kernel
  exact z n h
theorem str_len (a b : Str) : (a ++ b).length = a.length + b.length := PySem.strLen_append a b
theorem emp_app (a : Str) : Str.empty ++ a = a := by
  obtain ⟨c⟩ := a
  show (⟨#[] ++ c⟩ : Str) = ⟨c⟩
  simp
def ruleText (a b c : Nat) : Str := numS a ++ ("/n = " : Str) ++ numS b ++ ("/x + " : Str) ++ numS c ++ ("/y" : Str)
theorem log_small {n : Nat} (h : n ≤ 12) : ((n : Int)).natAbs.log2 < 1920 := by
  have z : ∀ n : Nat, n ≤ 12 → n.log2 < 1920 := by decide +kernel
  simpa using z n h
theorem small_line {n : Nat} (h : n ≤ 1000) : n ≤ sizeLine := Nat.le_trans h (by decide)

/-! ### str(rule) -/
def spRuleStr (K : PySem.W.Frag) : Sp := fun vs H Q _ => ∃ (r : Addr) (a b c : Nat), vs = [.ref r] ∧ RuleAt K H r a b c ∧ (a ≤ 12 ∧ b ≤ 12 ∧ c ≤ 12) ∧ Q (.str (ruleText a b c)) H
theorem sc_Rule_str : FnScope ["self"] ["self"] (defScope s_Rule_uustr__) := ⟨rfl, rfl, rfl, by decide +kernel, rfl, by decide +kernel, by decide +kernel⟩
theorem ok_Rule_str (T : Txt K mg) : Ok P w K mg base 1 (He.ma K (He.ga K "Rule") "__str__") ["self"] (spRuleStr K) := by
  refine fd_ok T.f_Rule_uustr__ sc_Rule_str (fun vs H Q E h => ?_) (fun _ _ _ _ _ _ us hl => match us, hl with | [_], _ => rfl) (fun cdv A outer s H vs Q E hr h => ?_)
  · obtain ⟨r, a, b, c, rfl, _⟩ := h
    rfl
  · obtain ⟨r, a, b, c, rfl, ⟨dx, m, h1, _⟩, ⟨la, lb, lc⟩, q⟩ := h
    refine ⟨_, pss_one (ps_ret (pe_joined (.cons (pe_fmt (pe_fld (pv 0) rfl)) (.cons pe_str (.cons (pe_fmt (pe_fld (pv 0) rfl)) (.cons pe_str (.cons (pe_fmt (pe_fld (pv 0) rfl)) (.cons pe_str .nil)))))))), ?_⟩
    have k1 := numS_len la
    have k2 := numS_len lb
    have k3 := numS_len lc
    have l0 : (Str.empty).length = 0 := rfl
    have l1 : ("/n = " : Str).length = 5 := by decide +kernel
    have l2 : ("/x + " : Str).length = 5 := by decide +kernel
    have l3 : ("/y" : Str).length = 2 := by decide +kernel
    refine ⟨_, rfl, r, CR K, dx, _, _, rfl, h1, T.c_Rule, T.n_Rule_parts, rf4_parts _ _ _ _, .inr ⟨_, rfl, log_small la, numS a, rfl, small_line (by rw [str_len]; omega), ?_⟩⟩
    refine ⟨_, rfl, small_line (by rw [str_len, str_len]; omega), ?_⟩
    refine ⟨_, rfl, r, CR K, dx, _, _, rfl, h1, T.c_Rule, T.n_Rule_first, rf4_first _ _ _ _, .inr ⟨_, rfl, log_small lb, numS b, rfl, small_line (by rw [str_len, str_len, str_len]; omega), ?_⟩⟩
    refine ⟨_, rfl, small_line (by rw [str_len, str_len, str_len, str_len]; omega), ?_⟩
    refine ⟨_, rfl, r, CR K, dx, _, _, rfl, h1, T.c_Rule, T.n_Rule_second, rf4_second _ _ _ _, .inr ⟨_, rfl, log_small lc, numS c, rfl, small_line (by rw [str_len, str_len, str_len, str_len, str_len]; omega), ?_⟩⟩
    refine ⟨_, rfl, small_line (by rw [str_len, str_len, str_len, str_len, str_len, str_len]; omega), ?_⟩
    rw [emp_app]
    exact q

/-! ### check_rule -/
def spCheckRule (K : PySem.W.Frag) : Sp := fun vs H Q _ => ∃ (r dx : Addr) (fs : List (Str × V)), vs = [.ref r] ∧ H r = some (.ins (CR K) dx fs) ∧ Q .non H
theorem sc_check_rule : FnScope ["value"] ["value"] (defScope s_check_rule) := ⟨rfl, rfl, rfl, by decide +kernel, rfl, by decide +kernel, by decide +kernel⟩
theorem kit_self (C : Addr) : PySem.W.kitOne K (.ref C) (.ref C) = some true := by
  unfold PySem.W.kitOne
  rw [if_pos (by simp)]
theorem ok_check_rule (T : Txt K mg) : Ok P w K mg base 1 (He.ga K "check_rule") ["value"] (spCheckRule K) := by
  refine fd_ok T.f_check_rule sc_check_rule (fun vs H Q E h => ?_) (fun _ _ _ _ _ _ us hl => match us, hl with | [_], _ => rfl) (fun cdv A outer s H vs Q E hr h => ?_)
  · obtain ⟨r, dx, fs, rfl, _⟩ := h
    rfl
  · obtain ⟨r, dx, fs, rfl, h1, q⟩ := h
    refine ⟨_, pss_one (ps_if (pt_not (pt_val (pe_callB call_isi rfl T.z_isinstance (by decide +kernel) (pa_cons (pv 0) (pa_cons (pe_glob (v := .ref (CR K)) rfl T.g_Rule rfl) pa_nil))))) (pss_one ps_never) pss_nil), ?_⟩
    refine ⟨_, rfl, _, _, _, _, true, rfl, .own _, .base (T.ty_Rule h1), kit_self _, true, rfl, ?_⟩
    exact iteF q
end
end K62

set_option Elab.async false
set_option linter.all false
set_option maxRecDepth 100000
set_option maxHeartbeats 4000000
namespace K62
open PySem PySem.Spec PyProof.Rows L2 Bk Evl
section
variable {P : Program} {w : World} {K : PySem.W.Frag} {mg : Str → Option Value} {base : Heap}

abbrev Kvs : Type := List (Key × V)
def CL (K : PySem.W.Frag) : Addr := He.ga K "Leaf"
def CB (K : PySem.W.Frag) : Addr := He.ga K "Book"
/-- a leaf's fields -/
def lf (d t : Addr) (b : V) (n : Int) : List (Str × V) := [("shelf", V.ref d), ("told", V.ref t), ("below", b), ("depth", V.int n)]
theorem lf_put (d t : Addr) (b : V) (n : Int) : putF "depth" (.int n) (putF "below" b (putF "told" (.ref t) (putF "shelf" (.ref d) []))) = lf d t b n := by rfl
theorem lf_shelf (d t : Addr) (b : V) (n : Int) : (lf d t b n).lookup ("shelf" : Str) = some (.ref d) := by rfl
theorem lf_told (d t : Addr) (b : V) (n : Int) : (lf d t b n).lookup ("told" : Str) = some (.ref t) := by rfl
theorem lf_below (d t : Addr) (b : V) (n : Int) : (lf d t b n).lookup ("below" : Str) = some b := by rfl
theorem lf_depth (d t : Addr) (b : V) (n : Int) : (lf d t b n).lookup ("depth" : Str) = some (.int n) := by rfl
def bf (l : Addr) : List (Str × V) := [("leaf", V.ref l)]
theorem bf_put (l : Addr) : putF "leaf" (.ref l) [] = bf l := by rfl
theorem bf_put2 (l l' : Addr) : putF "leaf" (.ref l) (bf l') = bf l := by rfl
theorem bf_leaf (l : Addr) : (bf l).lookup ("leaf" : Str) = some (.ref l) := by rfl

/-- at l a leaf that holds the first page, the others below -/
inductive LeafAt (K : PySem.W.Frag) (H : Hp) : Addr → List Kvs → Prop where
  | one {l dx d t : Addr} {kvs : Kvs} (h : H l = some (.ins (CL K) dx (lf d t .non 0))) (hd : H d = some (.dK kvs)) (ht : H t = some (.tup [])) : LeafAt K H l [kvs]
  | more {l dx d t l' : Addr} {kvs : Kvs} {ps : List Kvs} (h : H l = some (.ins (CL K) dx (lf d t (.ref l') ps.length))) (hd : H d = some (.dK kvs)) (ht : H t = some (.tup [])) (r : LeafAt K H l' ps) : LeafAt K H l (kvs :: ps)
/-- objects that no deed changes: no list, no book -/
def calmO : HO → Bool
  | .lst _ => false
  | .ins _ _ fs => (fs.lookup ("leaf" : Str)).isNone
  | _ => true
def Calm (H H' : Hp) : Prop := ∀ x o, H x = some o → calmO o = true → H' x = some o
theorem calm_lf (C dx d t : Addr) (b : V) (n : Int) : calmO (.ins C dx (lf d t b n)) = true := by rfl
theorem LeafAt.keep {H H' : Hp} (k : Calm H H') : ∀ {l : Addr} {ps : List Kvs}, LeafAt K H l ps → LeafAt K H' l ps
  | _, _, .one h hd ht => .one (k _ _ h (calm_lf _ _ _ _ _ _)) (k _ _ hd rfl) (k _ _ ht rfl)
  | _, _, .more h hd ht r => .more (k _ _ h (calm_lf _ _ _ _ _ _)) (k _ _ hd rfl) (k _ _ ht rfl) (r.keep k)
/-- what stands in a leaf -/
theorem LeafAt.top {H : Hp} {l : Addr} {kvs : Kvs} {ps : List Kvs} (L : LeafAt K H l (kvs :: ps)) : ∃ dx d t b, H l = some (.ins (CL K) dx (lf d t b ps.length)) ∧ H d = some (.dK kvs) ∧ H t = some (.tup []) ∧
    ((ps = [] ∧ b = .non) ∨ ∃ l', b = .ref l' ∧ LeafAt K H l' ps) := by
  cases L with
  | one h hd ht => exact ⟨_, _, _, _, h, hd, ht, .inl ⟨rfl, rfl⟩⟩
  | more h hd ht r => exact ⟨_, _, _, _, h, hd, ht, .inr ⟨_, rfl, r⟩⟩
structure BookAt (K : PySem.W.Frag) (H : Hp) (b : Addr) (ps : List Kvs) : Prop where
  ex : ∃ dx l, H b = some (.ins (CB K) dx (bf l)) ∧ LeafAt K H l ps
/-- all but the book b stands -/
def But (b : Addr) (H H' : Hp) : Prop := ∀ x o, H x = some o → x ≠ b → H' x = some o
theorem But.calm {H H' : Hp} {b dx : Addr} {C l : Addr} (k : But b H H') (h : H b = some (.ins C dx (bf l))) : Calm H H' := fun x o e c => k x o e (fun z => by
  subst z
  rw [h] at e
  cases e
  cases (show (false : Bool) = true from c))
theorem BookAt.calm {H H' : Hp} {b : Addr} {ps : List Kvs} (B : BookAt K H b ps) (k : But b H H') : Calm H H' := let ⟨_, _, h, _⟩ := B.ex; k.calm h
theorem RuleAt.keep {H H' : Hp} {r : Addr} {a b c : Nat} (R : RuleAt K H r a b c) (k : Calm H H') : RuleAt K H' r a b c := by
  obtain ⟨dx, m, h1, h2⟩ := R.ex
  exact ⟨dx, m, k _ _ h1 rfl, k _ _ h2 rfl⟩

/-! ### Leaf(shelf, told, below) -/
def spLeafInit (K : PySem.W.Frag) : Sp := fun vs H Q _ => ∃ (l dx d t : Addr) (b : V) (n : Int), vs = [.ref l, .ref d, .ref t, b] ∧ H l = some (.ins (CL K) dx []) ∧
  ((b = .non ∧ n = 0) ∨ ∃ l' dx' d' t' b' m, b = .ref l' ∧ l' ≠ l ∧ H l' = some (.ins (CL K) dx' (lf d' t' b' m)) ∧ n = m + 1) ∧
  ∀ H', H' l = some (.ins (CL K) dx (lf d t b n)) → But l H H' → Q .non H'
theorem sc_Leaf_init : FnScope ["self", "shelf", "told", "below"] ["self", "shelf", "told", "below"] (defScope s_Leaf_uuinit__) := ⟨rfl, rfl, rfl, by decide +kernel, rfl, by decide +kernel, by decide +kernel⟩
theorem ok_Leaf_init (T : Txt K mg) : Ok P w K mg base 1 (He.ma K (He.ga K "Leaf") "__init__") ["self", "shelf", "told", "below"] (spLeafInit K) := by
  refine fd_ok T.f_Leaf_uuinit__ sc_Leaf_init (fun vs H Q E h => ?_) (fun _ _ _ _ _ _ us hl => match us, hl with | [_, _, _, _], _ => rfl) (fun cdv A outer s H vs Q E hr h => ?_)
  · obtain ⟨l, dx, d, t, b, n, rfl, _⟩ := h
    rfl
  · obtain ⟨l, dx, d, t, b, n, rfl, h1, hb, q⟩ := h
    refine ⟨_, pss_cons (ps_asg (pe_tup (pa_cons (pv 1) (pa_cons (pv 2) (pa_cons (pv 3) pa_nil)))) (pg_tup rfl (pgs_cons (pg_fld (pv 0)) (pgs_cons (pg_fld (pv 0)) (pgs_cons (pg_fld (pv 0)) pgs_nil)))))
      (pss_one (ps_fld (pv 0) (pe_ifExp (pt_cmpR op_isN (pv 3) pe_non (nomark _)) pe_int (pe_op op_add (pe_fld (pv 3) rfl) pe_int)) rfl)), ?_⟩
    refine ⟨_, rfl, _, rfl, _, rfl, by show 3 ≤ sizeLine; decide, fun p hp => ?_⟩
    have npl : p ≠ l := (ne_of_none h1 hp).symm
    refine ⟨p, _, rfl, SqT.of upd_same, rfl, _, _, rfl, ⟨_, rfl, l, CL K, dx, _, rfl, by rw [upd_ne npl.symm]; exact h1, T.c_Leaf, T.n_Leaf_shelf, by show 0 < 1000; decide, ?_⟩⟩
    refine ⟨_, _, rfl, ⟨_, rfl, l, CL K, dx, _, rfl, upd_same, T.c_Leaf, T.n_Leaf_told, by show 1 < 1000; decide, ?_⟩⟩
    refine ⟨_, _, rfl, ⟨_, rfl, l, CL K, dx, _, rfl, upd_same, T.c_Leaf, T.n_Leaf_below, by show 2 < 1000; decide, rfl, ?_⟩⟩
    rw [upd_upd, upd_upd]
    generalize hG : upd (upd H p (.tup [.ref d, .ref t, b])) l (.ins (CL K) dx (putF "below" b (putF "told" (.ref t) (putF "shelf" (.ref d) [])))) = G
    have g1 : G l = some (.ins (CL K) dx (putF "below" b (putF "told" (.ref t) (putF "shelf" (.ref d) [])))) := by rw [← hG]; exact upd_same
    have g2 : But l H G := fun x o e ne => by rw [← hG, upd_ne ne, upd_ne (ne_of_none e hp)]; exact e
    have fin : ∀ G', G' l = some (.ins (CL K) dx (putF "below" b (putF "told" (.ref t) (putF "shelf" (.ref d) [])))) → But l H G' → Q .non (upd G' l (.ins (CL K) dx (putF "depth" (.int n) (putF "below" b (putF "told" (.ref t) (putF "shelf" (.ref d) [])))))) := fun G' e1 e2 => by
      rw [lf_put]
      exact q _ upd_same fun x o e ne => by rw [upd_ne ne]; exact e2 x o e ne
    refine ⟨_, rfl, rfl, _, rfl, ?_⟩
    rcases hb with ⟨rfl, rfl⟩ | ⟨l', dx', d', t', b', m, rfl, nl, hl', rfl⟩
    · refine iteT ?_
      exact ⟨_, rfl, l, CL K, dx, _, rfl, g1, T.c_Leaf, T.n_Leaf_depth, by show 3 < 1000; decide, fin _ g1 g2⟩
    · rw [show decide (V.ref l' = V.non) = false from rfl]
      refine iteF ?_
      exact ⟨_, rfl, l', CL K, dx', _, _, rfl, g2 _ _ hl' nl, T.c_Leaf, T.n_Leaf_depth, lf_depth _ _ _ _, _, _, rfl, rfl, _, rfl, l, CL K, dx, _, rfl, g1, T.c_Leaf, T.n_Leaf_depth, by show 3 < 1000; decide, fin _ g1 g2⟩

/-! ### Book() -/
def spBookInit (K : PySem.W.Frag) : Sp := fun vs H Q _ => ∃ (b dx : Addr), vs = [.ref b] ∧ H b = some (.ins (CB K) dx []) ∧ ∀ H', BookAt K H' b [[]] → But b H H' → Q .non H'
theorem sc_Book_init : FnScope ["self"] ["self"] (defScope s_Book_uuinit__) := ⟨rfl, rfl, rfl, by decide +kernel, rfl, by decide +kernel, by decide +kernel⟩
theorem ok_Book_init (T : Txt K mg) : Ok P w K mg base 3 (He.ma K (He.ga K "Book") "__init__") ["self"] (spBookInit K) := by
  obtain ⟨fd1, F1, b1, k1, _⟩ := (ok_Leaf_init (P := P) (w := w) (base := base) T).ex
  refine fd_ok T.f_Book_uuinit__ sc_Book_init (fun vs H Q E h => ?_) (fun _ _ _ _ _ _ us hl => match us, hl with | [_], _ => rfl) (fun cdv A outer s H vs Q E hr h => ?_)
  · obtain ⟨b, dx, rfl, _⟩ := h
    rfl
  · obtain ⟨b, dx, rfl, h1, q⟩ := h
    refine ⟨_, pss_one (ps_fld (pv 0) (pe_make T.mk_Leaf F1 hr rfl T.g_Leaf b1 .nil pass0 (pa_cons pe_dnewK (pa_cons (pe_tup pa_nil) (pa_cons pe_non pa_nil)))) rfl), ?_⟩
    refine fun d hd => ⟨by show 0 ≤ sizeLine; decide, fun t ht => ?_⟩
    intro l dl hl hdl nl
    have e1 : But b H (upd (upd (upd (upd H d (.dK [])) t (.tup [])) dl (.own l)) l (.ins (CL K) dl [])) := fun x o e _ => by
      have x1 : upd H d (.dK []) x = some o := by rw [upd_ne (ne_of_none e hd)]; exact e
      have x2 : upd (upd H d (.dK [])) t (.tup []) x = some o := by rw [upd_ne (ne_of_none x1 ht)]; exact x1
      rw [upd_ne (ne_of_none x2 hl), upd_ne (ne_of_none x2 hdl)]
      exact x2
    have t1 : upd (upd H d (.dK [])) t (.tup []) t = some (.tup []) := upd_same
    have d1 : upd (upd H d (.dK [])) t (.tup []) d = some (.dK []) := by
      have z : upd H d (.dK []) d = some (.dK []) := upd_same
      rw [upd_ne (ne_of_none z ht)]
      exact z
    have b1' : upd (upd H d (.dK [])) t (.tup []) b = some (.ins (CB K) dx []) := by
      have x1 : upd H d (.dK []) b = some (.ins (CB K) dx []) := by rw [upd_ne (ne_of_none h1 hd)]; exact h1
      rw [upd_ne (ne_of_none x1 ht)]
      exact x1
    refine ⟨l, dl, d, t, .non, 0, rfl, upd_same, .inl ⟨rfl, rfl⟩, fun H' e2 e3 => ⟨rfl, ?_⟩⟩
    have put : ∀ x o, upd (upd H d (.dK [])) t (.tup []) x = some o → H' x = some o := fun x o e => e3 x o (by rw [upd_ne (ne_of_none e hl), upd_ne (ne_of_none e hdl)]; exact e) (ne_of_none e hl)
    have nbl : b ≠ l := ne_of_none b1' hl
    have nbt : b ≠ t := ne_of b1' t1 (by intro z; cases z)
    have nbd : b ≠ d := ne_of b1' d1 (by intro z; cases z)
    refine ⟨_, rfl, b, CB K, dx, _, rfl, put _ _ b1', T.c_Book, T.n_Book_leaf, by show 0 < 1000; decide, ?_⟩
    rw [bf_put]
    refine q _ ⟨dx, l, upd_same, .one (by rw [upd_ne nbl.symm]; exact e2) (by rw [upd_ne nbd.symm]; exact put _ _ d1) (by rw [upd_ne nbt.symm]; exact put _ _ t1)⟩ fun x o e ne => ?_
    rw [upd_ne ne]
    have x1 : upd H d (.dK []) x = some o := by rw [upd_ne (ne_of_none e hd)]; exact e
    exact put x o (by rw [upd_ne (ne_of_none x1 ht)]; exact x1)
end
end K62

set_option Elab.async false
set_option linter.all false
set_option maxRecDepth 100000
set_option maxHeartbeats 4000000
namespace K62
open PySem PySem.Spec PyProof.Rows L2 Bk Evl
section
variable {P : Program} {w : World} {K : PySem.W.Frag} {mg : Str → Option Value} {base : Heap}
def Ext (H H' : Hp) : Prop := ∀ x o, H x = some o → H' x = some o
theorem Ext.refl (H : Hp) : Ext H H := fun _ _ e => e
theorem Ext.trans {H1 H2 H3 : Hp} (a : Ext H1 H2) (b : Ext H2 H3) : Ext H1 H3 := fun x o e => b x o (a x o e)
theorem Ext.new {H : Hp} {p : Addr} (h : H p = none) (o : HO) : Ext H (upd H p o) := fun x o' e => by rw [upd_ne (ne_of_none e h)]; exact e
theorem Ext.calm {H H' : Hp} (k : Ext H H') : Calm H H' := fun x o e _ => k x o e
theorem Ext.but {H H' : Hp} (k : Ext H H') (b : Addr) : But b H H' := fun x o e _ => k x o e
theorem But.refl (b : Addr) (H : Hp) : But b H H := fun _ _ e _ => e
theorem But.trans {b : Addr} {H1 H2 H3 : Hp} (k : But b H1 H2) (j : But b H2 H3) : But b H1 H3 := fun x o e n => j x o (k x o e n) n
theorem BookAt.ext {H H' : Hp} {b : Addr} {ps : List Kvs} (B : BookAt K H b ps) (k : Ext H H') : BookAt K H' b ps := by
  obtain ⟨dx, l, h, L⟩ := B.ex
  exact ⟨dx, l, k _ _ h, L.keep k.calm⟩

theorem ru {k : Nat} {A : Around} (h : Room k A) : A.units + 1 < cLine := by have := h.units; omega
/-! ### lay -/
def spLay (K : PySem.W.Frag) : Sp := fun vs H Q _ => ∃ (b d t : Addr) (kvs k1 : Kvs) (ps : List Kvs), vs = [.ref b, .ref d, .ref t] ∧ BookAt K H b (k1 :: ps) ∧ H d = some (.dK kvs) ∧ H t = some (.tup []) ∧
  ∀ H', BookAt K H' b (kvs :: k1 :: ps) → But b H H' → Q .non H'
theorem sc_Book_lay : FnScope ["self", "shelf", "told"] ["self", "shelf", "told"] (defScope s_Book_lay) := ⟨rfl, rfl, rfl, by decide +kernel, rfl, by decide +kernel, by decide +kernel⟩
theorem ok_Book_lay (T : Txt K mg) : Ok P w K mg base 3 (He.ma K (He.ga K "Book") "lay") ["self", "shelf", "told"] (spLay K) := by
  obtain ⟨fd1, F1, b1, k1, _⟩ := (ok_Leaf_init (P := P) (w := w) (base := base) T).ex
  refine fd_ok T.f_Book_lay sc_Book_lay (fun vs H Q E h => ?_) (fun _ _ _ _ _ _ us hl => match us, hl with | [_, _, _], _ => rfl) (fun cdv A outer s H vs Q E hr h => ?_)
  · obtain ⟨b, d, t, kvs, k1, ps, rfl, _⟩ := h
    rfl
  · obtain ⟨b, d, t, kvs, kv1, ps, rfl, B, hd, ht, q⟩ := h
    refine ⟨_, pss_one (ps_fld (pv 0) (pe_make T.mk_Leaf F1 hr rfl T.g_Leaf b1 .nil pass0 (pa_cons (pv 1) (pa_cons (pv 2) (pa_cons (pe_fld (pv 0) rfl) pa_nil)))) rfl), ?_⟩
    obtain ⟨dx, l, h1, L⟩ := B.ex
    refine ⟨_, rfl, _, rfl, _, rfl, b, CB K, dx, _, _, rfl, h1, T.c_Book, T.n_Book_leaf, bf_leaf _, ?_⟩
    intro l2 dl hl hdl nl
    obtain ⟨dxl, d1, t1, b1, hl1, hd1, ht1, hb1⟩ := L.top
    have e1 : Ext H (upd (upd H dl (.own l2)) l2 (.ins (CL K) dl [])) := fun x o e => by
      rw [upd_ne (ne_of_none e hl), upd_ne (ne_of_none e hdl)]
      exact e
    refine ⟨l2, dl, d, t, .ref l, ps.length + 1, rfl, upd_same, .inr ⟨l, dxl, d1, t1, b1, _, rfl, ne_of_none hl1 hl, e1 _ _ hl1, rfl⟩, fun H' e2 e3 => ⟨rfl, ?_⟩⟩
    have put : Ext H H' := fun x o e => e3 x o (e1 x o e) (ne_of_none e hl)
    refine ⟨_, rfl, b, CB K, dx, _, rfl, put _ _ h1, T.c_Book, T.n_Book_leaf, by show 1 < 1000; decide, ?_⟩
    rw [bf_put2]
    have kp : But b H (upd H' b (.ins (CB K) dx (bf l2))) := fun x o e ne => by rw [upd_ne ne]; exact put x o e
    have kc : Calm H (upd H' b (.ins (CB K) dx (bf l2))) := kp.calm h1
    have nbl : b ≠ l2 := ne_of_none h1 hl
    refine q _ ⟨dx, l2, upd_same, .more (by rw [upd_ne nbl.symm]; exact e2) (kc _ _ hd rfl) (kc _ _ ht rfl) (L.keep kc)⟩ kp

/-! ### a value in a book -/
def spHas (K : PySem.W.Frag) : Sp := fun vs H Q _ => ∃ (b : Addr) (x : V) (kvs : Kvs) (ps : List Kvs), vs = [.ref b, x] ∧ BookAt K H b (kvs :: ps) ∧
  ((∃ n, x = .str n ∧ Q (.bl (valV kvs (.inr n)).isSome) H) ∨ ∃ t, TyX K H x t ∧ PySem.W.kitOne K t (.type "str") = some false ∧ Q (.bl false) H)
theorem sc_Book_has : FnScope ["self", "value"] ["self", "value"] (defScope s_Book_uucontains__) := ⟨rfl, rfl, rfl, by decide +kernel, rfl, by decide +kernel, by decide +kernel⟩
theorem kit_ss : PySem.W.kitOne K (.type "str") (.type "str") = some true := by rfl
theorem ok_Book_has (T : Txt K mg) : Ok P w K mg base 1 (He.ma K (He.ga K "Book") "__contains__") ["self", "value"] (spHas K) := by
  refine fd_ok T.f_Book_uucontains__ sc_Book_has (fun vs H Q E h => ?_) (fun _ _ _ _ _ _ us hl => match us, hl with | [_, _], _ => rfl) (fun cdv A outer s H vs Q E hr h => ?_)
  · obtain ⟨b, x, kvs, ps, rfl, _⟩ := h
    rfl
  · obtain ⟨b, x, kvs, ps, rfl, B, q⟩ := h
    have hu := hr.units
    refine ⟨_, pss_one (ps_ret (pe_and (pe_callB call_isi rfl T.z_isinstance (by decide +kernel) (pa_cons (pv 1) (pa_cons (pe_bltn rfl T.z_str (by decide +kernel) (v := .ty "str") rfl) pa_nil)))
      (pe_one (pe_cmp (pc_din (ru hr) (pv 1) (pe_fld (pe_fld (pv 0) rfl) rfl)))))), ?_⟩
    obtain ⟨dx, l, h1, L⟩ := B.ex
    obtain ⟨dxl, d1, t1, b1, hl1, hd1, ht1, hb1⟩ := L.top
    rcases q with ⟨n, rfl, q⟩ | ⟨t, ty, k, q⟩
    · refine ⟨_, rfl, _, _, _, _, true, rfl, .ty _, .base (.str n), kit_ss, true, rfl, iteT ?_⟩
      refine ⟨_, rfl, _, rfl, b, CB K, dx, _, _, rfl, h1, T.c_Book, T.n_Book_leaf, bf_leaf _, l, CL K, dxl, _, _, rfl, hl1, T.c_Leaf, T.n_Leaf_shelf, lf_shelf _ _ _ _, ?_⟩
      exact ⟨d1, _, rfl, DGet.k (k := .inr n) hd1, q⟩
    · exact ⟨_, rfl, _, _, _, _, false, rfl, .ty _, ty, k, false, rfl, iteF q⟩

/-! ### need, [] and len -/
def spNeed (K : PySem.W.Frag) : Sp := fun vs H Q _ => ∃ (b : Addr) (n : Str) (kvs : Kvs) (ps : List Kvs), vs = [.ref b, .str n] ∧ BookAt K H b (kvs :: ps) ∧ (valV kvs (.inr n)).isSome = true ∧ Q .non H
theorem sc_Book_need : FnScope ["self", "name"] ["self", "name"] (defScope s_Book_need) := ⟨rfl, rfl, rfl, by decide +kernel, rfl, by decide +kernel, by decide +kernel⟩
theorem ok_Book_need (T : Txt K mg) : Ok P w K mg base 2 (He.ma K (He.ga K "Book") "need") ["self", "name"] (spNeed K) := by
  refine fd_ok T.f_Book_need sc_Book_need (fun vs H Q E h => ?_) (fun _ _ _ _ _ _ us hl => match us, hl with | [_, _], _ => rfl) (fun cdv A outer s H vs Q E hr h => ?_)
  · obtain ⟨b, n, kvs, ps, rfl, _⟩ := h
    rfl
  · obtain ⟨b, n, kvs, ps, rfl, B, hv, q⟩ := h
    refine ⟨_, pss_one (ps_if (pt_cmpR (op_notInO T.m_Book_uucontains__ (ok_Book_has T) hr) (pv 1) (pv 0) rfl) (pss_one ps_never) pss_nil), ?_⟩
    obtain ⟨dx, l, h1, L⟩ := id B.ex
    refine ⟨_, rfl, _, rfl, b, dx, _, rfl, h1, b, .str n, kvs, ps, rfl, B, .inl ⟨n, rfl, _, rfl, _, rfl, ?_⟩⟩
    rw [hv]
    exact iteF q
def spGet (K : PySem.W.Frag) : Sp := fun vs H Q _ => ∃ (b : Addr) (n : Str) (v : V) (kvs : Kvs) (ps : List Kvs), vs = [.ref b, .str n] ∧ BookAt K H b (kvs :: ps) ∧ valV kvs (.inr n) = some v ∧ Q v H
theorem sc_Book_get : FnScope ["self", "name"] ["self", "name"] (defScope s_Book_uugetitem__) := ⟨rfl, rfl, rfl, by decide +kernel, rfl, by decide +kernel, by decide +kernel⟩
theorem ok_Book_get (T : Txt K mg) : Ok P w K mg base 3 (He.ma K (He.ga K "Book") "__getitem__") ["self", "name"] (spGet K) := by
  obtain ⟨fd1, F1, b1, k1, _⟩ := (ok_Book_need (P := P) (w := w) (base := base) T).ex
  refine fd_ok T.f_Book_uugetitem__ sc_Book_get (fun vs H Q E h => ?_) (fun _ _ _ _ _ _ us hl => match us, hl with | [_, _], _ => rfl) (fun cdv A outer s H vs Q E hr h => ?_)
  · obtain ⟨b, n, v, kvs, ps, rfl, _⟩ := h
    rfl
  · obtain ⟨b, n, v, kvs, ps, rfl, B, hv, q⟩ := h
    have hu := hr.units
    refine ⟨_, pss_cons (ps_expr (pe_meth (pv 0) T.c_Book T.m_Book_need F1 hr b1 .nil pass0 (pa_cons (pv 1) pa_nil))) (pss_one (ps_ret (pe_dget (ru hr) (pe_fld (pe_fld (pv 0) rfl) rfl) (pv 1) (by intro _ _; rfl)))), ?_⟩
    obtain ⟨dx, l, h1, L⟩ := id B.ex
    obtain ⟨dxl, d1, t1, b1, hl1, hd1, ht1, hb1⟩ := L.top
    refine ⟨_, rfl, b, dx, _, rfl, h1, rfl, _, rfl, b, n, kvs, ps, rfl, B, by rw [hv]; rfl, ?_⟩
    refine ⟨_, rfl, b, CB K, dx, _, _, rfl, h1, T.c_Book, T.n_Book_leaf, bf_leaf _, l, CL K, dxl, _, _, rfl, hl1, T.c_Leaf, T.n_Leaf_shelf, lf_shelf _ _ _ _, _, rfl, d1, v, rfl, ?_, q⟩
    rw [← hv]
    exact DGet.k (k := .inr n) hd1
end
end K62

set_option Elab.async false
set_option linter.all false
set_option maxRecDepth 100000
set_option maxHeartbeats 4000000
namespace K62
open PySem PySem.Spec PyProof.Rows L2 Bk Evl
section
variable {P : Program} {w : World} {K : PySem.W.Frag} {mg : Str → Option Value} {base : Heap}
/-- a property's getter -/
theorem prop_fn {C m qual : Str} {st : Stmt} {N : List Str} {k : Nat} {sp : Sp} (p : PropF K C m qual st) (S : FnScope N ["self"] (defScope st)) (len : ∀ vs H Q E, sp vs H Q E → vs.length = 1)
    (hb : ∀ (kV doc pm : Value) (an : Option Addr) (cdv ct : Value) (us : List Value), us.length = 1 → bindArgs (PySem.W.fnOf m qual (defArgs st) (defBody st) (defScope st) .none kV doc pm an cdv ct) ⟨us, []⟩ = pure (([("self" : Str)]).zip us))
    (hbody : ∀ (cdv : Value) (A : Around) (outer : List Env) (s : Shared) (H : Hp) (vs : List V) (Q : VK) (E : XK), Room k (A.deeper (envOfC qual (defScope st) s.heap.objs.size (getr K C m) cdv)) → sp vs H Q E →
      ∃ t, PSs (cxOf CX0 P w K mg base N qual (defScope st) (getr K C m) cdv A outer s H E).nox (defBody st) t ∧ t { nx := fun _ H' => Q .non H', rt := Q } (start N vs) H) :
    ∃ fd, FnOk P w K mg base CX0 (k + 1) (getr K C m) fd ["self"] sp ∧ Binds K fd ["self"] [] := by
  obtain ⟨oc, od, osl, kV, doc, pm, an, cdv, ct, lk, hc⟩ := p.f
  exact ⟨_, fn_of lk hc S len fun A outer s H vs Q E hr h => let ⟨t, a, b⟩ := hbody cdv A outer s H vs Q E hr h; ⟨t, a.nox, b⟩, .all fun us hl => hb kV doc pm an cdv ct us hl⟩

/-! ### len and bool -/
def spLen (K : PySem.W.Frag) : Sp := fun vs H Q _ => ∃ (b : Addr) (kvs : Kvs) (ps : List Kvs), vs = [.ref b] ∧ BookAt K H b (kvs :: ps) ∧ Q (.int kvs.length) H
theorem sc_Book_len : FnScope ["self"] ["self"] (defScope s_Book_uulen__) := ⟨rfl, rfl, rfl, by decide +kernel, rfl, by decide +kernel, by decide +kernel⟩
theorem ok_Book_len (T : Txt K mg) : Ok P w K mg base 1 (He.ma K (He.ga K "Book") "__len__") ["self"] (spLen K) := by
  refine fd_ok T.f_Book_uulen__ sc_Book_len (fun vs H Q E h => ?_) (fun _ _ _ _ _ _ us hl => match us, hl with | [_], _ => rfl) (fun cdv A outer s H vs Q E hr h => ?_)
  · obtain ⟨b, kvs, ps, rfl, _⟩ := h
    rfl
  · obtain ⟨b, kvs, ps, rfl, B, q⟩ := h
    refine ⟨_, pss_one (ps_ret (pe_callB call_lenD rfl T.z_len (by decide +kernel) (pa_cons (pe_fld (pe_fld (pv 0) rfl) rfl) pa_nil))), ?_⟩
    obtain ⟨dx, l, h1, L⟩ := B.ex
    obtain ⟨dxl, d1, t1, b1, hl1, hd1, ht1, hb1⟩ := L.top
    exact ⟨_, rfl, b, CB K, dx, _, _, rfl, h1, T.c_Book, T.n_Book_leaf, bf_leaf _, l, CL K, dxl, _, _, rfl, hl1, T.c_Leaf, T.n_Leaf_shelf, lf_shelf _ _ _ _, d1, _, rfl, hd1, q⟩
def spTrue : Sp := fun vs H Q _ => ∃ (b : V), vs = [b] ∧ Q (.bl true) H
theorem sc_Book_bool : FnScope ["self"] ["self"] (defScope s_Book_uubool__) := ⟨rfl, rfl, rfl, by decide +kernel, rfl, by decide +kernel, by decide +kernel⟩
theorem ok_Book_bool (T : Txt K mg) : Ok P w K mg base 1 (He.ma K (He.ga K "Book") "__bool__") ["self"] spTrue := by
  refine fd_ok T.f_Book_uubool__ sc_Book_bool (fun vs H Q E h => ?_) (fun _ _ _ _ _ _ us hl => match us, hl with | [_], _ => rfl) (fun cdv A outer s H vs Q E hr h => ?_)
  · obtain ⟨b, rfl, _⟩ := h
    rfl
  · obtain ⟨b, rfl, q⟩ := h
    exact ⟨_, pss_one (ps_ret pe_bl), q⟩

/-! ### undo -/
def spUndo (K : PySem.W.Frag) : Sp := fun vs H Q _ => ∃ (b : Addr) (k1 k2 : Kvs) (ps : List Kvs), vs = [.ref b] ∧ BookAt K H b (k1 :: k2 :: ps) ∧ ∀ H', BookAt K H' b (k2 :: ps) → But b H H' → Q .non H'
theorem sc_Book_undo : FnScope ["self"] ["self"] (defScope s_Book_undo) := ⟨rfl, rfl, rfl, by decide +kernel, rfl, by decide +kernel, by decide +kernel⟩
theorem ok_Book_undo (T : Txt K mg) : Ok P w K mg base 1 (He.ma K (He.ga K "Book") "undo") ["self"] (spUndo K) := by
  refine fd_ok T.f_Book_undo sc_Book_undo (fun vs H Q E h => ?_) (fun _ _ _ _ _ _ us hl => match us, hl with | [_], _ => rfl) (fun cdv A outer s H vs Q E hr h => ?_)
  · obtain ⟨b, k1, k2, ps, rfl, _⟩ := h
    rfl
  · obtain ⟨b, k1, k2, ps, rfl, B, q⟩ := h
    refine ⟨_, pss_cons (ps_if (pt_cmpR op_isN (pe_fld (pe_fld (pv 0) rfl) rfl) pe_non (nomark _)) (pss_one ps_never) pss_nil) (pss_one (ps_fld (pv 0) (pe_fld (pe_fld (pv 0) rfl) rfl) rfl)), ?_⟩
    obtain ⟨dx, l, h1, L⟩ := B.ex
    obtain ⟨dxl, d1, t1, b1, hl1, hd1, ht1, hb1⟩ := L.top
    rcases hb1 with ⟨z, _⟩ | ⟨l', rfl, L'⟩
    · cases z
    · refine ⟨_, rfl, b, CB K, dx, _, _, rfl, h1, T.c_Book, T.n_Book_leaf, bf_leaf _, l, CL K, dxl, _, _, rfl, hl1, T.c_Leaf, T.n_Leaf_below, lf_below _ _ _ _, rfl, _, rfl, iteF ?_⟩
      refine ⟨_, rfl, b, CB K, dx, _, _, rfl, h1, T.c_Book, T.n_Book_leaf, bf_leaf _, l, CL K, dxl, _, _, rfl, hl1, T.c_Leaf, T.n_Leaf_below, lf_below _ _ _ _, _, rfl, b, CB K, dx, _, rfl, h1, T.c_Book, T.n_Book_leaf, by show 1 < 1000; decide, ?_⟩
      rw [bf_put2]
      have kp : But b H (upd H b (.ins (CB K) dx (bf l'))) := fun x o e ne => by rw [upd_ne ne]; exact e
      exact q _ ⟨dx, l', upd_same, L'.keep (kp.calm h1)⟩ kp

/-! ### titles, claims, changes -/
def spTitles (K : PySem.W.Frag) : Sp := fun vs H Q _ => ∃ (b : Addr) (kvs : Kvs) (ps : List Kvs) (ks : List Str), vs = [.ref b] ∧ BookAt K H b (kvs :: ps) ∧ kvs.map (·.1) = ks.map Sum.inr ∧ ks.length < 64 ∧
  ∀ ys t H', ys.Perm ks → sortedS ys = true → H' t = some (.tup (ys.map V.str)) → Ext H H' → Q (.ref t) H'
theorem sc_Book_titles : FnScope ["self"] ["self"] (defScope s_Book_titles) := ⟨rfl, rfl, rfl, by decide +kernel, rfl, by decide +kernel, by decide +kernel⟩
theorem ok_Book_titles (T : Txt K mg) : ∃ fd, FnOk P w K mg base CX0 1 (getr K "Book" "titles") fd ["self"] (spTitles K) ∧ Binds K fd ["self"] [] := by
  refine prop_fn T.p_Book_titles sc_Book_titles (fun vs H Q E h => ?_) (fun _ _ _ _ _ _ us hl => match us, hl with | [_], _ => rfl) (fun cdv A outer s H vs Q E hr h => ?_)
  · obtain ⟨b, kvs, ps, ks, rfl, _⟩ := h
    rfl
  · obtain ⟨b, kvs, ps, ks, rfl, B, hk, hz, q⟩ := h
    refine ⟨_, pss_one (ps_ret (pe_tupleOf rfl T.z_tuple (pe_callB (call_sortedD rfl) rfl T.z_sorted (by decide +kernel) (pa_cons (pe_fld (pe_fld (pv 0) rfl) rfl) pa_nil)))), ?_⟩
    obtain ⟨dx, l, h1, L⟩ := B.ex
    obtain ⟨dxl, d1, t1, b1, hl1, hd1, ht1, hb1⟩ := L.top
    refine ⟨_, rfl, b, CB K, dx, _, _, rfl, h1, T.c_Book, T.n_Book_leaf, bf_leaf _, l, CL K, dxl, _, _, rfl, hl1, T.c_Leaf, T.n_Leaf_shelf, lf_shelf _ _ _ _, d1, kvs, ks, rfl, .inl hd1, hk, hz, fun ys p hp hs h0 => ?_⟩
    exact .inl ⟨p, _, rfl, SqL.of upd_same, fun t ht => q ys t _ hp hs upd_same ((Ext.new h0 _).trans (Ext.new ht _))⟩
def spClaims (K : PySem.W.Frag) : Sp := fun vs H Q _ => ∃ (b : Addr) (ps : List Kvs), vs = [.ref b] ∧ BookAt K H b ps ∧ ∀ t, H t = some (.tup []) → Q (.ref t) H
theorem sc_Book_claims : FnScope ["self"] ["self"] (defScope s_Book_claims) := ⟨rfl, rfl, rfl, by decide +kernel, rfl, by decide +kernel, by decide +kernel⟩
theorem ok_Book_claims (T : Txt K mg) : ∃ fd, FnOk P w K mg base CX0 1 (getr K "Book" "claims") fd ["self"] (spClaims K) ∧ Binds K fd ["self"] [] := by
  refine prop_fn T.p_Book_claims sc_Book_claims (fun vs H Q E h => ?_) (fun _ _ _ _ _ _ us hl => match us, hl with | [_], _ => rfl) (fun cdv A outer s H vs Q E hr h => ?_)
  · obtain ⟨b, ps, rfl, _⟩ := h
    rfl
  · obtain ⟨b, ps, rfl, B, q⟩ := h
    refine ⟨_, pss_one (ps_ret (pe_fld (pe_fld (pv 0) rfl) rfl)), ?_⟩
    obtain ⟨dx, l, h1, L⟩ := B.ex
    cases L with
    | one hl1 hd1 ht1 => exact ⟨_, rfl, b, CB K, dx, _, _, rfl, h1, T.c_Book, T.n_Book_leaf, bf_leaf _, l, CL K, _, _, _, rfl, hl1, T.c_Leaf, T.n_Leaf_told, lf_told _ _ _ _, q _ ht1⟩
    | more hl1 hd1 ht1 r => exact ⟨_, rfl, b, CB K, dx, _, _, rfl, h1, T.c_Book, T.n_Book_leaf, bf_leaf _, l, CL K, _, _, _, rfl, hl1, T.c_Leaf, T.n_Leaf_told, lf_told _ _ _ _, q _ ht1⟩
def spChanges (K : PySem.W.Frag) : Sp := fun vs H Q _ => ∃ (b : Addr) (kvs : Kvs) (ps : List Kvs), vs = [.ref b] ∧ BookAt K H b (kvs :: ps) ∧ Q (.int ps.length) H
theorem sc_Book_changes : FnScope ["self"] ["self"] (defScope s_Book_changes) := ⟨rfl, rfl, rfl, by decide +kernel, rfl, by decide +kernel, by decide +kernel⟩
theorem ok_Book_changes (T : Txt K mg) : ∃ fd, FnOk P w K mg base CX0 1 (getr K "Book" "changes") fd ["self"] (spChanges K) ∧ Binds K fd ["self"] [] := by
  refine prop_fn T.p_Book_changes sc_Book_changes (fun vs H Q E h => ?_) (fun _ _ _ _ _ _ us hl => match us, hl with | [_], _ => rfl) (fun cdv A outer s H vs Q E hr h => ?_)
  · obtain ⟨b, kvs, ps, rfl, _⟩ := h
    rfl
  · obtain ⟨b, kvs, ps, rfl, B, q⟩ := h
    refine ⟨_, pss_one (ps_ret (pe_fld (pe_fld (pv 0) rfl) rfl)), ?_⟩
    obtain ⟨dx, l, h1, L⟩ := B.ex
    obtain ⟨dxl, d1, t1, b1, hl1, hd1, ht1, hb1⟩ := L.top
    exact ⟨_, rfl, b, CB K, dx, _, _, rfl, h1, T.c_Book, T.n_Book_leaf, bf_leaf _, l, CL K, dxl, _, _, rfl, hl1, T.c_Leaf, T.n_Leaf_depth, lf_depth _ _ _ _, q⟩

/-! ### is_word -/
def letters : Str := "abcdefghijklmnopqrstuvwxyz"
def Word (n : Str) : Prop := (1 ≤ n.length ∧ n.length ≤ 8) ∧ Txt.stripChars n letters = ""
def spWord : Sp := fun vs H Q _ => ∃ n, vs = [.str n] ∧ Word n ∧ Q (.bl true) H
theorem sc_is_word : FnScope ["value"] ["value"] (defScope s_is_word) := ⟨rfl, rfl, rfl, by decide +kernel, rfl, by decide +kernel, by decide +kernel⟩
theorem ok_is_word (T : Txt K mg) : Ok P w K mg base 1 (He.ga K "is_word") ["value"] spWord := by
  obtain ⟨tl, ml⟩ := T.t_LETTERS
  refine fd_ok T.f_is_word sc_is_word (fun vs H Q E h => ?_) (fun _ _ _ _ _ _ us hl => match us, hl with | [_], _ => rfl) (fun cdv A outer s H vs Q E hr h => ?_)
  · obtain ⟨n, rfl, _⟩ := h
    rfl
  · obtain ⟨n, rfl, ⟨⟨w1, w2⟩, w3⟩, q⟩ := h
    refine ⟨_, pss_one (ps_ret (pe_and (pe_callB call_isi rfl T.z_isinstance (by decide +kernel) (pa_cons (pv 0) (pa_cons (pe_bltn rfl T.z_str (by decide +kernel) (v := .ty "str") rfl) pa_nil)))
      (pe_and (pe_chain op_lt op_lt pe_int (pe_callB call_len_str rfl T.z_len (by decide +kernel) (pa_cons (pv 0) pa_nil)) pe_int)
      (pe_one (pe_cmpR op_eq (pe_m1 F.slot_str_strip F.type_str_strip mt_stripChars (pv 0) (pe_glob (v := .str letters) rfl ml ⟨_, rfl⟩)) pe_str (nomark _)))))), ?_⟩
    refine ⟨_, rfl, _, _, _, _, true, rfl, .ty _, .base (.str n), kit_ss, true, rfl, iteT ?_⟩
    refine ⟨_, rfl, n, rfl, small_line (by omega), 0, _, rfl, rfl, _, rfl, ?_⟩
    rw [decide_eq_true (show (0 : Int) < (n.length : Int) by omega)]
    refine iteT ⟨_, _, rfl, rfl, _, rfl, ?_⟩
    rw [decide_eq_true (show (n.length : Int) < 9 by omega)]
    refine iteT ⟨_, rfl, ⟨_, rfl⟩, n, letters, rfl, rfl, small_line (by omega), rfl, ?_⟩
    rw [w3]
    exact q
end
end K62

set_option Elab.async false
set_option linter.all false
set_option maxRecDepth 100000
set_option maxHeartbeats 4000000
namespace K62
open PySem PySem.Spec PyProof.Rows L2 Bk Evl
section
variable {P : Program} {w : World} {K : PySem.W.Frag} {mg : Str → Option Value} {base : Heap}
/-! ### check_claims, of none -/
def spCc (K : PySem.W.Frag) : Sp := fun vs H Q _ => ∃ (t : Addr) (x : V), vs = [.ref t, x] ∧ H t = some (.tup []) ∧ Q .non H
theorem sc_check_claims : FnScope ["claims", "shelf", "index", "claim", "is_so", "shown"] ["claims", "shelf"] (defScope s_check_claims) := ⟨rfl, rfl, rfl, by decide +kernel, rfl, by decide +kernel, by decide +kernel⟩
theorem ok_check_claims (T : Txt K mg) : Ok P w K mg base 1 (He.ga K "check_claims") ["claims", "shelf"] (spCc K) := by
  refine fd_ok T.f_check_claims sc_check_claims (fun vs H Q E h => ?_) (fun _ _ _ _ _ _ us hl => match us, hl with | [_, _], _ => rfl) (fun cdv A outer s H vs Q E hr h => ?_)
  · obtain ⟨t, x, rfl, _⟩ := h
    rfl
  · obtain ⟨t, x, rfl, ht, q⟩ := h
    refine ⟨_, pss_one (ps_for PassesOwn.never rfl (pi_enumT rfl T.z_enumerate (pa_cons (pv 0) pa_nil)) (pg_tup rfl (pgs_cons (pg_name (i := 2) sc_check_claims.nd rfl (Or.inl rfl)) (pgs_cons (pg_name (i := 3) sc_check_claims.nd rfl (Or.inl rfl)) pgs_nil))) pss_never), ?_⟩
    refine ⟨_, rfl, t, [], rfl, SqT.of ht, ?_⟩
    exact for_enumT (xs := []) (fun _ σ H' => H' = H) rfl (fun i σ H' _ e => by rw [e]; exact SqT.of ht) (fun i x _ _ _ e => by simp at e) (fun σ H' e => by rw [e]; exact q)

/-! ### book[name] = rule -/
def spSet (K : PySem.W.Frag) : Sp := fun vs H Q _ => ∃ (b r dr : Addr) (n : Str) (fs : List (Str × V)) (kvs : Kvs) (ps : List Kvs), vs = [.ref b, .str n, .ref r] ∧ BookAt K H b (kvs :: ps) ∧ Word n ∧ H r = some (.ins (CR K) dr fs) ∧ kvs.length < 100 ∧
  ∀ H', BookAt K H' b (putK kvs (.inr n) (.ref r) :: kvs :: ps) → But b H H' → Q .non H'
theorem sc_Book_set : FnScope ["self", "name", "rule", "shelf"] ["self", "name", "rule"] (defScope s_Book_uusetitem__) := ⟨rfl, rfl, rfl, by decide +kernel, rfl, by decide +kernel, by decide +kernel⟩
theorem told_at {H : Hp} {l : Addr} {ps : List Kvs} (L : LeafAt K H l ps) : ∃ dx d t b n, H l = some (.ins (CL K) dx (lf d t b n)) ∧ H t = some (.tup []) := by
  cases L with
  | one h hd ht => exact ⟨_, _, _, _, _, h, ht⟩
  | more h hd ht _ => exact ⟨_, _, _, _, _, h, ht⟩
theorem ok_Book_set (T : Txt K mg) : Ok P w K mg base 4 (He.ma K (He.ga K "Book") "__setitem__") ["self", "name", "rule"] (spSet K) := by
  obtain ⟨fd1, F1, b1, k1, _⟩ := (ok_is_word (P := P) (w := w) (base := base) T).ex
  obtain ⟨fd2, F2, b2, k2, _⟩ := (ok_check_rule (P := P) (w := w) (base := base) T).ex
  obtain ⟨fd3, F3, b3, k3, _⟩ := (ok_check_claims (P := P) (w := w) (base := base) T).ex
  obtain ⟨fd4, F4, b4, k4, _⟩ := (ok_Book_lay (P := P) (w := w) (base := base) T).ex
  refine fd_ok T.f_Book_uusetitem__ sc_Book_set (fun vs H Q E h => ?_) (fun _ _ _ _ _ _ us hl => match us, hl with | [_, _, _], _ => rfl) (fun cdv A outer s H vs Q E hr h => ?_)
  · obtain ⟨b, r, dr, n, fs, kvs, ps, rfl, _⟩ := h
    rfl
  · obtain ⟨b, r, dr, n, fs, kvs, ps, rfl, B, hn, hrl, hz, q⟩ := h
    have hr1 : Room 1 _ := hr.mono (by decide)
    refine ⟨_, pss_cons (ps_if (pt_not (pt_val (pe_call F1 hr1 rfl T.g_is_word k1 b1 .nil pass0 (pa_cons (pv 1) pa_nil)))) (pss_one ps_never) pss_nil)
      (pss_cons (ps_expr (pe_call F2 hr1 rfl T.g_check_rule k2 b2 .nil pass0 (pa_cons (pv 2) pa_nil)))
      (pss_cons (ps_set (i := 3) sc_Book_set.nd rfl (Or.inl rfl) (pe_star1 (pe_fld (pe_fld (pv 0) rfl) rfl) (pv 1) (pv 2)))
      (pss_cons (ps_expr (pe_call F3 hr1 rfl T.g_check_claims k3 b3 .nil pass0 (pa_cons (pe_fld (pe_fld (pv 0) rfl) rfl) (pa_cons (pv 3) pa_nil))))
      (pss_one (ps_expr (pe_meth (pv 0) T.c_Book T.m_Book_lay F4 hr b4 .nil pass0 (pa_cons (pv 3) (pa_cons (pe_fld (pe_fld (pv 0) rfl) rfl) pa_nil)))))))), ?_⟩
    obtain ⟨dx, l, h1, L⟩ := id B.ex
    obtain ⟨dxl, d1, t1, bl1, hl1, hd1, ht1, hb1⟩ := L.top
    refine ⟨_, rfl, n, rfl, hn, _, rfl, iteF ?_⟩
    refine ⟨_, rfl, r, dr, fs, rfl, hrl, ?_⟩
    intro p hp
    have e1 : Ext H (upd H p (.dK [])) := Ext.new hp _
    refine ⟨_, rfl, b, CB K, dx, _, _, rfl, e1 _ _ h1, T.c_Book, T.n_Book_leaf, bf_leaf _, l, CL K, dxl, _, _, rfl, e1 _ _ hl1, T.c_Leaf, T.n_Leaf_shelf, lf_shelf _ _ _ _, d1, kvs, rfl, e1 _ _ hd1, upd_same, ne_of_none hd1 hp, Nat.lt_of_lt_of_le hz (by decide), ?_⟩
    intro q0 hq0
    rw [upd_upd] at hq0 ⊢
    have e2 : Ext H (upd H p (.dK kvs)) := Ext.new hp _
    have e3 : Ext H (upd (upd H p (.dK kvs)) q0 (.dK [])) := e2.trans (Ext.new hq0 _)
    have npq : p ≠ q0 := fun z => by rw [← z, upd_same] at hq0; cases hq0
    refine ⟨_, rfl, _, rfl, .inr n, rfl, by rw [upd_ne npq]; exact upd_same, upd_same, ?_⟩
    rw [upd_upd]
    have e4 : Ext H (upd (upd (upd H p (.dK kvs)) q0 (.dK [(.inr n, .ref r)])) p (.dK (putK kvs (.inr n) (.ref r)))) := fun x o e => by
      rw [upd_ne (ne_of_none e hp)]
      have z : upd H p (.dK kvs) x = some o := e2 x o e
      rw [upd_ne (ne_of_none z hq0)]
      exact z
    have hp4 : upd (upd (upd H p (.dK kvs)) q0 (.dK [(.inr n, .ref r)])) p (.dK (putK kvs (.inr n) (.ref r))) p = some (.dK (putK kvs (.inr n) (.ref r))) := upd_same
    generalize upd (upd (upd H p (.dK kvs)) q0 (.dK [(.inr n, .ref r)])) p (.dK (putK kvs (.inr n) (.ref r))) = H4 at e4 hp4 ⊢
    refine ⟨_, rfl, b, CB K, dx, _, _, rfl, e4 _ _ h1, T.c_Book, T.n_Book_leaf, bf_leaf _, l, CL K, dxl, _, _, rfl, e4 _ _ hl1, T.c_Leaf, T.n_Leaf_told, lf_told _ _ _ _, _, rfl, t1, _, rfl, e4 _ _ ht1, ?_⟩
    refine ⟨_, rfl, b, dx, _, rfl, e4 _ _ h1, rfl, _, rfl, _, rfl, b, CB K, dx, _, _, rfl, e4 _ _ h1, T.c_Book, T.n_Book_leaf, bf_leaf _, l, CL K, dxl, _, _, rfl, e4 _ _ hl1, T.c_Leaf, T.n_Leaf_told, lf_told _ _ _ _, ?_⟩
    exact ⟨b, p, t1, _, kvs, ps, rfl, B.ext e4, hp4, e4 _ _ ht1, fun H' B' k' => q H' B' ((e4.but b).trans k')⟩
end
end K62

set_option Elab.async false
set_option linter.all false
set_option maxRecDepth 100000
set_option maxHeartbeats 4000000
namespace K62
open PySem PySem.Spec PyProof.Rows L2 Bk Evl
section
variable {P : Program} {w : World} {K : PySem.W.Frag} {mg : Str → Option Value} {base : Heap}
/-! ### a walk over a page that keeps some of it -/
theorem take_kept {α : Type} (p : α → Bool) (l : List α) (i : Nat) (x : α) (h : l[i]? = some x) : (l.take (i + 1)).filter p = (l.take i).filter p ++ if p x = true then [x] else [] := by
  rw [List.take_add_one, h]
  simp only [Option.toList, List.filter_append]
  cases e : p x <;> simp [e]
theorem fresh_key {κ : Type} [DecidableEq κ] (l : List (κ × V)) (hn : (l.map (·.1)).Nodup) (p : κ × V → Bool) (i : Nat) (k : κ) (v : V) (h : l[i]? = some (k, v)) : valV ((l.take i).filter p) k = none := by
  cases e : valV ((l.take i).filter p) k with
  | none => rfl
  | some y =>
    have z := valV_any k ((l.take i).filter p)
    rw [e] at z
    obtain ⟨q, hq, hk⟩ := List.any_eq_true.mp z
    have hq2 := (List.mem_filter.mp hq).1
    obtain ⟨j, hj, e2⟩ := List.mem_iff_getElem.mp hq2
    rw [List.length_take] at hj
    rw [List.getElem_take] at e2
    have hi : i < l.length := (List.getElem?_eq_some_iff.mp h).1
    have e3 : l[i] = (k, v) := (List.getElem?_eq_some_iff.mp h).2
    have e4 : (l.map (·.1))[j]'(by rw [List.length_map]; omega) = (l.map (·.1))[i]'(by rw [List.length_map]; exact hi) := by
      rw [List.getElem_map, List.getElem_map, e3, e2]
      exact of_decide_eq_true hk
    have := (List.getElem_inj hn).mp e4
    omega

/-! ### book.remove(name) -/
def spRemove (K : PySem.W.Frag) : Sp := fun vs H Q _ => ∃ (b : Addr) (n : Str) (kvs : Kvs) (ps : List Kvs), vs = [.ref b, .str n] ∧ BookAt K H b (kvs :: ps) ∧ (valV kvs (.inr n)).isSome = true ∧ (kvs.map (·.1)).Nodup ∧ (∀ kv ∈ kvs, ∃ z, kv.1 = .inr z) ∧ kvs.length < 100 ∧
  ∀ H', BookAt K H' b (dropK kvs (.inr n) :: kvs :: ps) → But b H H' → Q .non H'
theorem sc_Book_remove : FnScope ["self", "name", "index", "claim", "title", "rule"] ["self", "name"] (defScope s_Book_remove) := ⟨rfl, rfl, rfl, by decide +kernel, rfl, by decide +kernel, by decide +kernel⟩
theorem ok_Book_remove (T : Txt K mg) : Ok P w K mg base 4 (He.ma K (He.ga K "Book") "remove") ["self", "name"] (spRemove K) := by
  obtain ⟨fd1, F1, b1, k1, _⟩ := (ok_Book_need (P := P) (w := w) (base := base) T).ex
  obtain ⟨fd4, F4, b4, k4, _⟩ := (ok_Book_lay (P := P) (w := w) (base := base) T).ex
  refine fd_ok T.f_Book_remove sc_Book_remove (fun vs H Q E h => ?_) (fun _ _ _ _ _ _ us hl => match us, hl with | [_, _], _ => rfl) (fun cdv A outer s H vs Q E hr h => ?_)
  · obtain ⟨b, n, kvs, ps, rfl, _⟩ := h
    rfl
  · obtain ⟨b, n, kvs, ps, rfl, B, hv, hnd, hst, hz, q⟩ := h
    have hr1 : Room 2 _ := hr.mono (by decide)
    refine ⟨_, pss_cons (ps_expr (pe_meth (pv 0) T.c_Book T.m_Book_need F1 hr1 b1 .nil pass0 (pa_cons (pv 1) pa_nil)))
      (pss_cons (ps_for PassesOwn.never rfl (pi_enumT rfl T.z_enumerate (pa_cons (pe_fld (pe_fld (pv 0) rfl) rfl) pa_nil)) (pg_tup rfl (pgs_cons (pg_name (i := 2) sc_Book_remove.nd rfl (Or.inl rfl)) (pgs_cons (pg_name (i := 3) sc_Book_remove.nd rfl (Or.inl rfl)) pgs_nil))) pss_never)
      (pss_one (ps_expr (pe_meth (pv 0) T.c_Book T.m_Book_lay F4 hr b4 .nil pass0 (pa_cons
        (pe_lock (pe_dc (own := [("title", 4), ("rule", 5)]) (g := gTup K 2 (gCons (gName 4) (gCons (gName 5) gNil))) rfl sc_Book_remove.nd (pi_items (pe_fld (pe_fld (pv 0) rfl) rfl))
          (blkOk_by (own := [("title", 4), ("rule", 5)]) (N := ["self", "name", "index", "claim", "title", "rule"]) (sc := defScope s_Book_remove) (by decide +kernel))
          (fun _ _ _ _ _ => pg_tup rfl (pgs_cons (pg_name (i := 4) sc_Book_remove.nd rfl (Or.inl rfl)) (pgs_cons (pg_name (i := 5) sc_Book_remove.nd rfl (Or.inl rfl)) pgs_nil)))
          (fun _ _ _ _ _ => pts_one (pt_cmpR op_ne (pv 4) (pv 1) (nomark _))) (fun _ _ _ _ _ => pv 4) (fun _ _ _ _ _ => pv 5)))
        (pa_cons (pe_fld (pe_fld (pv 0) rfl) rfl) pa_nil)))))), ?_⟩
    obtain ⟨dx, l, h1, L⟩ := id B.ex
    obtain ⟨dxl, d1, t1, bl1, hl1, hd1, ht1, hb1⟩ := L.top
    refine ⟨_, rfl, b, dx, _, rfl, h1, rfl, _, rfl, b, n, kvs, ps, rfl, B, hv, ?_⟩
    refine ⟨_, rfl, b, CB K, dx, _, _, rfl, h1, T.c_Book, T.n_Book_leaf, bf_leaf _, l, CL K, dxl, _, _, rfl, hl1, T.c_Leaf, T.n_Leaf_told, lf_told _ _ _ _, t1, [], rfl, SqT.of ht1, ?_⟩
    refine for_enumT (xs := []) (fun _ σ H' => ∃ u v, H' = H ∧ σ = [some (.ref b), some (.str n), u, v, none, none]) ⟨_, _, rfl, rfl⟩ (fun i σ H' _ ⟨_, _, e, _⟩ => by rw [e]; exact SqT.of ht1) (fun i x _ _ _ e => by simp at e) ?_
    rintro σ H' ⟨u, v, rfl, rfl⟩
    refine ⟨_, rfl, b, dx, _, rfl, h1, rfl, ?_⟩
    -- the dict comprehension
    refine ⟨d1, _, hd1, True.intro, fun od => ?_⟩
    have nbd : b ≠ d1 := ne_of h1 hd1 (by intro z; cases z)
    have nld : l ≠ d1 := ne_of hl1 hd1 (by intro z; cases z)
    generalize hG : upd H' d1 (.frz od (.dK kvs)) = G
    have gk : ∀ x o, H' x = some o → x ≠ d1 → G x = some o := fun x o e ne => by rw [← hG, upd_ne ne]; exact e
    have gd : G d1 = some (.frz od (.dK kvs)) := by rw [← hG]; exact upd_same
    refine ⟨_, rfl, b, CB K, dx, _, _, rfl, gk _ _ h1 nbd, T.c_Book, T.n_Book_leaf, bf_leaf _, l, CL K, dxl, _, _, rfl, gk _ _ hl1 nld, T.c_Leaf, T.n_Leaf_shelf, lf_shelf _ _ _ _, d1, od, kvs, rfl, gd, ?_⟩
    intro D hD
    have nDd : d1 ≠ D := ne_of_none gd hD
    refine ⟨fun i m J => m = kvs.length - i ∧ i ≤ kvs.length ∧ J D = some (.dK ((kvs.take i).filter fun kv => decide (kv.1 ≠ .inr n))) ∧ ∀ x o, G x = some o → J x = some o, ⟨kvs.length, rfl, Nat.zero_le _, upd_same, fun x o e => by rw [upd_ne (ne_of_none e hD)]; exact e⟩, ?_⟩
    rintro i m J ⟨rfl, hi, jD, jk⟩
    by_cases hlt : i < kvs.length
    · refine .inr ⟨⟨jk _ _ gd, hlt⟩, fun J' => i + 1 ≤ kvs.length ∧ J' D = some (.dK ((kvs.take (i + 1)).filter fun kv => decide (kv.1 ≠ .inr n))) ∧ ∀ x o, G x = some o → J' x = some o, fun J' ⟨p1, p2, p3⟩ => ⟨kvs.length - (i + 1), by omega, rfl, p1, p2, p3⟩, ?_⟩
      rintro x J' ⟨tp, k, v', hkv, rfl, htp, rfl⟩
      refine ⟨tp, _, rfl, SqT.of upd_same, rfl, _, _, rfl, _, _, rfl, rfl, rfl, ?_⟩
      obtain ⟨z, hz2⟩ := hst _ (List.mem_of_getElem? hkv)
      cases (show k = .inr z from hz2)
      have jk2 : ∀ x o, G x = some o → upd J tp (.tup [kV (.inr z), v']) x = some o := fun x o e => by rw [upd_ne (ne_of_none (jk x o e) htp)]; exact jk x o e
      have jD2 : upd J tp (.tup [kV (.inr z), v']) D = some (.dK ((kvs.take i).filter fun kv => decide (kv.1 ≠ .inr n))) := by rw [upd_ne (ne_of_none jD htp)]; exact jD
      refine ⟨_, rfl, _, rfl, rfl, _, rfl, ?_⟩
      have e2 : (decide (V.str z = V.str n)) = decide ((Sum.inr z : Key) = .inr n) := decide_eq_decide.mpr ⟨fun e => by injection e with e; rw [e], fun e => by injection e with e; rw [e]⟩
      have tk := take_kept (fun kv : Key × V => decide (kv.1 ≠ .inr n)) kvs i _ hkv
      by_cases hne : (Sum.inr z : Key) = .inr n
      · have e3 : (!decide (kV (.inr z) = V.str n)) = false := by
          rw [decide_eq_true (by injection hne with e; rw [e]; rfl)]
          rfl
        rw [e3]
        rw [if_neg (by simp [hne]), List.append_nil] at tk
        exact iteF ⟨hlt, by rw [tk]; exact jD2, jk2⟩
      · have e3 : (!decide (kV (.inr z) = V.str n)) = true := by
          rw [decide_eq_false (fun e => hne (by injection e with e; rw [e]))]
          rfl
        rw [e3]
        rw [if_pos (by simp [hne])] at tk
        refine iteT ⟨_, rfl, _, rfl, _, .inr z, rfl, jD2, ?_, hlt, ?_, fun x o e => ?_⟩
        · have h5 : ((kvs.take i).filter fun kv => decide (kv.1 ≠ .inr n)).length ≤ kvs.length := Nat.le_trans (List.length_filter_le _ _) (by rw [List.length_take]; exact Nat.min_le_right _ _)
          exact Nat.lt_of_le_of_lt h5 (Nat.lt_of_lt_of_le hz (by decide))
        · rw [upd_same, tk, putK_new _ (fresh_key kvs hnd _ i _ _ hkv)]
        · rw [upd_ne (ne_of_none e hD)]
          exact jk2 x o e
    · obtain rfl : i = kvs.length := by omega
      rw [List.take_length] at jD
      refine .inl ⟨⟨jk _ _ gd, Nat.le_refl _⟩, jk _ _ gd, ?_⟩
      have k5 : Ext H' (upd J d1 (.dK kvs)) := fun x o e => by
        by_cases ne : x = d1
        · subst ne
          rw [hd1] at e
          rw [upd_same]
          exact e
        · rw [upd_ne ne]
          exact jk _ _ (gk x o e ne)
      have kD : upd J d1 (.dK kvs) D = some (.dK (dropK kvs (.inr n))) := by rw [upd_ne nDd.symm]; exact jD
      refine ⟨_, rfl, b, CB K, dx, _, _, rfl, k5 _ _ h1, T.c_Book, T.n_Book_leaf, bf_leaf _, l, CL K, dxl, _, _, rfl, k5 _ _ hl1, T.c_Leaf, T.n_Leaf_told, lf_told _ _ _ _, ?_⟩
      exact ⟨b, D, t1, _, kvs, ps, rfl, B.ext k5, kD, k5 _ _ ht1, fun H2 B' k' => q H2 B' ((k5.but b).trans k')⟩
end
end K62

set_option Elab.async false
set_option linter.all false
set_option maxRecDepth 100000
set_option maxHeartbeats 4000000
namespace K62
open PySem PySem.Spec PyProof.Rows L2 Bk Evl
section
variable {P : Program} {w : World} {K : PySem.W.Frag} {mg : Str → Option Value} {base : Heap}
/-! ### the deck, and a draw from it -/
def Deck (H : Hp) (d : Addr) (n : Nat) : Prop := ∃ f m t : Int, H d = some (.lst [.int f, .int m, .int t]) ∧ 0 ≤ f ∧ (0 ≤ m ∧ m < 2147483543) ∧ (1 ≤ t ∧ t ≤ n)
theorem Deck.mono {H : Hp} {d : Addr} {n m : Nat} (D : Deck H d n) (h : n ≤ m) : Deck H d m := by
  obtain ⟨f, a, t, h1, h2, h3, h4, h5⟩ := D
  exact ⟨f, a, t, h1, h2, h3, h4, by omega⟩
theorem Deck.ext {H H' : Hp} {d : Addr} {n : Nat} (D : Deck H d n) (k : Ext H H') : Deck H' d n := by
  obtain ⟨f, a, t, h1, h2⟩ := D
  exact ⟨f, a, t, k _ _ h1, h2⟩
def spPick : Sp := fun vs H Q _ => ∃ (d : Addr) (many n : Nat), vs = [.ref d, .int many] ∧ Deck H d n ∧ n ≤ 1000000 ∧ 1 ≤ many ∧ many ≤ 1000000 ∧ ∀ (k : Nat) H', k < many → Deck H' d (n + 1) → But d H H' → Q (.int k) H'
theorem sc_pick : FnScope ["_law_deck_here", "_law_many", "_law_figures", "_law_mixed", "_law_turn_here", "_law_figure"] ["_law_deck_here", "_law_many"] (defScope s_ulaw_pick) := ⟨rfl, rfl, rfl, by decide +kernel, rfl, by decide +kernel, by decide +kernel⟩
theorem divp_small {i j : Int} (h0 : 0 < j) (h1 : j < 1073741824) : CDivP i j := by
  refine ⟨h0, ?_⟩
  have e : j.natAbs.log2 < 30 := PySem.Flt.log2_lt_of (by decide) (by show j.natAbs < 1073741824; omega)
  show (decide ((if j == 0 then 0 else j.natAbs.log2 / 30 + 1) > 300) && _) = false
  rw [if_neg (by simpa using (show j ≠ 0 by omega)), decide_eq_false (by omega)]
  rfl
theorem ok_pick (T : Txt K mg) : Ok P w K mg base 1 (He.ga K "_law_pick") ["_law_deck_here", "_law_many"] spPick := by
  refine fd_ok T.f_ulaw_pick sc_pick (fun vs H Q E h => ?_) (fun _ _ _ _ _ _ us hl => match us, hl with | [_, _], _ => rfl) (fun cdv A outer s H vs Q E hr h => ?_)
  · obtain ⟨d, many, n, rfl, _⟩ := h
    rfl
  · obtain ⟨d, many, n, rfl, ⟨f, m, t, hd, hf, hm, ht1, ht2⟩, hn, hm1, hm2, q⟩ := h
    have nd := sc_pick.nd
    refine ⟨_, pss_cons (ps_asg (pv 0) (pg_unl rfl (pgs_cons (pg_name (i := 2) nd rfl (Or.inl rfl)) (pgs_cons (pg_name (i := 3) nd rfl (Or.inl rfl)) (pgs_cons (pg_name (i := 4) nd rfl (Or.inl rfl)) pgs_nil)))))
      (pss_cons (ps_if (pt_cmpR op_gt (pv 2) pe_int (nomark _))
        (pss_cons (ps_asg (pe_callB call_divmodW rfl T.z_divmod (by decide +kernel) (pa_cons (pv 2) (pa_cons (pv 1) pa_nil))) (pg_tup rfl (pgs_cons (pg_sub (pv 0) pe_int set_list) (pgs_cons (pg_name (i := 5) nd rfl (Or.inl rfl)) pgs_nil))))
          (pss_one (ps_ret (pv 5)))) pss_nil)
      (pss_cons (ps_set (i := 3) nd rfl (Or.inl rfl) (pe_op op_mod (pe_callTy call_int1 rfl T.z_int (by decide +kernel) (pa_cons
          (pe_op op_add (pe_op op_add (pe_op op_mul (pv 3) (pe_op op_add (pe_op op_mod (pe_callTy call_int1 rfl T.z_int (by decide +kernel) (pa_cons (pe_op op_fdiv (pv 3) pe_int) pa_nil)) pe_int) pe_int)) (pe_op op_mul pe_int (pv 4))) pe_int) pa_nil)) pe_int))
      (pss_cons (ps_asg (pe_tup (pa_cons (pv 3) (pa_cons (pe_op op_add (pv 4) pe_int) pa_nil))) (pg_tup rfl (pgs_cons (pg_sub (pv 0) pe_int set_list) (pgs_cons (pg_sub (pv 0) pe_int set_list) pgs_nil))))
      (pss_one (ps_ret (pe_op op_mod (pe_callTy call_int1 rfl T.z_int (by decide +kernel) (pa_cons (pe_op op_fdiv (pv 3) pe_int) pa_nil)) (pv 1))))))), ?_⟩
    refine ⟨_, rfl, d, _, rfl, SqL.of hd, rfl, _, _, rfl, _, _, rfl, _, _, rfl, rfl, ?_⟩
    refine ⟨_, rfl, _, _, rfl, rfl, _, rfl, ?_⟩
    refine ite2 (fun hb => ?_) (fun hb => ?_)
    · have hf0 : 0 < f := of_decide_eq_true hb
      refine ⟨_, rfl, _, rfl, f, many, rfl, divp_small (by omega) (by omega), fun p hp => ?_⟩
      refine ⟨p, _, rfl, SqT.of upd_same, rfl, _, _, rfl, ?_⟩
      have npd : d ≠ p := ne_of_none hd hp
      refine ⟨_, rfl, d, _, 0, 0, rfl, rfl, by rw [upd_ne npd]; exact hd, rfl, ?_⟩
      refine ⟨_, _, rfl, rfl, _, rfl, ?_⟩
      have e1 : f % (many : Int) = (((f % (many : Int)).toNat : Nat) : Int) := by
        have := Int.emod_nonneg f (show (many : Int) ≠ 0 by omega)
        omega
      have e2 : (f % (many : Int)).toNat < many := by
        have := Int.emod_lt_of_pos f (show (0 : Int) < (many : Int) by omega)
        omega
      show Q (.int (f % (many : Int))) _
      rw [e1]
      refine q _ _ e2 ⟨f / many, m, t, upd_same, Int.ediv_nonneg hf (by omega), hm, ht1, by omega⟩ fun x o e ne => ?_
      rw [upd_ne ne, upd_ne (ne_of_none e hp)]
      exact e
    · refine ⟨_, rfl, _, rfl, _, _, rfl, rfl, ⟨by decide, by decide⟩, .inl ⟨_, rfl, _, _, rfl, rfl, (show (0:Int) < 50021 by decide), _, _, rfl, rfl, _, _, rfl, rfl, .inl ⟨by omega, by omega⟩, ?_⟩⟩
      refine ⟨_, rfl, _, _, rfl, rfl, .inl ⟨by decide, by decide⟩, _, _, rfl, rfl, _, _, rfl, rfl, .inl ⟨_, rfl, _, _, rfl, rfl, (show (0:Int) < 2147483543 by decide), ?_⟩⟩
      generalize hm' : (m * (m / 32 % 50021 + 7) + 30011 * t + 11) % 2147483543 = m'
      have b1 : 0 ≤ m' := by rw [← hm']; exact Int.emod_nonneg _ (by decide)
      have b2 : m' < 2147483543 := by rw [← hm']; exact Int.emod_lt_of_pos _ (by decide)
      have hv : some (some (V.int ((m * (m / 32 % 50021 + 7) + 30011 * t + 11) % 2147483543))) = some (some (V.int m')) := by rw [hm']
      refine ⟨.int m', hv, _, rfl, _, _, rfl, rfl, by show 2 ≤ sizeLine; decide, fun p hp => ?_⟩
      have npd : d ≠ p := ne_of_none hd hp
      refine ⟨p, _, rfl, SqT.of upd_same, rfl, _, _, rfl, _, rfl, d, _, 1, 1, rfl, rfl, by rw [upd_ne npd]; exact hd, rfl, ?_⟩
      refine ⟨_, _, rfl, _, rfl, d, _, 2, 2, rfl, rfl, upd_same, rfl, rfl, ?_⟩
      refine ⟨.int m', hv, _, _, rfl, rfl, ⟨by decide, by decide⟩, .inl ⟨_, rfl, _, rfl, _, _, rfl, rfl, (by omega), ?_⟩⟩
      have e1 : m' / 2048 % (many : Int) = (((m' / 2048 % (many : Int)).toNat : Nat) : Int) := by
        have := Int.emod_nonneg (m' / 2048) (show (many : Int) ≠ 0 by omega)
        omega
      have e2 : (m' / 2048 % (many : Int)).toNat < many := by
        have := Int.emod_lt_of_pos (m' / 2048) (show (0 : Int) < (many : Int) by omega)
        omega
      show Q (.int (m' / 2048 % (many : Int))) _
      rw [e1]
      refine q _ _ e2 ⟨f, m', t + 1, by rw [upd_same]; rfl, hf, ⟨b1, b2⟩, by omega, by omega⟩ fun x o e ne => ?_
      rw [upd_ne ne, upd_ne ne, upd_ne (ne_of_none e hp)]
      exact e

/-! ### _law_gcd, _law_shares -/
def spLgcd : Sp := fun vs H Q _ => ∃ i j : Nat, vs = [.int i, .int j] ∧ (1 ≤ i ∧ i ≤ 12) ∧ (1 ≤ j ∧ j ≤ 12) ∧ ∀ H', Ext H H' → Q (.int (Nat.gcd i j : Nat)) H'
theorem sc_lgcd : FnScope ["_law_left", "_law_right_here", "_law_part"] ["_law_left", "_law_right_here"] (defScope s_ulaw_gcd) := ⟨rfl, rfl, rfl, by decide +kernel, rfl, by decide +kernel, by decide +kernel⟩
def comm (i j k : Nat) : Bool := decide (i % (k + 1) = 0) && decide (j % (k + 1) = 0)
theorem gcd_max : ∀ i : Fin 12, ∀ j : Fin 12, let l := ((List.range 12).filter (comm (i.val + 1) (j.val + 1))).map (· + 1); Nat.gcd (i.val + 1) (j.val + 1) ∈ l ∧ l.all (fun x => decide (x ≤ Nat.gcd (i.val + 1) (j.val + 1))) = true := by decide +kernel
theorem ok_lgcd (T : Txt K mg) : Ok P w K mg base 1 (He.ga K "_law_gcd") ["_law_left", "_law_right_here"] spLgcd := by
  refine fd_ok T.f_ulaw_gcd sc_lgcd (fun vs H Q E h => ?_) (fun _ _ _ _ _ _ us hl => match us, hl with | [_, _], _ => rfl) (fun cdv A outer s H vs Q E hr h => ?_)
  · obtain ⟨i, j, rfl, _⟩ := h
    rfl
  · obtain ⟨i, j, rfl, ⟨i1, i2⟩, ⟨j1, j2⟩, q⟩ := h
    have nd := sc_lgcd.nd
    refine ⟨_, pss_one (ps_ret (pe_callB (cr_max rfl) rfl T.z_max (by decide +kernel) (pa_cons
        (pe_lc (own := [("_law_part", 2)]) (g := gName 2) rfl nd (pi_range2 rfl T.z_range (pa_cons pe_int (pa_cons pe_int pa_nil))) (blkOk_by (own := [("_law_part", 2)]) (N := ["_law_left", "_law_right_here", "_law_part"]) (sc := defScope s_ulaw_gcd) (by decide +kernel))
          (fun _ _ _ _ _ => pg_name (i := 2) nd rfl (Or.inl rfl)) (fun _ _ _ _ _ => pts_one (PW.pt (pw_and (pt_cmpR op_eq (pe_op op_mod (pe_callTy call_int1 rfl T.z_int (by decide +kernel) (pa_cons (pv 0) pa_nil)) (pv 2)) pe_int (nomark _))
            (pw_and1 (pt_cmpR op_eq (pe_op op_mod (pe_callTy call_int1 rfl T.z_int (by decide +kernel) (pa_cons (pv 1) pa_nil)) (pv 2)) pe_int (nomark _)))))) (fun _ _ _ _ _ => pv 2)) pa_nil))), ?_⟩
    refine ⟨1, 13, rfl, ⟨by decide, by decide, by decide, by decide⟩, fun D hD => ?_⟩
    refine lc_range (lo := 1) (n := 12) (Cw H (comm i j) (fun k => V.int (1 + (k : Int))) D) ⟨hD, Ex.new hD, upd_same⟩ (fun k H5 hk p => ?_) (fun H5 p => ?_)
    · refine ⟨rfl, cw_turn p (by omega) (fun H1 e Q q => ?_) (fun _ H1 e Q q => ⟨_, rfl, q H1 (Ex.refl H1)⟩)⟩
      have ev : ∀ a : Nat, decide (V.int ((a : Int) % (1 + (k : Int))) = V.int 0) = decide (a % (k + 1) = 0) := fun a => by
        have e0 : (a : Int) % (1 + (k : Int)) = ((a % (k + 1) : Nat) : Int) := by
          rw [show (1 + (k : Int)) = ((k + 1 : Nat) : Int) by omega]
          exact (Int.natCast_emod a (k + 1)).symm
        rw [e0]
        exact decide_eq_decide.mpr ⟨fun z => by injection z with z; exact Int.ofNat.inj z, fun z => by rw [z]; rfl⟩
      refine ⟨_, rfl, .inl ⟨_, rfl, _, rfl, _, _, rfl, rfl, by omega, rfl, _, rfl, ?_⟩⟩
      rw [ev]
      have e5 := q H1 (Ex.refl H1)
      unfold comm at e5
      cases e6 : decide (i % (k + 1) = 0) with
      | false =>
        rw [e6] at e5
        exact iteF e5
      | true =>
        rw [e6] at e5
        refine iteT ⟨_, rfl, .inl ⟨_, rfl, _, rfl, _, _, rfl, rfl, by omega, rfl, _, rfl, ?_⟩⟩
        rw [ev]
        exact e5
    · obtain ⟨p1, p2, p3⟩ := p
      have key := gcd_max ⟨i - 1, by omega⟩ ⟨j - 1, by omega⟩
      dsimp only at key
      rw [show i - 1 + 1 = i by omega, show j - 1 + 1 = j by omega] at key
      obtain ⟨k1, k2⟩ := key
      have e1 : given 12 (comm i j) (fun k => V.int (1 + (k : Int))) = ((((List.range 12).filter (comm i j)).map (· + 1)).map (fun k : Nat => (k : Int))).map V.int := by
        unfold given
        rw [List.map_map, List.map_map]
        refine List.map_congr_left fun x _ => ?_
        show V.int (1 + (x : Int)) = V.int ((x + 1 : Nat) : Int)
        congr 1
        omega
      rw [e1] at p3
      refine ⟨D, _, rfl, SqL.of p3, ?_, fun m hm hmx => ?_⟩
      · rw [List.length_map]
        exact List.length_pos_of_mem k1
      · obtain ⟨x, hx, rfl⟩ := List.mem_map.mp hm
        have h1 := of_decide_eq_true (List.all_eq_true.mp k2 x hx)
        have h2 := hmx _ (List.mem_map.mpr ⟨_, k1, rfl⟩)
        have : x = Nat.gcd i j := by omega
        rw [this]
        exact q _ p2
end
end K62

set_option Elab.async false
set_option linter.all false
set_option maxRecDepth 100000
set_option maxHeartbeats 4000000
namespace K62
open PySem PySem.Spec PyProof.Rows L2 Bk Evl
section
variable {P : Program} {w : World} {K : PySem.W.Frag} {mg : Str → Option Value} {base : Heap}
/-! ### _law_shares -/
def shN (a : Nat) : List Nat := ((List.range 12).filter fun k => decide (Nat.gcd (k + 1) a = 1)).map (· + 1)
def spShares : Sp := fun vs H Q _ => ∃ a : Nat, vs = [.int a] ∧ (1 ≤ a ∧ a ≤ 12) ∧ ∀ l H', H l = none → H' l = some (.lst ((shN a).map fun k => V.int (k : Nat))) → Ext H H' → Q (.ref l) H'
theorem sc_shares : FnScope ["_law_parts_here", "_law_share"] ["_law_parts_here"] (defScope s_ulaw_shares) := ⟨rfl, rfl, rfl, by decide +kernel, rfl, by decide +kernel, by decide +kernel⟩
theorem ok_shares (T : Txt K mg) : Ok P w K mg base 2 (He.ga K "_law_shares") ["_law_parts_here"] spShares := by
  obtain ⟨fd1, F1, b1, k1, _⟩ := (ok_lgcd (P := P) (w := w) (base := base) T).ex
  refine fd_ok T.f_ulaw_shares sc_shares (fun vs H Q E h => ?_) (fun _ _ _ _ _ _ us hl => match us, hl with | [_], _ => rfl) (fun cdv A outer s H vs Q E hr h => ?_)
  · obtain ⟨a, rfl, _⟩ := h
    rfl
  · obtain ⟨a, rfl, ⟨a1, a2⟩, q⟩ := h
    have nd := sc_shares.nd
    refine ⟨_, pss_one (ps_ret (pe_lc (own := [("_law_share", 1)]) (g := gName 1) rfl nd (pi_range2 rfl T.z_range (pa_cons pe_int (pa_cons pe_int pa_nil))) (blkOk_by (own := [("_law_share", 1)]) (N := ["_law_parts_here", "_law_share"]) (sc := defScope s_ulaw_shares) (by decide +kernel))
          (fun _ _ _ _ _ => pg_name (i := 1) nd rfl (Or.inl rfl)) (fun _ _ _ _ _ => pts_one (pt_cmpR op_eq (pe_call F1 hr rfl T.g_ulaw_gcd k1 b1 .nil pass0 (pa_cons (pv 1) (pa_cons (pv 0) pa_nil))) pe_int (nomark _))) (fun _ _ _ _ _ => pv 1))), ?_⟩
    refine ⟨1, 13, rfl, ⟨by decide, by decide, by decide, by decide⟩, fun D hD => ?_⟩
    refine lc_range (lo := 1) (n := 12) (Cw H (fun k => decide (Nat.gcd (k + 1) a = 1)) (fun k => V.int (1 + (k : Int))) D) ⟨hD, Ex.new hD, upd_same⟩ (fun k H5 hk p => ?_) (fun H5 p => ?_)
    · refine ⟨rfl, cw_turn p (by omega) (fun H1 e Q q => ?_) (fun _ H1 e Q q => ⟨_, rfl, q H1 (Ex.refl H1)⟩)⟩
      refine ⟨_, rfl, _, rfl, k + 1, a, ?_, ⟨by omega, by omega⟩, ⟨a1, a2⟩, fun H2 e2 => ⟨rfl, _, rfl, ?_⟩⟩
      · show [V.int (1 + (k : Int)), V.int a] = _
        rw [show (1 + (k : Int)) = ((k + 1 : Nat) : Int) by omega]
      · rw [show decide (V.int ((Nat.gcd (k + 1) a : Nat) : Int) = V.int 1) = decide (Nat.gcd (k + 1) a = 1) from decide_eq_decide.mpr ⟨fun z => by injection z with z; omega, fun z => by rw [z]; rfl⟩]
        exact q H2 e2
    · obtain ⟨p1, p2, p3⟩ := p
      refine q D H5 hD ?_ p2
      rw [p3]
      unfold given shN
      rw [List.map_map]
      congr 2
      refine List.map_congr_left fun x _ => ?_
      show V.int (1 + (x : Int)) = V.int ((x + 1 : Nat) : Int)
      congr 1
      omega
theorem shN_mem {a c : Nat} (h : c ∈ shN a) : shareB a c = true := by
  unfold shN at h
  obtain ⟨k, hk, rfl⟩ := List.mem_map.mp h
  obtain ⟨h1, h2⟩ := List.mem_filter.mp hk
  have h3 := List.mem_range.mp h1
  unfold shareB
  rw [decide_eq_true (by omega), decide_eq_true (by omega), h2]
  rfl
theorem shN_len (a : Nat) : 1 ≤ (shN a).length ∧ (shN a).length ≤ 12 := by
  unfold shN
  rw [List.length_map]
  refine ⟨List.length_pos_of_mem (a := 0) (List.mem_filter.mpr ⟨by simp, by simp⟩), Nat.le_trans (List.length_filter_le _ _) (by simp)⟩
/-! ### _law_rule -/
def spRule : Sp := fun vs H Q _ => ∃ (d : Addr) (n : Nat), vs = [.ref d] ∧ Deck H d n ∧ n ≤ 900000 ∧ ∀ (a b c : Nat) t H', okRule a b c → H' t = some (.tup [.int a, .int b, .int c]) → Deck H' d (n + 3) → But d H H' → Q (.ref t) H'
theorem sc_rule : FnScope ["_law_deck_here", "_law_parts_here", "_law_some"] ["_law_deck_here"] (defScope s_ulaw_rule) := ⟨rfl, rfl, rfl, by decide +kernel, rfl, by decide +kernel, by decide +kernel⟩
theorem deck_ne {H : Hp} {d x : Addr} {n : Nat} {o : HO} (D : Deck H d n) (h : H x = some o) (c : calmO o = true) : x ≠ d := fun z => by
  obtain ⟨f, m, t, hd, _⟩ := D
  rw [z, hd] at h
  cases h
  cases (show (false : Bool) = true from c)
theorem ok_rule (T : Txt K mg) : Ok P w K mg base 3 (He.ga K "_law_rule") ["_law_deck_here"] spRule := by
  obtain ⟨fd1, F1, b1, k1, _⟩ := (ok_pick (P := P) (w := w) (base := base) T).ex
  obtain ⟨fd2, F2, b2, k2, _⟩ := (ok_shares (P := P) (w := w) (base := base) T).ex
  refine fd_ok T.f_ulaw_rule sc_rule (fun vs H Q E h => ?_) (fun _ _ _ _ _ _ us hl => match us, hl with | [_], _ => rfl) (fun cdv A outer s H vs Q E hr h => ?_)
  · obtain ⟨d, n, rfl, _⟩ := h
    rfl
  · obtain ⟨d, n, rfl, D0, hn, q⟩ := h
    have nd := sc_rule.nd
    have hr1 : Room 1 _ := hr.mono (by decide)
    refine ⟨_, pss_cons (ps_set (i := 1) nd rfl (Or.inl rfl) (pe_op op_add pe_int (pe_call F1 hr1 rfl T.g_ulaw_pick k1 b1 .nil pass0 (pa_cons (pv 0) (pa_cons pe_int pa_nil)))))
      (pss_cons (ps_set (i := 2) nd rfl (Or.inl rfl) (pe_call F2 hr rfl T.g_ulaw_shares k2 b2 .nil pass0 (pa_cons (pv 1) pa_nil)))
      (pss_one (ps_ret (pe_tup (pa_cons (pv 1) (pa_cons (pe_ix ix_list (pv 2) (pe_call F1 hr1 rfl T.g_ulaw_pick k1 b1 .nil pass0 (pa_cons (pv 0) (pa_cons (pe_callB call_len_seq rfl T.z_len (by decide +kernel) (pa_cons (pv 2) pa_nil)) pa_nil))) (by intro _ _; rfl))
        (pa_cons (pe_ix ix_list (pv 2) (pe_call F1 hr1 rfl T.g_ulaw_pick k1 b1 .nil pass0 (pa_cons (pv 0) (pa_cons (pe_callB call_len_seq rfl T.z_len (by decide +kernel) (pa_cons (pv 2) pa_nil)) pa_nil))) (by intro _ _; rfl)) pa_nil))))))), ?_⟩
    refine ⟨_, rfl, d, 11, n, rfl, D0, by omega, by omega, by omega, fun k H1 hk D1 e1 => ?_⟩
    refine ⟨2, k, rfl, rfl, ?_⟩
    have va : ∀ a : Nat, a = 2 + k → some (some (V.int (2 + (k : Int)))) = some (some (V.int a)) := fun a h => by subst h; rfl
    generalize ha : 2 + k = a at va
    have hv := va a rfl
    refine ⟨.int a, hv, a, rfl, ⟨by omega, by omega⟩, fun l H2 hl0 hl e2 => ?_⟩
    obtain ⟨sl1, sl2⟩ := shN_len a
    have len : (((shN a).map fun k => V.int (k : Nat))).length = (shN a).length := List.length_map _
    have D2 := D1.ext e2
    have nl : l ≠ d := by
      obtain ⟨f, m, t, hd, _⟩ := D1
      exact (ne_of_none hd hl0).symm
    have at_ : ∀ k2 : Nat, k2 < (shN a).length → ∃ c : Nat, atI ((shN a).map fun k => V.int (k : Nat)) (k2 : Int) = some (.int c) ∧ shareB a c = true := fun k2 h => by
      refine ⟨(shN a)[k2], atI_nat ?_, shN_mem (List.getElem_mem h)⟩
      rw [List.getElem?_map, List.getElem?_eq_getElem h]
      rfl
    refine ⟨.int a, hv, _, rfl, _, rfl, _, rfl, l, _, rfl, .inl (SqL.of hl), d, (shN a).length, n + 1, by rw [len]; rfl, D2, by omega, by omega, by omega, fun k2 H3 hk2 D3 e3 => ?_⟩
    obtain ⟨b, ab, sb⟩ := at_ k2 hk2
    have hl3 := e3 _ _ hl nl
    refine ⟨l, _, k2, _, rfl, rfl, SqL.of hl3, ab, ?_⟩
    refine ⟨_, rfl, _, rfl, _, rfl, l, _, rfl, .inl (SqL.of hl3), d, (shN a).length, n + 2, by rw [len]; rfl, D3, by omega, by omega, by omega, fun k3 H4 hk3 D4 e4 => ?_⟩
    obtain ⟨c, ac, sc⟩ := at_ k3 hk3
    have hl4 := e4 _ _ hl3 nl
    refine ⟨l, _, k3, _, rfl, rfl, SqL.of hl4, ac, by show 3 ≤ sizeLine; decide, fun t ht => ?_⟩
    refine q a b c t _ ⟨by omega, sb, sc⟩ upd_same (D4.ext (Ext.new ht _)) fun x o e ne => ?_
    have e5 := e4 _ _ (e3 _ _ (e2 _ _ (e1 _ _ e ne)) ne) ne
    rw [upd_ne (ne_of_none e5 ht)]
    exact e5

/-! ### _law_line -/
def spLine : Sp := fun vs H Q _ => ∃ (t : Addr) (a b c : Nat), vs = [.ref t] ∧ H t = some (.tup [.int a, .int b, .int c]) ∧ (a ≤ 12 ∧ b ≤ 12 ∧ c ≤ 12) ∧ Q (.str (ruleText a b c)) H
theorem sc_line : FnScope ["_law_abc"] ["_law_abc"] (defScope s_ulaw_line) := ⟨rfl, rfl, rfl, by decide +kernel, rfl, by decide +kernel, by decide +kernel⟩
theorem ok_line (T : Txt K mg) : Ok P w K mg base 1 (He.ga K "_law_line") ["_law_abc"] spLine := by
  refine fd_ok T.f_ulaw_line sc_line (fun vs H Q E h => ?_) (fun _ _ _ _ _ _ us hl => match us, hl with | [_], _ => rfl) (fun cdv A outer s H vs Q E hr h => ?_)
  · obtain ⟨t, a, b, c, rfl, _⟩ := h
    rfl
  · obtain ⟨t, a, b, c, rfl, ht, ⟨la, lb, lc⟩, q⟩ := h
    refine ⟨_, pss_one (ps_ret (pe_op op_add_str (pe_op op_add_str (pe_op op_add_str (pe_op op_add_str (pe_op op_add_str
      (pe_callTy call_str_int rfl T.z_str (by decide +kernel) (pa_cons (pe_ix ix_tup (pv 0) pe_int (by intro _ _; rfl)) pa_nil)) pe_str)
      (pe_callTy call_str_int rfl T.z_str (by decide +kernel) (pa_cons (pe_ix ix_tup (pv 0) pe_int (by intro _ _; rfl)) pa_nil))) pe_str)
      (pe_callTy call_str_int rfl T.z_str (by decide +kernel) (pa_cons (pe_ix ix_tup (pv 0) pe_int (by intro _ _; rfl)) pa_nil))) pe_str)), ?_⟩
    have ka := numS_len la
    have kb := numS_len lb
    have kc := numS_len lc
    have l1 : ("/n = " : Str).length = 5 := by decide +kernel
    have l2 : ("/x + " : Str).length = 5 := by decide +kernel
    have l3 : ("/y" : Str).length = 2 := by decide +kernel
    refine ⟨_, rfl, t, _, 0, _, rfl, rfl, SqT.of ht, rfl, _, rfl, log_small la, numS a, _, rfl, rfl, small_line (by rw [l1]; omega), ?_⟩
    refine ⟨_, rfl, t, _, 1, _, rfl, rfl, SqT.of ht, rfl, _, rfl, log_small lb, _, numS b, rfl, rfl, small_line (by rw [str_len, l1]; omega), ?_⟩
    refine ⟨_, _, rfl, rfl, small_line (by rw [str_len, str_len, l1, l2]; omega), ?_⟩
    refine ⟨_, rfl, t, _, 2, _, rfl, rfl, SqT.of ht, rfl, _, rfl, log_small lc, _, numS c, rfl, rfl, small_line (by rw [str_len, str_len, str_len, l1, l2]; omega), ?_⟩
    refine ⟨_, _, rfl, rfl, small_line (by rw [str_len, str_len, str_len, str_len, l1, l2, l3]; omega), ?_⟩
    exact q

/-! ### _law_deck -/
theorem if_own {σ : L2.St} {H : Hp} {l : Addr} {ns : List Int} {at_ : Nat} {Q : VK} (hl : SqL K H l (ns.map V.int)) (s0 : σ[0]? = some (some (.ref l))) (s1 : σ[1]? = some (some (.int at_))) (hb : ∀ i ∈ ns, Builtin.Int.intBits i ≤ 1048576)
    (h : ∀ own : Int, own.natAbs.log2 ≤ 1048576 → Q (.int own) H) : if decide ((at_ : Int) < ((ns.map V.int).length : Nat)) = true then tOp (rIxL K) (tVar 0) (tVar 1) σ H Q else tC (.int 0) σ H Q := by
  refine ite2 (fun hlt => ?_) (fun _ => h 0 (by decide))
  have hlt' := of_decide_eq_true hlt
  rw [List.length_map] at hlt'
  have hi : at_ < ns.length := by omega
  refine ⟨_, s0, _, s1, l, _, at_, .int ns[at_], rfl, rfl, hl, atI_nat ?_, h _ ?_⟩
  · rw [List.getElem?_map, List.getElem?_eq_getElem hi]
    rfl
  · have hb2 := hb _ (List.getElem_mem hi)
    unfold Builtin.Int.intBits at hb2
    split at hb2
    · rename_i z
      have : ns[at_] = 0 := by simpa using z
      rw [this]
      decide
    · omega
theorem if_abs {σ : L2.St} {H : Hp} {own : Int} {Q : VK} (s2 : σ[2]? = some (some (.int own))) (h : ∀ f : Int, 0 ≤ f → Q (.int f) H) :
    tIf (tOr (tTest (tOp (rI0 fun i j => .bl (decide (i < j))) (tVar 2) (tC (.int 0)))) (tTest (tOp (rI0 fun i j => .bl (decide (j ≤ i))) (tVar 2) (tOp (rI CPow fun i j => .int (i ^ j.toNat)) (tC (.int 10)) (tC (.int 18))))))
      (tCB (fun xs H Q => ∃ i, xs = [.int i] ∧ Q (.int (if i < 0 then -i else i)) H) (tCons (tVar 2) tNil)) (tC (.int 0)) σ H Q := by
  have yes : tCB (fun xs H Q => ∃ i, xs = [.int i] ∧ Q (.int (if i < 0 then -i else i)) H) (tCons (tVar 2) tNil) σ H Q := ⟨_, s2, _, rfl, h _ (by split <;> omega)⟩
  refine ⟨_, s2, _, _, rfl, rfl, _, rfl, ?_⟩
  refine ite2 (fun _ => iteT yes) (fun _ => ?_)
  refine ⟨_, s2, _, _, rfl, rfl, ⟨by decide, by decide, by decide⟩, _, _, rfl, rfl, _, rfl, ?_⟩
  exact ite2 (fun _ => yes) (fun _ => h 0 (by decide))
def spDeck (K : PySem.W.Frag) : Sp := fun vs H Q _ => ∃ (l : Addr) (ns : List Int) (at_ : Nat), vs = [.ref l, .int at_] ∧ SqL K H l (ns.map V.int) ∧ ns.length ≤ 1000 ∧ (∀ i ∈ ns, Builtin.Int.intBits i ≤ 1048576) ∧ at_ ≤ 1000 ∧ ∀ d H', H d = none → Deck H' d 1 → Ext H H' → Q (.ref d) H'
theorem sc_deck : FnScope ["_law_cells", "_law_at", "_law_own", "_law_mixed", "_law_k"] ["_law_cells", "_law_at"] (defScope s_ulaw_deck) := ⟨rfl, rfl, rfl, by decide +kernel, rfl, by decide +kernel, by decide +kernel⟩
theorem ok_deck (T : Txt K mg) : Ok P w K mg base 1 (He.ga K "_law_deck") ["_law_cells", "_law_at"] (spDeck K) := by
  refine fd_ok T.f_ulaw_deck sc_deck (fun vs H Q E h => ?_) (fun _ _ _ _ _ _ us hl => match us, hl with | [_, _], _ => rfl) (fun cdv A outer s H vs Q E hr h => ?_)
  · obtain ⟨l, ns, at_, rfl, _⟩ := h
    rfl
  · obtain ⟨l, ns, at_, rfl, hl, hz, hb, ha, q⟩ := h
    have nd := sc_deck.nd
    have hz' : (ns.map V.int).length = ns.length := List.length_map _
    refine ⟨_, pss_cons (ps_par (i := 2) (j := 3) rfl nd rfl rfl (by decide) rfl rfl (pa_cons (pe_ifExp (pt_cmpR op_lt (pv 1) (pe_callB call_len_seq rfl T.z_len (by decide +kernel) (pa_cons (pv 0) pa_nil)) (nomark _)) (pe_ix ix_list (pv 0) (pv 1) (by intro _ _; rfl)) pe_int)
        (pa_cons (pe_op op_add pe_int (pe_op op_mul pe_int (pv 1))) pa_nil)) (by rfl))
      (pss_cons (ps_for PassesOwn.never rfl (pi_range1 rfl T.z_range (pa_cons (pe_callB (call_min2 rfl) rfl T.z_min (by decide +kernel) (pa_cons (pe_callB call_len_seq rfl T.z_len (by decide +kernel) (pa_cons (pv 0) pa_nil)) (pa_cons pe_int pa_nil))) pa_nil)) (pg_name (i := 4) nd rfl (Or.inl rfl))
        (pss_one (ps_set (i := 3) nd rfl (Or.inl rfl) (pe_op op_mod (pe_callTy call_int1 rfl T.z_int (by decide +kernel) (pa_cons (pe_op op_add (pe_op op_add (pe_op op_mul (pe_op op_add (pv 3) (pe_ix ix_list (pv 0) (pv 4) (by intro _ _; rfl))) (pe_op op_add pe_int (pe_op op_mul pe_int (pv 4)))) (pe_op op_mul pe_int (pv 4))) pe_int) pa_nil)) pe_int))))
      (pss_one (ps_ret (pe_lst (pa_cons (pe_ifExp (PW.pt (pw_or (pt_cmpR op_lt (pv 2) pe_int (nomark _)) (pw_or1 (pt_cmpR op_ge (pv 2) (pe_op op_pow pe_int pe_int) (nomark _))))) (pe_callB call_abs rfl T.z_abs (by decide +kernel) (pa_cons (pv 2) pa_nil)) pe_int)
        (pa_cons (pe_op op_mod (pe_callTy call_int1 rfl T.z_int (by decide +kernel) (pa_cons (pe_op op_add (pv 3) (pe_op op_mul (pe_op Bk.op_mulX (pv 2) (pv 2)) pe_int)) pa_nil)) pe_int) (pa_cons pe_int pa_nil))))))), ?_⟩
    refine ⟨_, rfl, _, rfl, l, _, rfl, .inl hl, at_, _, rfl, rfl, _, rfl, ?_⟩
    refine if_own hl rfl rfl hb fun own ho => ?_
    refine ⟨_, rfl, _, _, rfl, rfl, .inl ⟨by decide, by decide⟩, _, _, rfl, rfl, _, _, rfl, ?_⟩
    refine ⟨_, rfl, l, _, rfl, .inl hl, _, _, rfl, _, rfl, ?_⟩
    rw [hz']
    refine ⟨by split <;> omega, by split <;> omega, ?_⟩
    generalize hn : (if (7 : Int) < (ns.length : Int) then (7 : Int) else (ns.length : Int)).toNat = n
    have hn2 : n ≤ ns.length ∧ n ≤ 7 := by rw [← hn]; split <;> omega
    refine for_range (fun i σ H' => H' = H ∧ ∃ m k, σ = [some (.ref l), some (.int at_), some (.int own), some (.int m), k]) ⟨rfl, _, _, rfl⟩ ?_ ?_
    · rintro i σ H' hi ⟨rfl, m, k, rfl⟩
      obtain ⟨c, hc⟩ : ∃ c : Int, ns[i]? = some c := ⟨ns[i]'(by omega), List.getElem?_eq_getElem _⟩
      have hat : atI (ns.map V.int) (0 + (i : Int)) = some (.int c) := by
        rw [Int.zero_add]
        refine atI_nat ?_
        rw [List.getElem?_map, hc]
        rfl
      refine ⟨_, rfl, _, rfl, _, rfl, l, _, _, _, rfl, rfl, hl, hat, _, _, rfl, rfl, _, rfl, _, _, rfl, rfl, .inl ⟨by decide, by decide⟩, _, _, rfl, rfl, _, _, rfl, rfl, .inr ⟨by omega, by omega⟩, ?_⟩
      refine ⟨_, rfl, _, _, rfl, rfl, .inl ⟨by decide, by decide⟩, _, _, rfl, rfl, _, _, rfl, rfl, .inl ⟨_, rfl, _, _, rfl, rfl, (show (0:Int) < 2147483543 by decide), ?_⟩⟩
      exact ⟨rfl, _, _, rfl⟩
    · rintro σ H' ⟨rfl, m, k, rfl⟩
      have sq : own.natAbs.log2 + own.natAbs.log2 < 100000000 := by omega
      refine if_abs rfl fun f hf => ?_
      refine ⟨_, rfl, _, rfl, _, rfl, _, _, rfl, rfl, sq, _, _, rfl, rfl, .inr ⟨by decide, by decide⟩, _, _, rfl, rfl, .inl ⟨_, rfl, _, _, rfl, rfl, (show (0:Int) < 2147483543 by decide), ?_⟩⟩
      refine ⟨by show 3 ≤ sizeLine; decide, fun d hd => ?_⟩
      exact q d _ hd ⟨f, _, 1, upd_same, hf, ⟨Int.emod_nonneg _ (by decide), Int.emod_lt_of_pos _ (by decide)⟩, by decide, by decide⟩ (Ext.new hd _)
end
end K62

set_option Elab.async false
set_option linter.all false
set_option maxRecDepth 100000
set_option maxHeartbeats 4000000
namespace K62
open PySem PySem.Spec PyProof.Rows L2 Bk Evl
section
variable {P : Program} {w : World} {K : PySem.W.Frag} {mg : Str → Option Value} {base : Heap}
/-! ### _law_odd -/
/-- a container -/
def cont : HO → Bool
  | .lst _ => true
  | .tup _ => true
  | .dK _ => true
  | _ => false
/-- a flat value, or a new container -/
def Odd (H G : Hp) (v : V) : Prop := (∃ n, v = .str n) ∨ v = .non ∨ (∃ b, v = .bl b) ∨ (∃ i, v = .int i) ∨ ∃ p o, v = .ref p ∧ H p = none ∧ G p = some o ∧ cont o = true
theorem Odd.ext {H G G' : Hp} {v : V} (o : Odd H G v) (k : Ext G G') : Odd H G' v := by
  rcases o with h | h | h | h | ⟨p, o, h1, h2, h3, h4⟩
  · exact .inl h
  · exact .inr (.inl h)
  · exact .inr (.inr (.inl h))
  · exact .inr (.inr (.inr (.inl h)))
  · exact .inr (.inr (.inr (.inr ⟨p, o, h1, h2, k _ _ h3, h4⟩)))
theorem odd_new {H G : Hp} {p : Addr} {o : HO} (k : Ext H G) (h : G p = none) (c : cont o = true) : Odd H (upd G p o) (.ref p) := .inr (.inr (.inr (.inr ⟨p, o, rfl, fresh_back k h, upd_same, c⟩)))
theorem Odd.kit {H G : Hp} {v : V} (o : Odd H G v) : (∃ n, v = .str n) ∨ ∃ t, TyX K G v t ∧ PySem.W.kitOne K t (.type "str") = some false := by
  rcases o with h | rfl | ⟨b, rfl⟩ | ⟨i, rfl⟩ | ⟨p, o, rfl, h2, h3, h4⟩
  · exact .inl h
  · exact .inr ⟨_, .base .non, rfl⟩
  · exact .inr ⟨_, .base (.bl b), rfl⟩
  · exact .inr ⟨_, .base (.int i), rfl⟩
  · cases o with
    | lst xs => exact .inr ⟨_, .base (.lst h3), rfl⟩
    | tup xs => exact .inr ⟨_, .base (.tup h3), rfl⟩
    | dK kvs => exact .inr ⟨_, .base (.dK h3), rfl⟩
    | _ => exact absurd h4 (by simp [cont])
def oddL (p1 p2 p4 p5 p6 p7 p8 : Addr) : List V := [.non, .bl true, .bl false, .str "", .str "x", .str "1", .int 0, .int (-1), .int (10 ^ 31), .ref p1, .ref p2, .ref p4, .ref p5, .ref p6, .ref p7, .ref p8]
def spOdd : Sp := fun vs H Q _ => ∃ (d : Addr) (n : Nat), vs = [.ref d] ∧ Deck H d n ∧ n ≤ 900000 ∧ ∀ v H', Odd H H' v → Deck H' d (n + 1) → But d H H' → Q v H'
theorem sc_odd : FnScope ["_law_deck_here", "_law_some"] ["_law_deck_here"] (defScope s_ulaw_odd) := ⟨rfl, rfl, rfl, by decide +kernel, rfl, by decide +kernel, by decide +kernel⟩
theorem ok_odd (T : Txt K mg) : Ok P w K mg base 2 (He.ga K "_law_odd") ["_law_deck_here"] spOdd := by
  obtain ⟨fd1, F1, b1, k1, _⟩ := (ok_pick (P := P) (w := w) (base := base) T).ex
  refine fd_ok T.f_ulaw_odd sc_odd (fun vs H Q E h => ?_) (fun _ _ _ _ _ _ us hl => match us, hl with | [_], _ => rfl) (fun cdv A outer s H vs Q E hr h => ?_)
  · obtain ⟨d, n, rfl, _⟩ := h
    rfl
  · obtain ⟨d, n, rfl, D0, hn, q⟩ := h
    have nd := sc_odd.nd
    refine ⟨_, pss_cons (ps_set (i := 1) nd rfl (Or.inl rfl) (pe_lst (pa_cons pe_non (pa_cons pe_bl (pa_cons pe_bl (pa_cons pe_str (pa_cons pe_str (pa_cons pe_str (pa_cons pe_int (pa_cons (pe_un un_neg pe_int) (pa_cons (pe_op op_pow pe_int pe_int)
        (pa_cons (pe_tup pa_nil) (pa_cons (pe_tup (pa_cons pe_int pa_nil)) (pa_cons (pe_tup (pa_cons (pe_tup (pa_cons pe_int (pa_cons pe_int pa_nil))) pa_nil))
        (pa_cons (pe_lst pa_nil) (pa_cons (pe_lst (pa_cons pe_int pa_nil)) (pa_cons pe_dnewK (pa_cons (pe_disp (pps_cons pe_str (pe_tup (pa_cons pe_int pa_nil)) pps_nil) rfl rfl (fun z => by cases z) (by decide)) pa_nil))))))))))))))))))
      (pss_one (ps_ret (pe_ix ix_list (pv 1) (pe_call F1 hr rfl T.g_ulaw_pick k1 b1 .nil pass0 (pa_cons (pv 0) (pa_cons (pe_callB call_len_seq rfl T.z_len (by decide +kernel) (pa_cons (pv 1) pa_nil)) pa_nil))) (by intro _ _; rfl)))), ?_⟩
    refine ⟨1, rfl, 10, 31, rfl, rfl, ⟨by decide, by decide, by decide⟩, ?_⟩
    have s0 : 0 ≤ sizeLine := by decide
    have s1 : 1 ≤ sizeLine := by decide
    have s2 : 2 ≤ sizeLine := by decide
    refine ⟨s0, fun p1 h1 => ⟨s1, fun p2 h2 => ⟨s2, fun p3 h3 => ⟨s1, fun p4 h4 => ⟨s0, fun p5 h5 => ⟨s1, fun p6 h6 => fun p7 h7 => fun p8 h8 => ⟨s1, fun p9 h9 => ?_⟩⟩⟩⟩⟩⟩⟩
    have x1 := Ext.new h1 (.tup [])
    have y2 := Ext.new h2 (.tup [.int 2])
    have y3 := Ext.new h3 (.tup [.int 2, .int 1])
    have y4 := Ext.new h4 (.tup [.ref p3])
    have y5 := Ext.new h5 (.lst [])
    have y6 := Ext.new h6 (.lst [.int 2])
    have y7 := Ext.new h7 (.dK [])
    have x2 := x1.trans y2
    have x3 := x2.trans y3
    have x4 := x3.trans y4
    have x5 := x4.trans y5
    have x6 := x5.trans y6
    have o1 := (((((((odd_new (o := .tup []) (Ext.refl H) h1 rfl).ext y2).ext y3).ext y4).ext y5).ext y6).ext y7)
    have o2 := ((((((odd_new (o := .tup [.int 2]) x1 h2 rfl).ext y3).ext y4).ext y5).ext y6).ext y7)
    have o4 := ((((odd_new (o := .tup [.ref p3]) x3 h4 rfl).ext y5).ext y6).ext y7)
    have o5 := (((odd_new (o := .lst []) x4 h5 rfl).ext y6).ext y7)
    have o6 := ((odd_new (o := .lst [.int 2]) x5 h6 rfl).ext y7)
    have o7 := (odd_new (o := .dK []) x6 h7 rfl)
    have x7 := x6.trans y7
    generalize upd (upd (upd (upd (upd (upd (upd H p1 (.tup [])) p2 (.tup [.int 2])) p3 (.tup [.int 2, .int 1])) p4 (.tup [.ref p3])) p5 (.lst [])) p6 (.lst [.int 2])) p7 (.dK []) = G at *
    have n89 : p8 ≠ p9 := fun z => by
      rw [← z] at h9
      rw [upd_same] at h9
      cases h9
    refine ⟨by rw [upd_ne n89]; exact upd_same, [(.inr "a", .ref p9)], rfl, (show 1 ≤ 15 by decide), by show 16 ≤ sizeLine; decide, fun l hl => ?_⟩
    have e8 : Ext G (upd (upd (upd G p8 (.dK [])) p9 (.tup [.int 1])) p8 (.dK (mergeK [] [(.inr "a", .ref p9)]))) := fun x o e => by
      have z8 := ne_of_none e h8
      have z9 : upd G p8 (.dK []) x = some o := by rw [upd_ne z8]; exact e
      rw [upd_ne z8, upd_ne (ne_of_none z9 h9)]
      exact z9
    have g8 : upd (upd (upd G p8 (.dK [])) p9 (.tup [.int 1])) p8 (.dK (mergeK [] [(.inr "a", .ref p9)])) p8 = some (.dK (mergeK [] [(.inr "a", .ref p9)])) := upd_same
    have h80 : H p8 = none := fresh_back x7 h8
    generalize upd (upd (upd G p8 (.dK [])) p9 (.tup [.int 1])) p8 (.dK (mergeK [] [(.inr "a", .ref p9)])) = J at *
    have e9 := Ext.new hl (.lst (oddL p1 p2 p4 p5 p6 p7 p8))
    have xl := (x7.trans e8).trans e9
    have od : ∀ v ∈ oddL p1 p2 p4 p5 p6 p7 p8, Odd H (upd J l (.lst (oddL p1 p2 p4 p5 p6 p7 p8))) v := by
      have o8 : Odd H J (.ref p8) := .inr (.inr (.inr (.inr ⟨p8, _, rfl, h80, g8, rfl⟩)))
      unfold oddL
      simp only [List.forall_mem_cons]
      refine ⟨.inr (.inl rfl), .inr (.inr (.inl ⟨_, rfl⟩)), .inr (.inr (.inl ⟨_, rfl⟩)), .inl ⟨_, rfl⟩, .inl ⟨_, rfl⟩, .inl ⟨_, rfl⟩, .inr (.inr (.inr (.inl ⟨_, rfl⟩))), .inr (.inr (.inr (.inl ⟨_, rfl⟩))), .inr (.inr (.inr (.inl ⟨_, rfl⟩))),
        (o1.ext e8).ext e9, (o2.ext e8).ext e9, (o4.ext e8).ext e9, (o5.ext e8).ext e9, (o6.ext e8).ext e9, (o7.ext e8).ext e9, o8.ext e9, fun v h => by cases h⟩
    have hll : upd J l (.lst (oddL p1 p2 p4 p5 p6 p7 p8)) l = some (.lst (oddL p1 p2 p4 p5 p6 p7 p8)) := upd_same
    have hl0 : H l = none := fresh_back (x7.trans e8) hl
    refine ⟨_, rfl, _, rfl, _, rfl, l, _, rfl, .inl (SqL.of upd_same), d, 16, n, rfl, D0.ext xl, by omega, by decide, by decide, fun k H' hk D' e' => ?_⟩
    have hlen : k < (oddL p1 p2 p4 p5 p6 p7 p8).length := hk
    have nd0 : ∀ x, H x = none → x ≠ d := fun x hx z => by
      obtain ⟨_, _, _, hd, _⟩ := D0
      rw [z, hd] at hx
      cases hx
    refine ⟨l, oddL p1 p2 p4 p5 p6 p7 p8, k, (oddL p1 p2 p4 p5 p6 p7 p8)[k], ?_, rfl, SqL.of (e' _ _ hll (nd0 l hl0)), atI_nat (List.getElem?_eq_getElem hlen), ?_⟩
    · rfl
    · refine q _ _ ?_ D' fun x o e ne => e' x o (xl x o e) ne
      rcases od (oddL p1 p2 p4 p5 p6 p7 p8)[k] (List.getElem_mem hlen) with h | h | h | h | ⟨p, o, a1, a2, a3, a4⟩
      · exact .inl h
      · exact .inr (.inl h)
      · exact .inr (.inr (.inl h))
      · exact .inr (.inr (.inr (.inl h)))
      · exact .inr (.inr (.inr (.inr ⟨p, o, a1, a2, e' _ _ a3 (nd0 p a2), a4⟩)))
end
end K62

set_option Elab.async false
set_option linter.all false
set_option maxRecDepth 100000
set_option maxHeartbeats 4000000
namespace K62
open PySem PySem.Spec PyProof.Rows L2 Bk Evl
/-! ### words of small letters -/
def Lets (x : Str) : Prop := ∀ c ∈ x.cps.toList, c ∈ letters.cps.toList
theorem lets_len : letters.cps.toList.length = 26 := by decide +kernel
theorem lets_small : ∀ c ∈ letters.cps.toList, c < 128 := by decide +kernel
theorem str_nil_len (x : Str) : x.length = x.cps.toList.length := by
  show x.cps.size = _
  simp
theorem word_of {x : Str} (h : Lets x) (h1 : 1 ≤ x.length) (h8 : x.length ≤ 8) : Word x := by
  refine ⟨⟨h1, h8⟩, ?_⟩
  have tw : ∀ l : List Nat, (∀ c ∈ l, c ∈ letters.cps.toList) → l.takeWhile letters.cps.contains = l := fun l => by
    induction l with
    | nil => intro _; rfl
    | cons c l ih =>
      intro hl
      have hc : letters.cps.contains c = true := by
        have := hl c (List.mem_cons_self ..)
        simpa using this
      rw [List.takeWhile_cons, hc, if_pos rfl, ih fun d hd => hl d (List.mem_cons_of_mem _ hd)]
  have lo : stripLo letters.cps.contains true x = x.length := by
    unfold stripLo
    rw [if_pos rfl, tw _ h, str_nil_len]
  have hi : stripHi letters.cps.contains true x x.length = x.length := by
    unfold stripHi
    rw [if_pos rfl, str_nil_len, List.drop_length]
    rfl
  unfold Txt.stripChars Txt.stripBy stripSame stripped
  rw [lo, hi]
  have z : (x.length == 0) = false := by simpa using (show x.length ≠ 0 by omega)
  rw [z, Bool.false_and, if_neg Bool.false_ne_true]
  show (⟨x.cps.extract x.length x.length⟩ : Str) = _
  have e : x.cps.extract x.length x.length = #[] := by
    apply Array.eq_empty_of_size_eq_zero
    have q : x.length = x.cps.size := rfl
    simp
    omega
  rw [e]
  rfl
theorem join_chars (cs : List Nat) : Txt.join "" (cs.map fun c => (⟨#[c]⟩ : Str)) = ⟨cs.toArray⟩ := by
  have e := SX.join_S [] (cs.map fun c => [c])
  have j : ∀ cs : List Nat, TL.joinL [] (cs.map fun c => [c]) = cs := fun cs => by
    induction cs with
    | nil => rfl
    | cons c cs ih =>
      cases cs with
      | nil => rfl
      | cons d ds =>
        show [c] ++ ([] ++ TL.joinL [] ([d] :: ds.map fun c => [c])) = _
        have ih' : TL.joinL [] ([d] :: ds.map fun c => [c]) = d :: ds := ih
        rw [ih']
        rfl
  rw [j, List.map_map] at e
  exact e
theorem lets_cut {x : Str} (h : Lets x) (k : Nat) (hk : 1 ≤ k) (hx : k ≤ x.length) : Lets (cutS x none (some (k : Int))) ∧ (cutS x none (some (k : Int))).length = k := by
  have e : cutS x none (some (k : Int)) = ⟨(x.cps.toList.take k).toArray⟩ := by
    unfold cutS
    rw [HT.sIx_none, HT.sIx_nat, Nat.min_eq_left hx]
    simp
  rw [e]
  refine ⟨fun c hc => h c (List.mem_of_mem_take (by simpa using hc)), ?_⟩
  show (x.cps.toList.take k).toArray.size = k
  have := str_nil_len x
  have q : x.length = x.cps.size := rfl
  simp
  omega
section
variable {P : Program} {w : World} {K : PySem.W.Frag} {mg : Str → Option Value} {base : Heap}
/-! ### _law_names -/
def NameOk (x : Str) : Prop := Lets x ∧ 1 ≤ x.length ∧ x.length ≤ 8
def NamesAt (H : Hp) (l : Addr) (ns : List Str) : Prop := H l = some (.lst (ns.map V.str)) ∧ (∀ x ∈ ns, NameOk x)
def spNames : Sp := fun vs H Q _ => ∃ (d : Addr) (n : Nat), vs = [.ref d] ∧ Deck H d n ∧ n ≤ 100000 ∧ ∀ l H' ns, H l = none → NamesAt H' l ns → ns ≠ [] → ns.length ≤ 4 → Deck H' d (n + 48) → But d H H' → Q (.ref l) H'
theorem sc_names : FnScope ["_law_deck_here", "_law_found", "_law_turn_here", "_law_word", "_law_k"] ["_law_deck_here"] (defScope s_ulaw_names) := ⟨rfl, rfl, rfl, by decide +kernel, rfl, by decide +kernel, by decide +kernel⟩
theorem dp_strs {K : PySem.W.Frag} (H : Hp) : ∀ ns : List Str, DpAll K H (ns.map V.str) (ns.map PyData.str)
  | [] => .nil
  | x :: ns => .cons (.str x) (dp_strs H ns)
theorem lets_ok {x : Str} (h : Lets x) : PyData.strOk x = true := by
  unfold PyData.strOk
  rw [← Array.all_toList]
  exact List.all_eq_true.mpr fun c hc => decide_eq_true (Nat.lt_trans (lets_small c (h c hc)) (by decide))
theorem shaped_strs {ns : List Str} (h : ∀ x ∈ ns, Lets x) : SeqAt.shaped (.list (ns.map .str)) = true := by
  have c : ∀ ns : List Str, (∀ x ∈ ns, Lets x) → PyData.canLayAll0 (ns.map .str) = true := fun ns => by
    induction ns with
    | nil => intro _; rfl
    | cons x ns ih =>
      intro h
      show (PyData.strOk x && PyData.canLayAll0 (ns.map .str)) = true
      rw [lets_ok (h x (List.mem_cons_self ..)), ih fun y hy => h y (List.mem_cons_of_mem _ hy)]
      rfl
  unfold SeqAt.shaped
  rw [show PyData.canLay0 (.list (ns.map .str)) = PyData.canLayAll0 (ns.map .str) from rfl, c ns h]
  have d : (PyData.list (ns.map .str)).depth ≤ 64 := by
    have e : ∀ ns : List Str, PyData.depthAll (ns.map .str) = 0 := fun ns => by
      induction ns with
      | nil => rfl
      | cons x ns ih =>
        show max 0 (PyData.depthAll (ns.map .str)) = 0
        rw [ih]
        rfl
    show PyData.depthAll (ns.map .str) + 1 ≤ 64
    rw [e]
    decide
  rw [decide_eq_true d]
  rfl
theorem ok_names (T : Txt K mg) : Ok P w K mg base 2 (He.ga K "_law_names") ["_law_deck_here"] spNames := by
  obtain ⟨fd1, F1, b1, k1, _⟩ := (ok_pick (P := P) (w := w) (base := base) T).ex
  refine fd_ok T.f_ulaw_names sc_names (fun vs H Q E h => ?_) (fun _ _ _ _ _ _ us hl => match us, hl with | [_], _ => rfl) (fun cdv A outer s H vs Q E hr h => ?_)
  · obtain ⟨d, n, rfl, _⟩ := h
    rfl
  · obtain ⟨d, n, rfl, D0, hn, q⟩ := h
    have nd := sc_names.nd
    refine ⟨_, pss_cons (ps_set (i := 1) nd rfl (Or.inl rfl) (pe_lst pa_nil))
      (pss_cons (ps_for PassesOwn.never rfl (pi_range1 rfl T.z_range (pa_cons pe_int pa_nil)) (pg_name (i := 2) nd rfl (Or.inl rfl))
        (pss_cons (ps_set (i := 3) nd rfl (Or.inl rfl) (pe_join pe_str (pe_lc (own := [("_law_k", 4)]) (g := gName 4) (tt := tYes) rfl nd (pi_range1 rfl T.z_range (pa_cons (pe_op op_add pe_int (pe_call F1 hr rfl T.g_ulaw_pick k1 b1 .nil pass0 (pa_cons (pv 0) (pa_cons pe_int pa_nil)))) pa_nil))
            (blkOk_by (own := [("_law_k", 4)]) (N := ["_law_deck_here", "_law_found", "_law_turn_here", "_law_word", "_law_k"]) (sc := defScope s_ulaw_names) (by decide +kernel))
            (fun _ _ _ _ _ => pg_name (i := 4) nd rfl (Or.inl rfl)) (fun _ _ _ _ _ => pts_nil) (fun _ _ _ _ _ => pe_ix ix_str pe_str (pe_call F1 hr rfl T.g_ulaw_pick k1 b1 .nil pass0 (pa_cons (pv 0) (pa_cons pe_int pa_nil))) (by intro _ _; rfl)))))
        (pss_cons (ps_if (PW.pt (pw_and (pt_cmpR (op_neD hr.units) (pv 1) (pe_lst pa_nil) (nomark _)) (pw_and1 (pt_cmpR op_eq (pe_call F1 hr rfl T.g_ulaw_pick k1 b1 .nil pass0 (pa_cons (pv 0) (pa_cons pe_int pa_nil))) pe_int (nomark _)))))
            (pss_one (ps_set (i := 3) nd rfl (Or.inl rfl) (pe_slice sl_str (pe_ix ix_list (pv 1) (pe_un un_neg pe_int) (by intro _ _; rfl)) po_none (po_some (pe_op op_add pe_int (pe_call F1 hr rfl T.g_ulaw_pick k1 b1 .nil pass0 (pa_cons (pv 0) (pa_cons (pe_callB call_len_str rfl T.z_len (by decide +kernel) (pa_cons (pe_ix ix_list (pv 1) (pe_un un_neg pe_int) (by intro _ _; rfl)) pa_nil)) pa_nil)))))))) pss_nil)
        (pss_one (ps_if (pt_cmpR op_notIn_seq (pv 3) (pv 1) rfl) (pss_one (ps_expr (pe_bm PySem.F.plainAttrs_list PySem.F.slot_list_append PySem.F.type_list_append mt_append (pv 1) (pa_cons (pv 3) pa_nil)))) pss_nil)))))
      (pss_one (ps_ret (pv 1)))), ?_⟩
    refine ⟨by show 0 ≤ sizeLine; decide, fun l hl => ?_⟩
    have nld : ∀ {x : Addr}, H x = none → x ≠ d := fun {x} hx z => by
      obtain ⟨_, _, _, hd, _⟩ := D0
      rw [z, hd] at hx
      cases hx
    refine ⟨4, rfl, by decide, by decide, ?_⟩
    refine for_range (fun i σ H' => ∃ ns t wd, NamesAt H' l ns ∧ (1 ≤ i → ns ≠ []) ∧ ns.length ≤ i ∧ Deck H' d (n + 12 * i) ∧ But d H H' ∧ σ = [some (.ref d), some (.ref l), t, wd, none])
      ⟨[], _, _, ⟨upd_same, fun x hx => (by cases hx)⟩, fun h => by omega, Nat.le_refl _, D0.ext (Ext.new hl _), (Ext.new hl _).but d, rfl⟩ ?_ ?_
    · rintro i σ H1 hi ⟨ns, t, wd, hns, hne, hlen, D1, e1, rfl⟩
      have hnsl : (ns.map V.str).length = ns.length := List.length_map _
      have nl : l ≠ d := nld hl
      refine ⟨⟨_, rfl⟩, _, rfl, d, 8, n + 12 * i, rfl, D1, by omega, by decide, by decide, fun k H2 hk D2 e2 => ⟨1, k, rfl, rfl, 1 + (k : Int), rfl, by omega, by omega, fun D hD => ?_⟩⟩
      have nD : D ≠ d := by
        obtain ⟨_, _, _, hd, _⟩ := D2
        exact (ne_of_none hd hD).symm
      have hl2 := e2 _ _ hns.1 nl
      refine lc_range (lo := 0) (n := (1 + (k : Int)).toNat) (fun j H' => ∃ cs : List Nat, cs.length = j ∧ (∀ c ∈ cs, c ∈ letters.cps.toList) ∧ H' D = some (.lst (cs.map fun c => V.str ⟨#[c]⟩)) ∧ Deck H' d (n + 12 * i + 1 + j) ∧ But d H2 H')
        ⟨[], rfl, fun c h => (by cases h), upd_same, D2.ext (Ext.new hD _), (Ext.new hD _).but d⟩ ?_ ?_
      · rintro j H3 hj ⟨cs, hc1, hc2, hc3, D3, e3⟩
        refine ⟨rfl, ?_⟩
        unfold tYes
        dsimp only
        rw [if_pos rfl]
        refine ⟨_, rfl, d, 26, _, rfl, D3, by omega, by decide, by decide, fun c H4 hc D4 e4 => ?_⟩
        have hc' : c < letters.cps.toList.length := by rw [lets_len]; exact hc
        refine ⟨letters, c, letters.cps.toList[c], rfl, rfl, by decide +kernel, atI_nat (List.getElem?_eq_getElem hc'), _, e4 _ _ hc3 nD, ?_, cs ++ [letters.cps.toList[c]], ?_, ?_, ?_, ?_, ?_⟩
        · rw [List.length_map, hc1]
          exact Nat.lt_of_lt_of_le (show j < 100 by omega) (by decide)
        · rw [List.length_append, hc1]
          rfl
        · intro x hx
          rcases List.mem_append.mp hx with h | h
          · exact hc2 x h
          · rw [List.mem_singleton.mp h]
            exact List.getElem_mem _
        · rw [upd_same, List.map_append]
          rfl
        · obtain ⟨f, m, t, hd, r⟩ := D4
          exact ⟨f, m, t, by rw [upd_ne nD.symm]; exact hd, r⟩
        · intro x o e ne
          rw [upd_ne (ne_of_none e hD)]
          exact e4 _ _ (e3 _ _ e ne) ne
      · rintro H3 ⟨cs, hc1, hc2, hc3, D3, e3⟩
        have hcl : cs.length = 1 + k := by omega
        have sum1 : ((cs.map fun c => (⟨#[c]⟩ : Str)).map (·.length)).sum = cs.length := by
          rw [List.map_map]
          have : ∀ cs : List Nat, (cs.map ((fun x : Str => x.length) ∘ fun c => (⟨#[c]⟩ : Str))).sum = cs.length := fun cs => by
            induction cs with
            | nil => rfl
            | cons c cs ih =>
              rw [List.map_cons, List.sum_cons, ih, List.length_cons]
              show 1 + cs.length = _
              omega
          exact this cs
        refine ⟨"", D, cs.map fun c => (⟨#[c]⟩ : Str), rfl, rfl, .inl (SqL.of (by rw [hc3, List.map_map]; rfl)), by rw [sum1, List.length_map]; show cs.length + cs.length * 0 ≤ _; omega, ?_⟩
        rw [join_chars]
        have wok : NameOk (⟨cs.toArray⟩ : Str) := by
          refine ⟨fun c h => hc2 c (by simpa using h), ?_, ?_⟩
          · show 1 ≤ cs.toArray.size
            simp
            omega
          · show cs.toArray.size ≤ 8
            simp
            omega
        generalize (⟨cs.toArray⟩ : Str) = wd1 at wok
        have hl3 := e3 _ _ hl2 nl
        have flat : (ns.map V.str).all flatV = true := List.all_eq_true.mpr fun v hv => by
          obtain ⟨x, _, rfl⟩ := List.mem_map.mp hv
          rfl
        -- found != []
        refine ⟨_, rfl, by show 0 ≤ sizeLine; decide, fun p hp => ?_⟩
        have npl : l ≠ p := ne_of_none hl3 hp
        have npd : p ≠ d := by
          obtain ⟨_, _, _, hd, _⟩ := D3
          exact (ne_of_none hd hp).symm
        refine ⟨.list (ns.map .str), .list [], .lst (SqL.of (by rw [upd_ne npl]; exact hl3)) (dp_strs _ ns), .lst (SqL.of upd_same) .nil, shaped_strs (fun x hx => (hns.2 x hx).1), by decide, _, rfl, ?_⟩
        have D4 := D3.ext (Ext.new hp (.lst []))
        have e4 : But d H (upd H3 p (.lst [])) := fun x o e ne => by
          have z := e3 _ _ (e2 _ _ (e1 _ _ e ne) ne) ne
          rw [upd_ne (ne_of_none z hp)]
          exact z
        have hl4 : upd H3 p (.lst []) l = some (.lst (ns.map V.str)) := by rw [upd_ne npl]; exact hl3
        generalize upd H3 p (.lst []) = H4 at D4 e4 hl4 ⊢
        have fin : ∀ (x : Str) (H5 : Hp) (ns' : List Str), But d H H5 → Deck H5 d (n + 12 * (i + 1)) → NameOk x → (ns' = ns ∨ ns' = ns ++ [x]) → (ns = [] → ns' ≠ []) → H5 l = some (.lst (ns'.map V.str)) → 
            ∃ ns'' t' wd', NamesAt H5 l ns'' ∧ (1 ≤ i + 1 → ns'' ≠ []) ∧ ns''.length ≤ i + 1 ∧ Deck H5 d (n + 12 * (i + 1)) ∧ But d H H5 ∧ [some (V.ref d), some (V.ref l), some (V.int (0 + (i : Int))), some (V.str x), none] = [some (V.ref d), some (V.ref l), t', wd', none] := fun x H5 ns' e5 D5 hx hor hne5 h5 => by
          refine ⟨ns', _, _, ⟨h5, fun y hy => ?_⟩, fun _ => ?_, ?_, D5, e5, rfl⟩
          · rcases hor with rfl | rfl
            · exact hns.2 y hy
            · rcases List.mem_append.mp hy with h | h
              · exact hns.2 y h
              · rw [List.mem_singleton.mp h]
                exact hx
          · rcases hor with rfl | rfl
            · intro z
              exact hne5 z z
            · simp
          · rcases hor with rfl | rfl
            · omega
            · rw [List.length_append, List.length_singleton]
              omega
        have tail : ∀ (x : Str) (H5 : Hp), NameOk x → But d H4 H5 → Deck H5 d (n + 12 * (i + 1)) →
            tIfS (tTest (tOp (rIn K true) (tVar 3) (tVar 1))) (tDrop (tBM K "list" rAppend (tVar 1) (tCons (tVar 3) tNil))) tNext
              { nx := fun σ H' => ∃ ns'' t' wd', NamesAt H' l ns'' ∧ (1 ≤ i + 1 → ns'' ≠ []) ∧ ns''.length ≤ i + 1 ∧ Deck H' d (n + 12 * (i + 1)) ∧ But d H H' ∧ σ = [some (V.ref d), some (V.ref l), t', wd', none], rt := Q, bk := fun _ _ => False, ct := fun _ _ => False }
              [some (V.ref d), some (V.ref l), some (V.int (0 + (i : Int))), some (V.str x), none] H5 := fun x H5 hx e5 D5 => by
          have h5 := e5 _ _ hl4 nl
          refine ⟨_, rfl, _, rfl, l, _, rfl, .inl (SqL.of h5), rfl, flat, _, rfl, ?_⟩
          refine ite2 (fun _ => ?_) (fun hb => ?_)
          · refine ⟨_, rfl, .inl ⟨rfl, _, SqL.of h5⟩, _, rfl, l, _, _, rfl, rfl, h5, ?_, ?_⟩
            · rw [hnsl]
              exact Nat.lt_of_lt_of_le (show ns.length < 100 by omega) (by decide)
            · refine fin x _ (ns ++ [x]) (fun y o e ne => ?_) ?_ hx (.inr rfl) (fun _ => by simp) (by rw [upd_same, List.map_append]; rfl)
              · rw [upd_ne (ne_of_none e hl)]
                exact e5 _ _ (e4 _ _ e ne) ne
              · obtain ⟨f, m, t, hd, r⟩ := D5
                exact ⟨f, m, t, by rw [upd_ne nl.symm]; exact hd, r⟩
          · refine fin x H5 ns (e4.trans e5) D5 hx (.inl rfl) (fun z => ?_) h5
            rw [z] at hb
            exact (hb rfl).elim
        refine ite2 (fun hb => ?_) (fun _ => tail wd1 H4 wok (But.refl d H4) (D4.mono (by omega)))
        have hne2 : ns ≠ [] := fun z => by
          rw [z] at hb
          cases (show (false : Bool) = true from hb)
        obtain ⟨ys, y, hys⟩ : ∃ ys y, ns = ys ++ [y] := ⟨ns.dropLast, ns.getLast hne2, (List.dropLast_concat_getLast hne2).symm⟩
        have hy : NameOk y := hns.2 y (by rw [hys]; simp)
        have hat : atI (ns.map V.str) (-1) = some (.str y) := by
          rw [hys, List.map_append]
          exact atI_last _ _
        refine ⟨_, rfl, d, 3, _, rfl, D4, by omega, by decide, by decide, fun k3 H5 hk3 D5 e5 => ⟨rfl, _, rfl, ?_⟩⟩
        refine ite2 (fun _ => ?_) (fun _ => tail wd1 H5 wok e5 (D5.mono (by omega)))
        have h5 := e5 _ _ hl4 nl
        have hy8 := hy.2
        refine ⟨_, rfl, 1, rfl, l, _, -1, .str y, rfl, rfl, SqL.of h5, hat, ?_⟩
        refine ⟨_, rfl, _, rfl, 1, rfl, l, _, -1, .str y, rfl, rfl, SqL.of h5, hat, y, rfl, small_line (by omega), d, y.length, _, rfl, D5, by omega, by omega, by omega, fun k4 H6 hk4 D6 e6 => ?_⟩
        refine ⟨1, k4, rfl, rfl, _, rfl, y, rfl, small_line (by omega), ?_⟩
        have cut := lets_cut hy.1 (k4 + 1) (by omega) (by omega)
        have ek : (1 + (k4 : Int)) = ((k4 + 1 : Nat) : Int) := by omega
        have fin2 := tail _ H6 ⟨cut.1, by rw [cut.2]; omega, by rw [cut.2]; omega⟩ (e5.trans e6) (D6.mono (by omega))
        rw [← ek] at fin2
        exact fin2
    · rintro σ H1 ⟨ns, t, wd, hns, hne, hlen, D1, e1, rfl⟩
      exact ⟨_, rfl, q l H1 ns hl hns (hne (by decide)) hlen D1 e1⟩
end
end K62

set_option Elab.async false
set_option linter.all false
set_option maxRecDepth 100000
set_option maxHeartbeats 4000000
namespace K62
open PySem PySem.Spec PyProof.Rows L2 Bk Evl
/-! ### sorted texts are determined -/
theorem rising_pw : ∀ (l : List Str) (p : Str), risingS p l = true → (p :: l).Pairwise (fun a b => a.cps.toList ≤ b.cps.toList)
  | [], p, _ => by simp
  | x :: r, p, h => by
    have h' : (!ltCps x.cps.toList p.cps.toList && risingS x r) = true := h
    rw [Bool.and_eq_true] at h'
    obtain ⟨h1, h2⟩ := h'
    have ih := rising_pw r x h2
    have le1 : p.cps.toList ≤ x.cps.toList := by
      rw [ltCps_eq] at h1
      have : ¬ x.cps.toList < p.cps.toList := by simpa using h1
      exact List.not_lt.mp this
    refine List.pairwise_cons.mpr ⟨fun y hy => ?_, ih⟩
    rcases List.mem_cons.mp hy with rfl | hy
    · exact le1
    · exact List.le_trans le1 ((List.pairwise_cons.mp ih).1 y hy)
theorem sorted_pw (l : List Str) (h : sortedS l = true) : l.Pairwise (fun a b => a.cps.toList ≤ b.cps.toList) := by
  cases l with
  | nil => exact .nil
  | cons x r => exact rising_pw r x h
theorem sorted_eq {l m : List Str} (h : l.Perm m) (h1 : sortedS l = true) (h2 : sortedS m = true) : l = m := by
  refine List.Perm.eq_of_pairwise (le := fun a b : Str => a.cps.toList ≤ b.cps.toList) (fun a b _ _ x y => ?_) (sorted_pw l h1) (sorted_pw m h2) h
  have e := List.le_antisymm x y
  rw [← SX.S_tl a, ← SX.S_tl b, e]

/-! ### a book's page and the law's -/
section
variable {K : PySem.W.Frag}
def Keys (ns : List Str) (kvs : Kvs) : Prop := (kvs.map (·.1)).Nodup ∧ ∀ kv ∈ kvs, ∃ z, kv.1 = .inr z ∧ z ∈ ns
theorem Keys.strs {ns : List Str} {kvs : Kvs} (h : Keys ns kvs) : ∃ ks : List Str, kvs.map (·.1) = ks.map Sum.inr ∧ ks.Nodup ∧ ks ⊆ ns := by
  obtain ⟨h1, h2⟩ := h
  induction kvs with
  | nil => exact ⟨[], rfl, List.nodup_nil, fun x hx => by cases hx⟩
  | cons kv kvs ih =>
    rw [List.map_cons, List.nodup_cons] at h1
    obtain ⟨ks, e1, e2, e3⟩ := ih h1.2 fun x hx => h2 x (List.mem_cons_of_mem _ hx)
    obtain ⟨z, hz1, hz2⟩ := h2 kv (List.mem_cons_self ..)
    refine ⟨z :: ks, by rw [List.map_cons, List.map_cons, e1, hz1], List.nodup_cons.mpr ⟨fun hm => h1.1 ?_, e2⟩, fun x hx => ?_⟩
    · rw [e1, hz1]
      exact List.mem_map.mpr ⟨z, hm, rfl⟩
    · rcases List.mem_cons.mp hx with rfl | hx
      · exact hz2
      · exact e3 hx
theorem Keys.len {ns : List Str} {kvs : Kvs} (h : Keys ns kvs) : kvs.length ≤ ns.length := by
  obtain ⟨ks, e1, e2, e3⟩ := h.strs
  have := e2.length_le_of_subset e3
  have e := congrArg List.length e1
  rw [List.length_map, List.length_map] at e
  omega
theorem val_mem {κ : Type} [DecidableEq κ] : ∀ (kvs : List (κ × V)) (k : κ), (valV kvs k).isSome = true ↔ k ∈ kvs.map (·.1)
  | [], k => by simp [valV]
  | p :: r, k => by
    by_cases e : p.1 = k
    · rw [valV_pos e]
      simp [e]
    · rw [valV_neg e, val_mem r k, List.map_cons, List.mem_cons]
      exact ⟨.inr, fun h => h.resolve_left fun z => e z.symm⟩
structure Page (K : PySem.W.Frag) (H : Hp) (ns : List Str) (kb kl : Kvs) : Prop where
  b : Keys ns kb
  l : Keys ns kl
  at_ : ∀ z : Str, (valV kb (.inr z) = none ∧ valV kl (.inr z) = none) ∨ ∃ (r t : Addr) (a b c : Nat), valV kb (.inr z) = some (.ref r) ∧ valV kl (.inr z) = some (.ref t) ∧ RuleAt K H r a b c ∧ H t = some (.tup [.int a, .int b, .int c]) ∧ okRule a b c
theorem Page.keep {H H' : Hp} {ns : List Str} {kb kl : Kvs} (p : Page K H ns kb kl) (k : Calm H H') : Page K H' ns kb kl := by
  refine ⟨p.b, p.l, fun z => ?_⟩
  rcases p.at_ z with h | ⟨r, t, a, b, c, h1, h2, h3, h4, h5⟩
  · exact .inl h
  · exact .inr ⟨r, t, a, b, c, h1, h2, h3.keep k, k _ _ h4 rfl, h5⟩
theorem Page.some_eq {H : Hp} {ns : List Str} {kb kl : Kvs} (p : Page K H ns kb kl) (z : Str) : (valV kb (.inr z)).isSome = (valV kl (.inr z)).isSome := by
  rcases p.at_ z with ⟨h1, h2⟩ | ⟨r, t, a, b, c, h1, h2, _⟩
  · rw [h1, h2]
  · rw [h1, h2]; rfl
/-- both have the same names -/
theorem Page.perm {H : Hp} {ns : List Str} {kb kl : Kvs} (p : Page K H ns kb kl) {ks ms : List Str} (e1 : kb.map (·.1) = ks.map Sum.inr) (e2 : kl.map (·.1) = ms.map Sum.inr) : ks.Perm ms := by
  have inj : ∀ {l : List Str}, ((l.map Sum.inr : List Key)).Nodup → l.Nodup := fun {l} h => by
    rw [List.nodup_iff_pairwise_ne] at h ⊢
    rw [List.pairwise_map] at h
    exact h.imp fun q z => q (by rw [z])
  have n1 : ks.Nodup := inj (e1 ▸ p.b.1)
  have n2 : ms.Nodup := inj (e2 ▸ p.l.1)
  refine (List.perm_ext_iff_of_nodup n1 n2).mpr fun z => ?_
  have mem : ∀ {l : List Str} {kvs : Kvs}, kvs.map (·.1) = l.map Sum.inr → (z ∈ l ↔ (valV kvs (.inr z)).isSome = true) := fun {l kvs} e => by
    rw [val_mem, e]
    refine ⟨fun h => List.mem_map.mpr ⟨z, h, rfl⟩, fun h => ?_⟩
    obtain ⟨y, hy, e⟩ := List.mem_map.mp h
    injection e with e
    exact e ▸ hy
  rw [mem e1, mem e2, p.some_eq z]
/-- what repr is asked of -/
def told (ys : List Str) (n m : Nat) : PyData := .list [.tuple (ys.map .str), .tuple [], .int n, .int m, .bool true]
theorem weight_strs : ∀ {ys : List Str}, (∀ x ∈ ys, x.length ≤ 8) → PyData.weightAll (ys.map .str) ≤ 9 * ys.length
  | [], _ => Nat.le_refl _
  | x :: ys, h => by
    have h1 := h x (List.mem_cons_self ..)
    have h2 := weight_strs fun y hy => h y (List.mem_cons_of_mem _ hy)
    show x.cps.size + 1 + PyData.weightAll (ys.map .str) ≤ _
    have e : x.length = x.cps.size := rfl
    rw [List.length_cons]
    omega
theorem canlay_strs : ∀ {ys : List Str}, (∀ x ∈ ys, Lets x) → PyData.canLayAll0 (ys.map .str) = true
  | [], _ => rfl
  | x :: ys, h => by
    show (PyData.strOk x && PyData.canLayAll0 (ys.map .str)) = true
    rw [lets_ok (h x (List.mem_cons_self ..)), canlay_strs fun y hy => h y (List.mem_cons_of_mem _ hy)]
    rfl
theorem short_strs (B : Nat) : ∀ ys : List Str, PyData.intsShortAll B (ys.map .str) = true
  | [] => rfl
  | x :: ys => by
    show (PyData.intsShort B (.str x) && PyData.intsShortAll B (ys.map .str)) = true
    rw [short_strs B ys]
    rfl
theorem show_strs : ∀ ys : List Str, PyData.showableAll (ys.map .str) = true
  | [] => rfl
  | x :: ys => by
    show (PyData.showable (.str x) && PyData.showableAll (ys.map .str)) = true
    rw [show_strs ys]
    rfl
theorem depth_strs : ∀ ys : List Str, PyData.depthAll (ys.map .str) = 0
  | [] => rfl
  | x :: ys => by
    show max 0 (PyData.depthAll (ys.map .str)) = 0
    rw [depth_strs ys]
    rfl
theorem nodict_strs : ∀ ys : List Str, PyData.hasDictAll (ys.map .str) = false
  | [] => rfl
  | x :: ys => by
    show (PyData.hasDict (.str x) || PyData.hasDictAll (ys.map .str)) = false
    rw [nodict_strs ys]
    rfl
theorem told_ok {ys : List Str} {n m : Nat} (h : ∀ x ∈ ys, NameOk x) (hl : ys.length ≤ 4) (hn : n ≤ 1000) (hm : m ≤ 1000) :
    (told ys n m).showable = true ∧ (told ys n m).hasDict = false ∧ (told ys n m).depth ≤ 60 ∧ (told ys n m).shown.length ≤ sizeLine := by
  have log : ∀ k : Nat, k ≤ 1000 → ((k : Int)).natAbs.log2 < 1920 := fun k hk => by
    have : k.log2 ≤ k := Nat.log2_le_self k
    show k.log2 < 1920
    omega
  refine ⟨?_, ?_, ?_, PyData.shown_fits (B := 13) (by decide) (by decide) (PyData.leavesShort_of_canLay0 13 _ ?_ ?_) ?_⟩
  · show (PyData.showableAll (ys.map .str) && (PyData.showableAll [] && (PyData.showable (.int n) && (PyData.showable (.int m) && (PyData.showable (.bool true) && true))))) = true
    rw [show_strs]
    show (true && (true && (decide (((n : Int)).natAbs.log2 < 1920) && (decide (((m : Int)).natAbs.log2 < 1920) && (true && true))))) = true
    rw [decide_eq_true (log n hn), decide_eq_true (log m hm)]
    rfl
  · show (PyData.hasDictAll (ys.map .str) || (false || (false || (false || (false || false))))) = false
    rw [nodict_strs]
    rfl
  · show max (PyData.depthAll (ys.map .str) + 1) (max (0 + 1) (max 0 (max 0 (max 0 0)))) + 1 ≤ 60
    rw [depth_strs]
    decide
  · show (PyData.canLayAll0 (ys.map .str) && (true && (true && (true && (true && true))))) = true
    rw [canlay_strs fun x hx => (h x hx).1]
    rfl
  · show (PyData.intsShortAll 13 (ys.map .str) && (true && (decide ((PyData.shown (.int n)).length ≤ 13) && (decide ((PyData.shown (.int m)).length ≤ 13) && (true && true))))) = true
    rw [short_strs, decide_eq_true (PyData.shown_int_le (by omega)), decide_eq_true (PyData.shown_int_le (by omega))]
    rfl
  · have hw := weight_strs fun x hx => (h x hx).2.2
    have wi : ∀ k : Nat, k ≤ 1000 → PyData.weight (.int k) ≤ 1001 := fun k hk => by
      show (if ((k : Int)) == 0 then 0 else ((k : Int)).natAbs.log2 + 1) ≤ 1001
      have : k.log2 ≤ k := Nat.log2_le_self k
      split
      · omega
      · show k.log2 + 1 ≤ 1001
        omega
    have w1 := wi n hn
    have w2 := wi m hm
    show (PyData.weightAll (ys.map .str) + 1 + (0 + 1 + (PyData.weight (.int n) + 1 + (PyData.weight (.int m) + 1 + (0 + 1 + 0))))) ≤ 2 ^ 20
    have e : (2 : Nat) ^ 20 = 1048576 := by decide
    omega
end
end K62

set_option Elab.async false
set_option linter.all false
set_option maxRecDepth 100000
set_option maxHeartbeats 4000000
namespace K62
open PySem PySem.Spec PyProof.Rows L2 Bk Evl
section
variable {P : Program} {w : World} {K : PySem.W.Frag} {mg : Str → Option Value} {base : Heap}
/-! ### _law_shows -/
def PagesAt (H : Hp) (l : Addr) (kls : List Kvs) : Prop := ∃ ds : List Addr, H l = some (.lst (ds.map V.ref)) ∧ Paired (fun d kl => H d = some (.dK kl)) ds kls
theorem paired_snoc {α β : Type} {F : α → β → Prop} : ∀ {xs : List α} {ys : List β} {y : β}, Paired F xs (ys ++ [y]) → ∃ xs' x, xs = xs' ++ [x] ∧ Paired F xs' ys ∧ F x y
  | _, [], y, h => by
    cases h with
    | cons a t => cases t; exact ⟨[], _, rfl, .nil, a⟩
  | _, z :: ys, y, h => by
    cases h with
    | cons a t =>
      obtain ⟨xs', x, rfl, h1, h2⟩ := paired_snoc t
      exact ⟨_ :: xs', x, rfl, .cons a h1, h2⟩
theorem PagesAt.ext {H H' : Hp} {l : Addr} {kls : List Kvs} (p : PagesAt H l kls) (k : Ext H H') : PagesAt H' l kls := by
  obtain ⟨ds, h1, h2⟩ := p
  exact ⟨ds, k _ _ h1, L2.Paired.mapP h2 fun _ _ z => k _ _ z⟩
def spShows (K : PySem.W.Frag) : Sp := fun vs H Q _ => ∃ (b l nl : Addr) (ns : List Str) (kb kl : Kvs) (obs old : List Kvs), vs = [.ref b, .ref l, .ref nl] ∧ BookAt K H b (kb :: obs) ∧ PagesAt H l (old ++ [kl]) ∧ old.length = obs.length ∧ obs.length ≤ 900 ∧
  Page K H ns kb kl ∧ NamesAt H nl ns ∧ ns.length ≤ 4 ∧ ∀ H', Ext H H' → Q (.bl true) H'
theorem sc_shows : FnScope ["_law_book", "_law_pages", "_law_names_here", "_law_shelf", "_law_told", "_law_title"] ["_law_book", "_law_pages", "_law_names_here"] (defScope s_ulaw_shows) := ⟨rfl, rfl, rfl, by decide +kernel, rfl, by decide +kernel, by decide +kernel⟩
theorem ok_shows (T : Txt K mg) : OkG P w K mg base 5 (He.ga K "_law_shows") ["_law_book", "_law_pages", "_law_names_here"] (spShows K) := by
  obtain ⟨fd1, F1, b1⟩ := ok_Book_titles (P := P) (w := w) (base := base) T
  obtain ⟨fd2, F2, b2⟩ := ok_Book_claims (P := P) (w := w) (base := base) T
  obtain ⟨fd3, F3, b3⟩ := ok_Book_changes (P := P) (w := w) (base := base) T
  obtain ⟨fd4, F4, b4, k4, _⟩ := (ok_line (P := P) (w := w) (base := base) T).ex
  refine fd_okG T.f_ulaw_shows sc_shows (fun vs H Q h => ?_) (fun _ _ _ _ _ _ us hl => match us, hl with | [_, _, _], _ => rfl) (fun cdv A outer s H vs Q hr hG h => ?_)
  · obtain ⟨b, l, nl, ns, kb, kl, obs, old, rfl, _⟩ := h
    rfl
  · obtain ⟨b, l, nl, ns, kb, kl, obs, old, rfl, B, Pg, hol, hob, pg, hns, hn4, q⟩ := h
    have nd := sc_shows.nd
    have hr1 : Room 1 _ := hr.mono (by decide)
    have hr2 : Room 2 _ := hr.mono (by decide)
    have hr3 : Room 3 _ := hr.mono (by decide)
    refine ⟨_, pss_cons (ps_set (i := 3) nd rfl (Or.inl rfl) (pe_ix ix_list (pv 1) (pe_un un_neg pe_int) (by intro _ _; rfl)))
      (pss_cons (ps_set (i := 4) nd rfl (Or.inl rfl) (pe_lst (pa_cons (pe_prop (pv 0) T.c_Book T.p_Book_titles.p F1 hr2 b1 .nil pass0 rfl) (pa_cons (pe_prop (pv 0) T.c_Book T.p_Book_claims.p F2 hr2 b2 .nil pass0 rfl)
        (pa_cons (pe_prop (pv 0) T.c_Book T.p_Book_changes.p F3 hr2 b3 .nil pass0 rfl) (pa_cons (pe_callB (call_lenO T.m_Book_uulen__ (ok_Book_len T) hr2) rfl T.z_len (by decide +kernel) (pa_cons (pv 0) pa_nil))
        (pa_cons (pe_callTy (call_boolO T.m_Book_uubool__ (ok_Book_bool T) hr3) rfl T.z_bool (by decide +kernel) (pa_cons (pv 0) pa_nil)) pa_nil)))))))
      (pss_cons (ps_if (pt_cmpR op_ne (pe_callB (call_repr hr hG) rfl T.z_repr (by decide +kernel) (pa_cons (pv 4) pa_nil))
          (pe_callB (call_repr hr hG) rfl T.z_repr (by decide +kernel) (pa_cons (pe_lst (pa_cons (pe_tupleOf rfl T.z_tuple (pe_callB (call_sortedD rfl) rfl T.z_sorted (by decide +kernel) (pa_cons (pv 3) pa_nil)))
            (pa_cons (pe_tup pa_nil) (pa_cons (pe_op op_sub (pe_callB call_len_seq rfl T.z_len (by decide +kernel) (pa_cons (pv 1) pa_nil)) pe_int) (pa_cons (pe_callB call_lenD rfl T.z_len (by decide +kernel) (pa_cons (pv 3) pa_nil)) (pa_cons pe_bl pa_nil)))))) pa_nil)) (nomark _))
          (pss_one ps_never) pss_nil)
      (pss_cons (ps_for PassesOwn.never rfl (pi_list (pv 2)) (pg_name (i := 5) nd rfl (Or.inl rfl))
        (pss_cons (ps_if (pt_cmpR op_ne (pe_cmpR (op_inO T.m_Book_uucontains__ (ok_Book_has T) hr1) (pv 5) (pv 0) rfl) (pe_cmp (pc_din (ru hr) (pv 5) (pv 3))) (nomark _)) (pss_one ps_never) pss_nil)
        (pss_one (ps_if (PW.pt (pw_and (pt_cmp (pc_din (ru hr) (pv 5) (pv 3))) (pw_and1 (PW.pt (pw_or
            (pt_not (pt_val (pe_callB call_isi rfl T.z_isinstance (by decide +kernel) (pa_cons (pe_ixO T.m_Book_uugetitem__ (ok_Book_get T) hr (pv 0) (pv 5) (by intro _ _; rfl)) (pa_cons (pe_glob (v := .ref (CR K)) rfl T.g_Rule rfl) pa_nil)))))
            (pw_or1 (pt_cmpR op_ne (pe_callTy (call_strO T.m_Rule_uustr__ (ok_Rule_str T) hr3) rfl T.z_str (by decide +kernel) (pa_cons (pe_ixO T.m_Book_uugetitem__ (ok_Book_get T) hr (pv 0) (pv 5) (by intro _ _; rfl)) pa_nil))
              (pe_call F4 hr1 rfl T.g_ulaw_line k4 b4 .nil pass0 (pa_cons (pe_dget (ru hr) (pv 3) (pv 5) (by intro _ _; rfl)) pa_nil)) (nomark _))))))))
          (pss_one ps_never) pss_nil))))
      (pss_one (ps_ret pe_bl))))), ?_⟩
    obtain ⟨dx, lf0, h1, L⟩ := id B.ex
    obtain ⟨ds0, hl, hp⟩ := id Pg
    obtain ⟨ds, d, rfl, hp1, hd⟩ := paired_snoc hp
    have hat : atI ((ds ++ [d]).map V.ref) (-1) = some (.ref d) := by
      rw [List.map_append]
      exact atI_last _ _
    have hlen : ((ds ++ [d]).map V.ref).length = obs.length + 1 := by
      rw [List.length_map, hp.length, List.length_append, List.length_singleton, hol]
    obtain ⟨ks, eks, _, sks⟩ := pg.b.strs
    obtain ⟨ms, ems, _, sms⟩ := pg.l.strs
    have perm := pg.perm eks ems
    have lkb := pg.b.len
    have lkl := pg.l.len
    have lks : ks.length = kb.length := by have := congrArg List.length eks; rw [List.length_map, List.length_map] at this; exact this.symm
    have lms : ms.length = kl.length := by have := congrArg List.length ems; rw [List.length_map, List.length_map] at this; exact this.symm
    have lbl : kl.length = kb.length := by rw [← lks, ← lms, perm.length_eq]
    -- the page, what the book tells
    refine ⟨_, rfl, 1, rfl, l, _, -1, .ref d, rfl, rfl, SqL.of hl, hat, ?_⟩
    refine ⟨_, rfl, b, dx, _, rfl, h1, b, kb, obs, ks, rfl, B, eks, by omega, fun ys t H1 hperm hs ht e1 => ?_⟩
    refine ⟨_, rfl, b, dx, _, rfl, e1 _ _ h1, b, _, rfl, B.ext e1, fun t2 ht2 => ?_⟩
    refine ⟨_, rfl, b, dx, _, rfl, e1 _ _ h1, b, kb, obs, rfl, B.ext e1, ?_⟩
    refine ⟨_, rfl, b, dx, _, rfl, e1 _ _ h1, b, kb, obs, rfl, B.ext e1, kb.length, rfl, ⟨by omega, by omega⟩, ?_⟩
    refine ⟨_, rfl, b, dx, _, rfl, e1 _ _ h1, _, rfl, true, rfl, ?_⟩
    refine ⟨by show 5 ≤ sizeLine; decide, fun tl htl => ?_⟩
    have e2 : Ext H1 (upd H1 tl (.lst [.ref t, .ref t2, .int obs.length, .int kb.length, .bl true])) := Ext.new htl _
    have htl2 : upd H1 tl (.lst [.ref t, .ref t2, .int obs.length, .int kb.length, .bl true]) tl = some (.lst [.ref t, .ref t2, .int obs.length, .int kb.length, .bl true]) := upd_same
    generalize upd H1 tl (.lst [.ref t, .ref t2, .int obs.length, .int kb.length, .bl true]) = H2 at e2 htl2 ⊢
    have ey : ∀ x ∈ ys, NameOk x := fun x hx => hns.2 x (sks (hperm.subset hx))
    have ly : ys.length ≤ 4 := by rw [hperm.length_eq]; omega
    obtain ⟨t1, t2', t3_, t4⟩ := told_ok (n := obs.length) (m := kb.length) ey ly (by omega) (by omega)
    have dp1 : Dp K H2 (.ref tl) (told ys obs.length kb.length) := .lst (SqL.of htl2) (.cons (.tup (SqT.of (e2 _ _ ht)) (dp_strs _ ys)) (.cons (.tup (SqT.of (e2 _ _ ht2)) .nil) (.cons (.int _) (.cons (.int _) (.cons (.bl _) .nil)))))
    refine ⟨_, rfl, tl, told ys obs.length kb.length, rfl, dp1, t1, t2', t3_, t4, ?_⟩
    have e12 := e1.trans e2
    refine ⟨_, rfl, d, kl, ms, rfl, .inl (e12 _ _ hd), ems, by omega, fun zs p hperm2 hs2 h0 => .inl ⟨p, _, rfl, SqL.of upd_same, fun t3 ht3 => ?_⟩⟩
    have eyz : zs = ys := sorted_eq ((hperm2.trans perm.symm).trans hperm.symm) hs2 hs
    subst eyz
    have e3 := (Ext.new h0 (.lst (zs.map V.str))).trans (Ext.new ht3 (.tup (zs.map V.str)))
    have ht3' : upd (upd H2 p (.lst (zs.map V.str))) t3 (.tup (zs.map V.str)) t3 = some (.tup (zs.map V.str)) := upd_same
    generalize upd (upd H2 p (.lst (zs.map V.str))) t3 (.tup (zs.map V.str)) = H3 at e3 ht3' ⊢
    refine ⟨by show 0 ≤ sizeLine; decide, fun t5 ht5 => ?_⟩
    have e4 := Ext.new ht5 (.tup [])
    have ht5' : upd H3 t5 (.tup []) t5 = some (.tup []) := upd_same
    generalize upd H3 t5 (.tup []) = H4 at e4 ht5' ⊢
    have e14 := (e12.trans e3).trans e4
    refine ⟨_, rfl, l, _, rfl, .inl (SqL.of (e14 _ _ hl)), _, _, rfl, rfl, _, rfl, d, kl, rfl, e14 _ _ hd, by show 5 ≤ sizeLine; decide, fun tm htm => ?_⟩
    have ei : (((ds ++ [d]).map V.ref).length : Int) - 1 = ((obs.length : Nat) : Int) := by rw [hlen]; omega
    have e5 := Ext.new htm (.lst [.ref t3, .ref t5, .int ((((ds ++ [d]).map V.ref).length : Int) - 1), .int kl.length, .bl true])
    have htm' : upd H4 tm (.lst [.ref t3, .ref t5, .int ((((ds ++ [d]).map V.ref).length : Int) - 1), .int kl.length, .bl true]) tm = some (.lst [.ref t3, .ref t5, .int ((((ds ++ [d]).map V.ref).length : Int) - 1), .int kl.length, .bl true]) := upd_same
    rw [ei, lbl] at htm'
    have dp2 : Dp K (upd H4 tm (.lst [.ref t3, .ref t5, .int ((((ds ++ [d]).map V.ref).length : Int) - 1), .int kl.length, .bl true])) (.ref tm) (told zs obs.length kb.length) := by
      rw [ei, lbl]
      exact .lst (SqL.of upd_same) (.cons (.tup (SqT.of ((e4.trans (Ext.new htm _)) _ _ ht3')) (dp_strs _ zs)) (.cons (.tup (SqT.of ((Ext.new htm _) _ _ ht5')) .nil) (.cons (.int _) (.cons (.int _) (.cons (.bl _) .nil)))))
    refine ⟨tm, told zs obs.length kb.length, rfl, dp2, t1, t2', t3_, t4, rfl, _, rfl, ?_⟩
    rw [show (!decide (V.str (told zs obs.length kb.length).shown = V.str (told zs obs.length kb.length).shown)) = false by rw [decide_eq_true rfl]; rfl]
    refine iteF ?_
    have e15 := e14.trans e5
    generalize upd H4 tm (.lst [.ref t3, .ref t5, .int ((((ds ++ [d]).map V.ref).length : Int) - 1), .int kl.length, .bl true]) = H5 at e15 ⊢
    have B5 := B.ext e15
    have h15 := e15 _ _ h1
    have d5 := e15 _ _ hd
    have p5 := pg.keep (Ext.calm e15)
    have n5 := e15 _ _ hns.1
    have nel : (ns.map V.str).length = ns.length := List.length_map _
    refine ⟨_, rfl, nl, rfl, ⟨_, SqL.of n5⟩, ?_⟩
    refine for_list (xs := ns.map V.str) (fun i σ H' => H' = H5 ∧ ∃ v, σ = [some (.ref b), some (.ref l), some (.ref nl), some (.ref d), some (.ref tl), v]) ⟨rfl, _, rfl⟩ ?_ ?_ ?_
    · rintro i σ H' _ ⟨rfl, _⟩
      exact SqL.of n5
    · rintro i x σ H' hx ⟨rfl, v, rfl⟩
      obtain ⟨z, hz, rfl⟩ : ∃ z ∈ ns, x = .str z := by
        have hm := List.mem_of_getElem? hx
        obtain ⟨z, hz, e⟩ := List.mem_map.mp hm
        exact ⟨z, hz, e.symm⟩
      have dg : ∀ o, valV kl (.inr z) = o → DGet H' d (.str z) o := fun o e => by
        rw [← e]
        exact DGet.k (k := .inr z) d5
      have again : H' = H' ∧ ∃ v, [some (V.ref b), some (V.ref l), some (V.ref nl), some (V.ref d), some (V.ref tl), some (V.str z)] = [some (V.ref b), some (V.ref l), some (V.ref nl), some (V.ref d), some (V.ref tl), v] := ⟨rfl, _, rfl⟩
      refine ⟨_, rfl, _, rfl, b, dx, _, rfl, h15, b, .str z, kb, obs, rfl, B5, .inl ⟨z, rfl, _, rfl, ?_⟩⟩
      refine ⟨_, rfl, _, rfl, d, _, rfl, dg _ rfl, rfl, _, rfl, ?_⟩
      rw [show (!decide (V.bl ((valV kb (.inr z)).isSome != false) = V.bl (valV kl (.inr z)).isSome)) = false by
        rw [p5.some_eq z]
        cases (valV kl (.inr z)).isSome <;> rfl]
      refine iteF ?_
      refine ⟨_, rfl, _, rfl, d, _, rfl, dg _ rfl, _, rfl, ?_⟩
      rcases p5.at_ z with ⟨v1, v2⟩ | ⟨r, t, a, b2, c, v1, v2, ra, rt, ro⟩
      · rw [v2]
        exact iteF (iteF again)
      · rw [v2]
        refine iteT ?_
        obtain ⟨dxr, m, r1, r2⟩ := ra.ex
        have lok : a ≤ 12 ∧ b2 ≤ 12 ∧ c ≤ 12 := by
          obtain ⟨⟨_, q1⟩, q2, q3⟩ := ro
          unfold shareB at q2 q3
          simp only [Bool.and_eq_true, decide_eq_true_eq] at q2 q3
          omega
        refine ⟨_, rfl, _, rfl, b, dx, _, rfl, h15, b, z, .ref r, kb, obs, rfl, B5, v1, ?_⟩
        refine ⟨_, _, _, _, true, rfl, .own _, .base (T.ty_Rule r1), kit_self _, true, rfl, ?_⟩
        refine iteF ?_
        refine ⟨_, rfl, _, rfl, b, dx, _, rfl, h15, b, z, .ref r, kb, obs, rfl, B5, v1, ?_⟩
        refine ⟨r, dxr, _, rfl, r1, r, a, b2, c, rfl, ra, lok, _, rfl, ?_⟩
        refine ⟨_, rfl, _, rfl, d, .ref t, rfl, dg _ v2, t, a, b2, c, rfl, rt, lok, rfl, _, rfl, ?_⟩
        rw [show (!decide (V.str (ruleText a b2 c) = V.str (ruleText a b2 c))) = false by rw [decide_eq_true rfl]; rfl]
        exact iteF again
    · rintro σ H' ⟨rfl, v, rfl⟩
      exact q H' e15
end
end K62

set_option Elab.async false
set_option linter.all false
set_option maxRecDepth 100000
set_option maxHeartbeats 4000000
namespace K62
open PySem PySem.Spec PyProof.Rows L2 Bk Evl
section
variable {K : PySem.W.Frag}
theorem valV_drop {κ : Type} [DecidableEq κ] (k j : κ) : ∀ kvs : List (κ × V), valV (dropK kvs k) j = if j = k then none else valV kvs j
  | [] => by
    show none = _
    split <;> rfl
  | p :: r => by
    have ih := valV_drop k j r
    unfold dropK at ih ⊢
    rw [List.filter_cons]
    by_cases e : p.1 = k
    · rw [if_neg (by simp [e]), ih]
      by_cases h : j = k
      · rw [if_pos h, if_pos h]
      · rw [if_neg h, if_neg h, valV_neg (fun z => h (z.symm.trans e))]
    · rw [if_pos (by simp [e])]
      by_cases h : p.1 = j
      · rw [valV_pos h, valV_pos h, if_neg (fun z => e (h.trans z))]
      · rw [valV_neg h, valV_neg h, ih]
theorem Keys.drop {ns : List Str} {kvs : Kvs} (h : Keys ns kvs) (k : Key) : Keys ns (dropK kvs k) := by
  refine ⟨?_, fun kv hkv => h.2 kv (List.mem_filter.mp hkv).1⟩
  exact h.1.sublist (List.filter_sublist.map _)
theorem keys_snoc {ns : List Str} {kvs : Kvs} {z : Str} {v : V} (h : Keys ns kvs) (hz : z ∈ ns) (hv : valV kvs (.inr z) = none) : Keys ns (kvs ++ [(.inr z, v)]) := by
  refine ⟨?_, fun kv hkv => ?_⟩
  · rw [List.map_append, List.nodup_append]
    refine ⟨h.1, by simp, fun a ha b hb => ?_⟩
    intro e
    have hb' : b = .inr z := by simpa using hb
    rw [e, hb'] at ha
    have := (val_mem kvs (.inr z)).mpr ha
    rw [hv] at this
    cases this
  · rcases List.mem_append.mp hkv with hk | hk
    · exact h.2 kv hk
    · exact ⟨z, by rw [List.mem_singleton.mp hk], hz⟩
theorem Keys.put {ns : List Str} {kvs : Kvs} {z : Str} {v : V} (h : Keys ns kvs) (hz : z ∈ ns) : Keys ns (putK kvs (.inr z) v) := by
  cases e : valV kvs (.inr z) with
  | none =>
    rw [putK_new v e]
    exact keys_snoc h hz e
  | some y =>
    unfold putK
    rw [valV_any, e]
    rw [if_pos (by rfl)]
    have em : (kvs.map fun kv => if kv.1 = .inr z then (kv.1, v) else kv).map (·.1) = kvs.map (·.1) := by
      rw [List.map_map]
      refine List.map_congr_left fun kv _ => ?_
      show (if kv.1 = .inr z then (kv.1, v) else kv).1 = kv.1
      split <;> rfl
    refine ⟨by rw [em]; exact h.1, fun kv hkv => ?_⟩
    obtain ⟨kv0, h0, rfl⟩ := List.mem_map.mp hkv
    obtain ⟨y, hy1, hy2⟩ := h.2 kv0 h0
    refine ⟨y, ?_, hy2⟩
    rw [← hy1]
    split <;> rfl
theorem Page.set {H : Hp} {ns : List Str} {kb kl : Kvs} {z : Str} {r t : Addr} {a b c : Nat} (p : Page K H ns kb kl) (hz : z ∈ ns) (hr : RuleAt K H r a b c) (ht : H t = some (.tup [.int a, .int b, .int c])) (ho : okRule a b c) :
    Page K H ns (putK kb (.inr z) (.ref r)) (dropK kl (.inr z) ++ [(.inr z, .ref t)]) := by
  have hd : valV (dropK kl (.inr z)) (.inr z) = none := by rw [valV_drop, if_pos rfl]
  refine ⟨p.b.put hz, keys_snoc (p.l.drop _) hz hd, fun y => ?_⟩
  rw [valV_put, valV_snoc _ _ _ _ hd, valV_drop]
  by_cases e : (Sum.inr y : Key) = .inr z
  · rw [if_pos e, if_pos e]
    exact .inr ⟨r, t, a, b, c, rfl, rfl, hr, ht, ho⟩
  · rw [if_neg e, if_neg e, if_neg e]
    exact p.at_ y
theorem Page.del {H : Hp} {ns : List Str} {kb kl : Kvs} (p : Page K H ns kb kl) (z : Str) : Page K H ns (dropK kb (.inr z)) (dropK kl (.inr z)) := by
  refine ⟨p.b.drop _, p.l.drop _, fun y => ?_⟩
  rw [valV_drop, valV_drop]
  by_cases e : (Sum.inr y : Key) = .inr z
  · rw [if_pos e, if_pos e]
    exact .inl ⟨rfl, rfl⟩
  · rw [if_neg e, if_neg e]
    exact p.at_ y
/-- a book and the law's list of pages -/
structure Duo (K : PySem.W.Frag) (H : Hp) (ns : List Str) (b l : Addr) (pp : List (Kvs × Kvs)) : Prop where
  book : BookAt K H b (pp.map (·.1))
  pages : PagesAt H l ((pp.map (·.2)).reverse)
  ok : ∀ p ∈ pp, Page K H ns p.1 p.2
  ne : pp ≠ []
theorem PagesAt.keep {H H' : Hp} {l : Addr} {kls : List Kvs} (p : PagesAt H l kls) (c : Calm H H') (hl : ∀ o, H l = some o → H' l = some o) : PagesAt H' l kls := by
  obtain ⟨ds, h1, h2⟩ := p
  exact ⟨ds, hl _ h1, L2.Paired.mapP h2 fun _ _ z => c _ _ z rfl⟩
theorem BookAt.keep {H H' : Hp} {b : Addr} {ps : List Kvs} (B : BookAt K H b ps) (c : Calm H H') (hb : ∀ o, H b = some o → H' b = some o) : BookAt K H' b ps := by
  obtain ⟨dx, l, h, L⟩ := B.ex
  exact ⟨dx, l, hb _ h, L.keep c⟩
theorem Duo.keep {H H' : Hp} {ns : List Str} {b l : Addr} {pp : List (Kvs × Kvs)} (D : Duo K H ns b l pp) (c : Calm H H') (hb : ∀ o, H b = some o → H' b = some o) (hl : ∀ o, H l = some o → H' l = some o) : Duo K H' ns b l pp :=
  ⟨D.book.keep c hb, D.pages.keep c hl, fun p hp => (D.ok p hp).keep c, D.ne⟩
theorem Duo.ext {H H' : Hp} {ns : List Str} {b l : Addr} {pp : List (Kvs × Kvs)} (D : Duo K H ns b l pp) (k : Ext H H') : Duo K H' ns b l pp := D.keep (Ext.calm k) (fun o e => k _ o e) (fun o e => k _ o e)
theorem deck_calm {H H' : Hp} {d : Addr} {n : Nat} (D : Deck H d n) (k : But d H H') : Calm H H' := fun x o e c => k x o e (deck_ne D e c)
theorem Duo.draw {H H' : Hp} {ns : List Str} {b l d : Addr} {n : Nat} {pp : List (Kvs × Kvs)} (D : Duo K H ns b l pp) (E : Deck H d n) (k : But d H H') (hl : l ≠ d) : Duo K H' ns b l pp := by
  refine D.keep (deck_calm E k) (fun o e => k _ o e ?_) (fun o e => k _ o e hl)
  obtain ⟨dx, lf0, h, _⟩ := D.book.ex
  obtain ⟨_, _, _, hd, _⟩ := E
  exact ne_of h hd (by intro z; cases z)
end
end K62

set_option Elab.async false
set_option linter.all false
set_option maxRecDepth 100000
set_option maxHeartbeats 4000000
namespace K62
open PySem PySem.Spec PyProof.Rows L2 Bk Evl
section
variable {P : Program} {w : World} {K : PySem.W.Frag} {mg : Str → Option Value} {base : Heap}
theorem if_and_f {t1 t2 : TT} {A B : TS} {D : Ends} {σ : L2.St} {H : Hp} (c : Bool) (h1 : ∀ Q : Bool → Hp → Prop, Q c H → t1 σ H Q) (h2 : c = true → ∀ Q : Bool → Hp → Prop, Q false H → t2 σ H Q) (h : B D σ H) : tIfS (tAnd t1 t2) A B D σ H := by
  refine h1 _ ?_
  cases c with
  | false => exact iteF (iteF h)
  | true => exact iteT (h2 rfl _ (iteF h))
theorem if_and_t {t1 t2 : TT} {A B : TS} {D : Ends} {σ : L2.St} {H : Hp} (h1 : ∀ Q : Bool → Hp → Prop, Q true H → t1 σ H Q) (h2 : ∀ Q : Bool → Hp → Prop, Q true H → t2 σ H Q) (h : A D σ H) : tIfS (tAnd t1 t2) A B D σ H :=
  h1 _ (iteT (h2 _ (iteT h)))
theorem seq_and_f {t1 t2 : TT} {A B U : TS} {D : Ends} {σ : L2.St} {H : Hp} (c : Bool) (h1 : ∀ Q : Bool → Hp → Prop, Q c H → t1 σ H Q) (h2 : c = true → ∀ Q : Bool → Hp → Prop, Q false H → t2 σ H Q) (h : B { D with nx := U D } σ H) : tSeq (tIfS (tAnd t1 t2) A B) U D σ H :=
  if_and_f c h1 h2 h
theorem seq_and_t {t1 t2 : TT} {A B U : TS} {D : Ends} {σ : L2.St} {H : Hp} (h1 : ∀ Q : Bool → Hp → Prop, Q true H → t1 σ H Q) (h2 : ∀ Q : Bool → Hp → Prop, Q true H → t2 σ H Q) (h : A { D with nx := U D } σ H) : tSeq (tIfS (tAnd t1 t2) A B) U D σ H :=
  if_and_t h1 h2 h
theorem seq_and_n {t1 t2 : TT} {A U : TS} {D : Ends} {σ : L2.St} {H : Hp} (c : Bool) (h1 : ∀ Q : Bool → Hp → Prop, Q c H → t1 σ H Q) (h2 : c = true → ∀ Q : Bool → Hp → Prop, Q false H → t2 σ H Q) (h : U D σ H) : tSeq (tIfS (tAnd t1 t2) A tNext) U D σ H :=
  seq_and_f c h1 h2 h
theorem val_at {κ : Type} [DecidableEq κ] : ∀ (kvs : List (κ × V)) (i : Nat) (k : κ) (v : V), (kvs.map (·.1)).Nodup → kvs[i]? = some (k, v) → valV kvs k = some v
  | [], i, k, v, _, h => by simp at h
  | p :: r, 0, k, v, _, h => by
    have e : p = (k, v) := by simpa using h
    rw [e]
    exact valV_pos rfl
  | p :: r, i + 1, k, v, hn, h => by
    rw [List.map_cons, List.nodup_cons] at hn
    have h' : r[i]? = some (k, v) := by simpa using h
    have ne : ¬ p.1 = k := fun e => hn.1 (by rw [e]; exact List.mem_map.mpr ⟨(k, v), List.mem_of_getElem? h', rfl⟩)
    rw [valV_neg ne]
    exact val_at r i k v hn.2 h'
/-- all but two objects stand -/
def But2 (d b : Addr) (H H' : Hp) : Prop := ∀ x o, H x = some o → x ≠ d → x ≠ b → H' x = some o
theorem fresh2 {d b p : Addr} {H H' : Hp} {n : Nat} {ps : List Kvs} (k : But2 d b H H') (D : Deck H' d n) (B : BookAt K H' b ps) (h : H' p = none) : H p = none := by
  cases e : H p with
  | none => rfl
  | some o =>
    obtain ⟨_, _, _, hd, _⟩ := D
    obtain ⟨_, _, hb, _⟩ := B.ex
    rw [k p o e (ne_of_none hd h).symm (ne_of_none hb h).symm] at h
    cases h
theorem Deck.other {H H' : Hp} {d b : Addr} {n : Nat} (D : Deck H d n) (k : But b H H') (h : d ≠ b) : Deck H' d n := by
  obtain ⟨f, m, t, hd, r⟩ := D
  exact ⟨f, m, t, k _ _ hd h, r⟩
theorem cut_last (ds : List Addr) (dd : Addr) : cutV ((ds ++ [dd]).map V.ref) none (some (-1)) = ds.map V.ref := by
  unfold cutV
  rw [HT.sIx_none, List.drop_zero, Nat.sub_zero]
  have e : HT.sIx ((ds ++ [dd]).map V.ref).length ((ds ++ [dd]).map V.ref).length (some (-1)) = ds.length := by
    show (if (-1 : Int) < 0 then (-1 + (((ds ++ [dd]).map V.ref).length : Int)).toNat else min (-1 : Int).toNat ((ds ++ [dd]).map V.ref).length) = _
    rw [if_pos (by decide), List.length_map, List.length_append, List.length_singleton]
    omega
  rw [e, List.map_append]
  have l : (ds.map V.ref).length = ds.length := List.length_map _
  rw [← l, List.take_left']
  rfl
/-! ### _law_turn -/
def spTurn (K : PySem.W.Frag) : Sp := fun vs H Q _ => ∃ (d b l nl : Addr) (n : Nat) (ns : List Str) (pp : List (Kvs × Kvs)), vs = [.ref d, .ref b, .ref l, .ref nl] ∧ Deck H d n ∧ n ≤ 100000 ∧ Duo K H ns b l pp ∧ pp.length ≤ 500 ∧ NamesAt H nl ns ∧ ns ≠ [] ∧ ns.length ≤ 4 ∧ l ≠ d ∧ nl ≠ d ∧
  ∀ l' H' pp', H l' = none → Duo K H' ns b l' pp' → pp'.length ≤ pp.length + 1 → Deck H' d (n + 5) → But2 d b H H' → Q (.ref l') H'
theorem sc_turn : FnScope ["_law_deck_here", "_law_book", "_law_pages", "_law_names_here", "_law_shelf", "_law_title", "_law_sort_here", "_law_others", "_law_abc", "_law_each"] ["_law_deck_here", "_law_book", "_law_pages", "_law_names_here"] (defScope s_ulaw_turn) :=
  ⟨rfl, rfl, rfl, by decide +kernel, rfl, by decide +kernel, by decide +kernel⟩
theorem ok_turn (T : Txt K mg) : Ok P w K mg base 6 (He.ga K "_law_turn") ["_law_deck_here", "_law_book", "_law_pages", "_law_names_here"] (spTurn K) := by
  obtain ⟨fd1, F1, b1, k1, _⟩ := (ok_pick (P := P) (w := w) (base := base) T).ex
  obtain ⟨fd2, F2, b2, k2, _⟩ := (ok_rule (P := P) (w := w) (base := base) T).ex
  obtain ⟨fd3, F3, b3, k3, _⟩ := (ok_Book_undo (P := P) (w := w) (base := base) T).ex
  obtain ⟨fd4, F4, b4, k4, _⟩ := (ok_Book_remove (P := P) (w := w) (base := base) T).ex
  obtain ⟨fd5, F5, b5, k5, _⟩ := (ok_Rule_init (P := P) (w := w) (base := base) T).ex
  refine fd_ok T.f_ulaw_turn sc_turn (fun vs H Q E h => ?_) (fun _ _ _ _ _ _ us hl => match us, hl with | [_, _, _, _], _ => rfl) (fun cdv A outer s H vs Q E hr h => ?_)
  · obtain ⟨d, b, l, nl, n, ns, pp, rfl, _⟩ := h
    rfl
  · obtain ⟨d, b, l, nl, n, ns, pp, rfl, D0, hn, Du, hpl, hns, nne, n4, nld, nnd, q⟩ := h
    have nd := sc_turn.nd
    have hr1 : Room 1 _ := hr.mono (by decide)
    have hr3 : Room 3 _ := hr.mono (by decide)
    have hr4 : Room 4 _ := hr.mono (by decide)
    refine ⟨_, pss_cons (ps_asg (pe_tup (pa_cons (pe_ix ix_list (pv 2) (pe_un un_neg pe_int) (by intro _ _; rfl)) (pa_cons (pe_ix ix_list (pv 3) (pe_call F1 hr1 rfl T.g_ulaw_pick k1 b1 .nil pass0 (pa_cons (pv 0) (pa_cons (pe_callB call_len_seq rfl T.z_len (by decide +kernel) (pa_cons (pv 3) pa_nil)) pa_nil))) (by intro _ _; rfl))
        (pa_cons (pe_call F1 hr1 rfl T.g_ulaw_pick k1 b1 .nil pass0 (pa_cons (pv 0) (pa_cons pe_int pa_nil))) pa_nil))))
        (pg_tup rfl (pgs_cons (pg_name (i := 4) nd rfl (Or.inr rfl)) (pgs_cons (pg_name (i := 5) nd rfl (Or.inr rfl)) (pgs_cons (pg_name (i := 6) nd rfl (Or.inl rfl)) pgs_nil)))))
      (pss_cons (ps_lock (ps_setLc (i := 7) (own := [("_law_each", 9)]) (g := gName 9) rfl nd rfl rfl (sw_true rfl rfl rfl (by decide +kernel)) (pi_keys (pv 4))
        (blkOk_by (own := [("_law_each", 9)]) (N := ["_law_deck_here", "_law_book", "_law_pages", "_law_names_here", "_law_shelf", "_law_title", "_law_sort_here", "_law_others", "_law_abc", "_law_each"]) (sc := defScope s_ulaw_turn) (by decide +kernel))
        (fun _ _ _ _ _ => pg_name (i := 9) nd rfl (Or.inl rfl)) (fun _ _ _ _ _ => pts_one (pt_cmpR op_ne (pv 9) (pv 5) (nomark _))) (fun _ _ _ _ _ => pe_tup (pa_cons (pv 9) (pa_cons (pe_dget (ru hr) (pv 4) (pv 9) (by intro _ _; rfl)) pa_nil)))))
      (pss_cons (ps_if (PW.pt (pw_and (pt_cmpR op_eq (pv 6) pe_int (nomark _)) (pw_and1 (pt_cmpR op_gt (pe_callB call_len_seq rfl T.z_len (by decide +kernel) (pa_cons (pv 2) pa_nil)) pe_int (nomark _)))))
        (pss_one (ps_ret (pe_ifExp (pt_cmpR op_isN (pe_meth0 (pv 1) T.c_Book T.m_Book_undo F3 hr1 b3 .nil pass0) pe_non (nomark _)) (pe_slice sl_list (pv 2) po_none (po_some (pe_un un_neg pe_int))) (pe_lst pa_nil)))) pss_nil)
      (pss_cons (ps_if (PW.pt (pw_and (pt_cmpR op_eq (pv 6) pe_int (nomark _)) (pw_and1 (pt_cmp (pc_din (ru hr) (pv 5) (pv 4))))))
        (pss_one (ps_ret (pe_ifExp (pt_cmpR op_isN (pe_meth (pv 1) T.c_Book T.m_Book_remove F4 hr4 b4 .nil pass0 (pa_cons (pv 5) pa_nil)) pe_non (nomark _))
          (pe_op op_cat (pv 2) (pe_lst (pa_cons (pe_callTy (call_dictP rfl) rfl T.z_dict (by decide +kernel) (pa_cons (pv 7) pa_nil)) pa_nil))) (pe_lst pa_nil)))) pss_nil)
      (pss_cons (ps_set (i := 8) nd rfl (Or.inl rfl) (pe_call F2 hr3 rfl T.g_ulaw_rule k2 b2 .nil pass0 (pa_cons (pv 0) pa_nil)))
      (pss_cons (ps_asg (pe_make T.mk_Rule F5 hr rfl T.g_Rule b5 .nil pass0 (pa_cons (pe_ix ix_tup (pv 8) pe_int (by intro _ _; rfl)) (pa_cons (pe_ix ix_tup (pv 8) pe_int (by intro _ _; rfl)) (pa_cons (pe_ix ix_tup (pv 8) pe_int (by intro _ _; rfl)) pa_nil))))
        (pg_sub (pv 1) (pv 5) (set_own T.m_Book_uusetitem__ T.x_noseq_Book (ok_Book_set T) hr4)))
      (pss_one (ps_ret (pe_op op_cat (pv 2) (pe_lst (pa_cons (pe_callTy (call_dictP rfl) rfl T.z_dict (by decide +kernel) (pa_cons (pe_op op_cat (pv 7) (pe_lst (pa_cons (pe_tup (pa_cons (pv 5) (pa_cons (pv 8) pa_nil))) pa_nil))) pa_nil)) pa_nil)))))))))), ?_⟩
    obtain ⟨kb, kl, rest, rfl⟩ : ∃ kb kl rest, pp = (kb, kl) :: rest := by
      match pp, Du.ne with
      | (kb, kl) :: rest, _ => exact ⟨kb, kl, rest, rfl⟩
    obtain ⟨ds0, hl, hp0⟩ := id Du.pages
    rw [List.map_cons, List.reverse_cons] at hp0
    obtain ⟨ds, dd, rfl, hp1, hdd⟩ := paired_snoc hp0
    have hat : atI ((ds ++ [dd]).map V.ref) (-1) = some (.ref dd) := by
      rw [List.map_append]
      exact atI_last _ _
    have nel : (ns.map V.str).length = ns.length := List.length_map _
    have npos : 1 ≤ ns.length := List.length_pos_iff.mpr nne
    -- the three draws
    refine ⟨_, rfl, 1, rfl, l, _, -1, .ref dd, rfl, rfl, SqL.of hl, hat, ?_⟩
    refine ⟨_, rfl, _, rfl, _, rfl, nl, _, rfl, .inl (SqL.of hns.1), d, ns.length, n, by rw [nel]; rfl, D0, by omega, by omega, by omega, fun k H1 hk D1 e1 => ?_⟩
    have hatn : atI (ns.map V.str) (k : Int) = some (.str ns[k]) := by
      refine atI_nat ?_
      rw [List.getElem?_map, List.getElem?_eq_getElem hk]
      rfl
    have hzm : ns[k] ∈ ns := List.getElem_mem hk
    generalize ns[k] = z at hatn hzm
    refine ⟨nl, _, k, _, rfl, rfl, SqL.of (e1 _ _ hns.1 nnd), hatn, ?_⟩
    refine ⟨_, rfl, d, 5, n + 1, rfl, D1, by omega, by decide, by decide, fun so H2 hso D2 e2 => ?_⟩
    refine ⟨by show 3 ≤ sizeLine; decide, fun tp htp => ?_⟩
    refine ⟨tp, _, rfl, SqT.of upd_same, rfl, _, _, rfl, _, _, rfl, _, _, rfl, rfl, ?_⟩
    have e23 := Ext.new htp (.tup [.ref dd, .str z, .int so])
    have e03 : But d H (upd H2 tp (.tup [.ref dd, .str z, .int so])) := (e1.trans e2).trans (e23.but d)
    have D3 := D2.ext e23
    have Du3 := Du.draw D0 e03 nld
    generalize upd H2 tp (.tup [.ref dd, .str z, .int so]) = H3 at e03 D3 Du3 ⊢
    have pg := Du3.ok (kb, kl) (List.mem_cons_self ..)
    dsimp only at pg
    have hdd3 := e03 _ _ hdd (deck_ne D0 hdd rfl)
    have hl3 := e03 _ _ hl nld
    -- the others
    refine ⟨dd, _, hdd3, True.intro, fun od => ?_⟩
    generalize hG : upd H3 dd (.frz od (.dK kl)) = G
    have gk : ∀ x o, H3 x = some o → x ≠ dd → G x = some o := fun x o e ne => by rw [← hG, upd_ne ne]; exact e
    have gd : G dd = some (.frz od (.dK kl)) := by rw [← hG]; exact upd_same
    refine ⟨_, rfl, dd, od, rfl, .inl ⟨kl, gd, fun D hD => ?_⟩⟩
    have nDd : dd ≠ D := ne_of_none gd hD
    refine ⟨fun i m J => m = kl.length - i ∧ i ≤ kl.length ∧ (∃ ps : List Addr, J D = some (.lst (ps.map V.ref)) ∧ Paired (fun p (kv : Key × V) => J p = some (.tup [kV kv.1, kv.2])) ps ((kl.take i).filter fun kv => decide (kv.1 ≠ .inr z)) ∧ ps.length ≤ i) ∧ ∀ x o, G x = some o → J x = some o,
      ⟨kl.length, rfl, Nat.zero_le _, ⟨[], upd_same, .nil, Nat.le_refl _⟩, fun x o e => by rw [upd_ne (ne_of_none e hD)]; exact e⟩, ?_⟩
    have lkl := pg.l.len
    rintro i m J ⟨rfl, hi, ⟨ps, jD, jp, jl⟩, jk⟩
    by_cases hlt : i < kl.length
    · refine .inr ⟨⟨jk _ _ gd, hlt⟩, fun J' => i + 1 ≤ kl.length ∧ (∃ ps : List Addr, J' D = some (.lst (ps.map V.ref)) ∧ Paired (fun p (kv : Key × V) => J' p = some (.tup [kV kv.1, kv.2])) ps ((kl.take (i + 1)).filter fun kv => decide (kv.1 ≠ .inr z)) ∧ ps.length ≤ i + 1) ∧ ∀ x o, G x = some o → J' x = some o,
        fun J' ⟨p1, p2, p3⟩ => ⟨kl.length - (i + 1), by omega, rfl, p1, p2, p3⟩, ?_⟩
      rintro x J' ⟨rfl, k', v', hkv, rfl⟩
      obtain ⟨y, hy1, hy2⟩ := pg.l.2 _ (List.mem_of_getElem? hkv)
      cases (show k' = .inr y from hy1)
      refine ⟨rfl, _, rfl, _, rfl, rfl, _, rfl, ?_⟩
      have tk := take_kept (fun kv : Key × V => decide (kv.1 ≠ .inr z)) kl i _ hkv
      by_cases hne : (Sum.inr y : Key) = .inr z
      · have e3 : (!decide (kV (.inr y) = V.str z)) = false := by
          rw [decide_eq_true (by injection hne with e; rw [e]; rfl)]
          rfl
        rw [e3]
        rw [if_neg (by simp [hne]), List.append_nil] at tk
        exact iteF ⟨hlt, ⟨ps, jD, by rw [tk]; exact jp, by omega⟩, jk⟩
      · have e3 : (!decide (kV (.inr y) = V.str z)) = true := by
          rw [decide_eq_false (fun e => hne (by injection e with e; rw [e]))]
          rfl
        rw [e3]
        rw [if_pos (by simp [hne])] at tk
        refine iteT ⟨_, rfl, _, rfl, _, rfl, dd, v', rfl, ?_, by show 2 ≤ sizeLine; decide, fun p hp => ?_⟩
        · rw [← val_at kl i _ _ pg.l.1 hkv]
          exact .inl ⟨kl, .inr y, .inr ⟨od, jk _ _ gd⟩, rfl, rfl⟩
        · have nDp : D ≠ p := ne_of_none jD hp
          refine ⟨_, by rw [upd_ne nDp]; exact jD, ?_, hlt, ⟨ps ++ [p], by rw [upd_same, List.map_append]; rfl, ?_, by rw [List.length_append, List.length_singleton]; omega⟩, fun x o e => ?_⟩
          · rw [List.length_map]
            exact Nat.lt_of_lt_of_le (show ps.length < 100 by omega) (by decide)
          · rw [tk]
            refine Paired.snoc (L2.Paired.mapP jp fun a kv e => ?_) ?_
            · have nap : a ≠ p := ne_of_none e hp
              have naD : a ≠ D := ne_of e jD (by intro z; cases z)
              rw [upd_ne naD, upd_ne nap]
              exact e
            · rw [upd_ne nDp.symm, upd_same]
          · have z1 := ne_of_none e hD
            rw [upd_ne z1, upd_ne (ne_of_none (jk x o e) hp)]
            exact jk x o e
    · obtain rfl : i = kl.length := by omega
      rw [List.take_length] at jp
      refine .inl ⟨⟨jk _ _ gd, Nat.le_refl _⟩, jk _ _ gd, ?_⟩
      have e34 : Ext H3 (upd J dd (.dK kl)) := fun x o e => by
        by_cases ne : x = dd
        · subst ne
          rw [hdd3] at e
          rw [upd_same]
          exact e
        · rw [upd_ne ne]
          exact jk _ _ (gk x o e ne)
      have hD4 : upd J dd (.dK kl) D = some (.lst (ps.map V.ref)) := by rw [upd_ne nDd.symm]; exact jD
      have hp4 : Paired (fun p (kv : Key × V) => upd J dd (.dK kl) p = some (.tup [kV kv.1, kv.2])) ps (dropK kl (.inr z)) := L2.Paired.mapP jp fun a kv e => by
        have na : a ≠ dd := ne_of e (jk _ _ gd) (by intro z; cases z)
        rw [upd_ne na]
        exact e
      have hDn : H3 D = none := by
        cases e : H3 D with
        | none => rfl
        | some o =>
          rw [gk D o e nDd.symm] at hD
          cases hD
      generalize upd J dd (.dK kl) = H4 at e34 hD4 hp4 ⊢
      have Du4 := Du3.ext e34
      have D4 := D3.ext e34
      have e04 : But d H H4 := e03.trans (e34.but d)
      have hl4 := e34 _ _ hl3
      have hdd4 := e34 _ _ hdd3
      have ndD : D ≠ d := by
        obtain ⟨_, _, _, hd, _⟩ := D3
        exact (ne_of_none hd hDn).symm
      have nlD : D ≠ l := (ne_of_none hl3 hDn).symm
      obtain ⟨dx, lf0, hb4, _⟩ := id Du4.book.ex
      have len4 : ((ds ++ [dd]).map V.ref).length = rest.length + 1 := by
        rw [List.length_map, hp0.length, List.length_append, List.length_reverse, List.length_map]
        rfl
      have bl4 : b ≠ l := ne_of hb4 hl4 (by intro z; cases z)
      have bd4 : b ≠ d := by
        obtain ⟨_, _, _, hd, _⟩ := D4
        exact ne_of hb4 hd (by intro z; cases z)
      have pg4 := pg.keep (Ext.calm e34)
      have B4 : BookAt K H4 b (kb :: rest.map (·.1)) := Du4.book
      have e04' : But2 d b H H4 := fun x o e n1 _ => e04 x o e n1
      by_cases hA : so = 0 ∧ rest ≠ []
      · -- undo
        obtain ⟨rfl, hre⟩ := hA
        obtain ⟨kb2, kl2, rest2, rfl⟩ : ∃ kb2 kl2 rest2, rest = (kb2, kl2) :: rest2 := by
          match rest, hre with
          | (a, b) :: r, _ => exact ⟨a, b, r, rfl⟩
        dsimp only
        refine seq_and_t (fun Q q => ⟨_, rfl, rfl, _, rfl, q⟩) (fun Q q => ⟨_, rfl, l, _, rfl, .inl (SqL.of hl4), _, _, rfl, rfl, _, rfl, ?_⟩) ?_
        · rw [len4, decide_eq_true (by rw [List.length_cons]; omega)]
          exact q
        · refine ⟨_, rfl, b, dx, _, rfl, hb4, rfl, b, kb, kb2, rest2.map (·.1), rfl, (show BookAt K H4 b (kb :: kb2 :: rest2.map (·.1)) from B4), fun H5 B5 k5 => ?_⟩
          refine ⟨rfl, _, rfl, iteT ?_⟩
          have hl5 := k5 _ _ hl4 bl4.symm
          refine ⟨_, rfl, 1, rfl, _, rfl, l, _, rfl, SqL.of hl5, fun p hp => ?_⟩
          rw [cut_last]
          have e56 := Ext.new hp (.lst (ds.map V.ref))
          have kc := Du4.book.calm k5
          have D5 := D4.other k5 bd4.symm
          have c2 : But2 d b H H5 := fun x o e n1 n2 => k5 _ _ (e04' x o e n1 n2) n2
          refine q p _ ((kb2, kl2) :: rest2) (fresh2 c2 D5 B5 hp) ⟨B5.ext e56, ⟨ds, upd_same, L2.Paired.mapP hp1 fun a kv e => ?_⟩, fun p' hp' => ?_, by simp⟩ (by simp only [List.length_cons]; omega) (D5.ext e56 |>.mono (by omega)) fun x o e n1 n2 => e56 _ _ (c2 x o e n1 n2)
          · exact e56 _ _ (kc _ _ (e34 _ _ (e03 _ _ e (deck_ne D0 e rfl))) rfl)
          · exact ((Du4.ok p' (List.mem_cons_of_mem _ hp')).keep kc).keep (Ext.calm e56)
      · -- no undo
        dsimp only
        refine seq_and_n (decide (V.int so = V.int 0)) (fun Q q => ⟨_, rfl, rfl, _, rfl, q⟩) (fun hc Q q => ⟨_, rfl, l, _, rfl, .inl (SqL.of hl4), _, _, rfl, rfl, _, rfl, ?_⟩) ?_
        · have h0 : so = 0 := by
            have := of_decide_eq_true hc
            injection this with this
            omega
          have hre : rest = [] := Classical.byContradiction fun z => hA ⟨h0, z⟩
          rw [len4, hre, decide_eq_false (by simp)]
          exact q
        -- the pages of the others
        have oth : (mergeK [] (dropK kl (.inr z))) = dropK kl (.inr z) := by
          have := mergeK_fresh [] (dropK kl (.inr z)) (by rw [List.nil_append]; exact (pg.l.drop _).1)
          rw [this, List.nil_append]
        have lps : ps.length ≤ 4 := by omega
        by_cases hB : so = 1 ∧ (valV kl (.inr z)).isSome = true
        · obtain ⟨rfl, hv⟩ := hB
          refine seq_and_t (fun Q q => ⟨_, rfl, rfl, _, rfl, q⟩) (fun Q q => ⟨_, rfl, _, rfl, dd, _, rfl, DGet.k (k := .inr z) hdd4, _, rfl, by rw [hv]; exact q⟩) ?_
          have lkb := pg.b.len
          refine ⟨_, rfl, b, dx, _, rfl, hb4, rfl, _, rfl, b, z, kb, rest.map (·.1), rfl, B4, by rw [pg.some_eq z]; exact hv, pg.b.1, fun kv hkv => let ⟨y, hy, _⟩ := pg.b.2 kv hkv; ⟨y, hy⟩, by omega, fun H5 B5 k5 => ?_⟩
          refine ⟨rfl, _, rfl, iteT ?_⟩
          have kc := Du4.book.calm k5
          have D5 := D4.other k5 bd4.symm
          have c2 : But2 d b H H5 := fun x o e n1 n2 => k5 _ _ (e04' x o e n1 n2) n2
          have nbD : D ≠ b := by
            intro e
            rw [e, hb4] at hD4
            cases hD4
          refine ⟨_, rfl, _, rfl, D, ps, dropK kl (.inr z), rfl, SqL.of (k5 _ _ hD4 nbD), L2.Paired.mapP hp4 fun a kv e => SqT.of (kc _ _ e rfl), fun p hp => ?_⟩
          rw [oth]
          refine ⟨by show 1 ≤ sizeLine; decide, fun q1 hq1 => ?_⟩
          have x1 := Ext.new hp (.dK (dropK kl (.inr z)))
          have x2 := Ext.new hq1 (.lst [.ref p])
          have hl5 := k5 _ _ hl4 bl4.symm
          refine ⟨l, q1, _, _, rfl, rfl, x2 _ _ (x1 _ _ hl5), upd_same, by rw [len4]; exact Nat.le_trans (show rest.length + 1 + 1 ≤ 1000 by have := hpl; rw [List.length_cons] at this; omega) (by decide), fun r hr => ?_⟩
          have x3 := Ext.new hr (.lst ((ds ++ [dd]).map V.ref ++ [.ref p]))
          have x13 := (x1.trans x2).trans x3
          have hpp := x3 _ _ (x2 _ _ (show upd H5 p (.dK (dropK kl (.inr z))) p = some (.dK (dropK kl (.inr z))) from upd_same))
          have frr : H r = none := fresh2 (fun x o e n1 n2 => (x1.trans x2) _ _ (c2 x o e n1 n2)) (D5.ext (x1.trans x2)) (B5.ext (x1.trans x2)) hr
          refine q r _ ((dropK kb (.inr z), dropK kl (.inr z)) :: (kb, kl) :: rest) frr ⟨B5.ext x13, ⟨(ds ++ [dd]) ++ [p], by rw [upd_same, List.map_append (l₂ := [p])]; rfl, ?_⟩, fun p' hp' => ?_, by simp⟩ (by simp only [List.length_cons]; omega) ((D5.ext x13).mono (by omega)) fun x o e n1 n2 => x13 _ _ (c2 x o e n1 n2)
          · show Paired _ _ ((dropK kl (.inr z) :: kl :: rest.map (·.2)).reverse)
            rw [List.reverse_cons, List.reverse_cons]
            refine Paired.snoc (L2.Paired.mapP hp0 fun a kv e => ?_) hpp
            exact x13 _ _ (kc _ _ (e34 _ _ (e03 _ _ e (deck_ne D0 e rfl))) rfl)
          · rcases List.mem_cons.mp hp' with rfl | hp'
            · exact ((pg4.del z).keep kc).keep (Ext.calm x13)
            · exact ((Du4.ok p' hp').keep kc).keep (Ext.calm x13)
        · refine seq_and_n (decide (V.int so = V.int 1)) (fun Q q => ⟨_, rfl, rfl, _, rfl, q⟩) (fun hc Q q => ⟨_, rfl, _, rfl, dd, _, rfl, DGet.k (k := .inr z) hdd4, _, rfl, ?_⟩) ?_
          · have h1 : so = 1 := by
              have := of_decide_eq_true hc
              injection this with this
              omega
            have hv : (valV kl (.inr z)).isSome = false := by
              cases e : (valV kl (.inr z)).isSome with
              | false => rfl
              | true => exact (hB ⟨h1, e⟩).elim
            rw [hv]
            exact q
          refine ⟨_, rfl, d, n + 2, rfl, D4, by omega, fun ra rb rc ta H5 rok hta D5 e5 => ?_⟩
          refine ⟨_, rfl, ta, _, 0, _, rfl, rfl, SqT.of hta, rfl, _, rfl, ta, _, 1, _, rfl, rfl, SqT.of hta, rfl, _, rfl, ta, _, 2, _, rfl, rfl, SqT.of hta, rfl, ?_⟩
          intro r dr hr0 hdr nr
          refine ⟨r, dr, ra, rb, rc, rfl, upd_same, rok, fun H7 R7 k7 => ⟨rfl, ?_⟩⟩
          have e57 : Ext H5 H7 := fun x o e => by
            have x1 := ne_of_none e hr0
            exact k7 x o (by rw [upd_ne x1, upd_ne (ne_of_none e hdr)]; exact e) x1
          have Du5 := Du4.draw D4 e5 nld
          have Du7 := Du5.ext e57
          obtain ⟨dx7, lf7, hb7, _⟩ := id Du7.book.ex
          obtain ⟨dr7, m7, hr7, hm7⟩ := id R7.ex
          have lkb := pg.b.len
          have B7 : BookAt K H7 b (kb :: rest.map (fun x : Kvs × Kvs => x.fst)) := Du7.book
          refine ⟨_, rfl, _, rfl, b, dx7, _, rfl, hb7, b, r, dr7, z, _, kb, _, rfl, B7, word_of (hns.2 z hzm).1 (hns.2 z hzm).2.1 (hns.2 z hzm).2.2, hr7, by omega, fun H8 B8 k8 => ?_⟩
          have kc8 := Du7.book.calm k8
          have D7 := D5.ext e57
          have D8 := D7.other k8 bd4.symm
          have c2 : But2 d b H H8 := fun x o e n1 n2 => k8 _ _ (e57 _ _ (e5 _ _ (e04' x o e n1 n2) n1)) n2
          have nbD : D ≠ b := by
            intro e
            rw [e, hb4] at hD4
            cases hD4
          have hD8 := k8 _ _ (e57 _ _ (e5 _ _ hD4 ndD)) nbD
          have hl8 := k8 _ _ (e57 _ _ (e5 _ _ hl4 nld)) bl4.symm
          have c48 : Calm H4 H8 := fun x o e c => kc8 _ _ (e57 _ _ (deck_calm D4 e5 _ _ e c)) c
          have ta8 : H8 ta = some (.tup [.int ra, .int rb, .int rc]) := kc8 _ _ (e57 _ _ hta) rfl
          refine ⟨_, rfl, _, rfl, _, rfl, _, rfl, by show 2 ≤ sizeLine; decide, fun p1 hp1 => ⟨by show 1 ≤ sizeLine; decide, fun p2 hp2 => ?_⟩⟩
          have x1 := Ext.new hp1 (.tup [.str z, .ref ta])
          have x2 := Ext.new hp2 (.lst [.ref p1])
          have x12 := x1.trans x2
          have g1 : upd (upd H8 p1 (.tup [.str z, .ref ta])) p2 (.lst [.ref p1]) p1 = some (.tup [.str z, .ref ta]) := x2 _ _ upd_same
          have g2 : upd (upd H8 p1 (.tup [.str z, .ref ta])) p2 (.lst [.ref p1]) p2 = some (.lst [.ref p1]) := upd_same
          generalize upd (upd H8 p1 (.tup [.str z, .ref ta])) p2 (.lst [.ref p1]) = H9 at x12 g1 g2 ⊢
          have lps2 : (ps.map V.ref).length = ps.length := List.length_map _
          refine ⟨D, p2, _, _, rfl, rfl, x12 _ _ hD8, g2, by rw [lps2]; exact Nat.le_trans (show ps.length + 1 ≤ 1000 by omega) (by decide), fun p3 hp3 => ?_⟩
          have x3 := Ext.new hp3 (.lst (ps.map V.ref ++ [.ref p1]))
          have g3 : upd H9 p3 (.lst (ps.map V.ref ++ [.ref p1])) p3 = some (.lst (ps.map V.ref ++ [.ref p1])) := upd_same
          have x13 := x12.trans x3
          have g1' := x3 _ _ g1
          generalize upd H9 p3 (.lst (ps.map V.ref ++ [.ref p1])) = H10 at x13 g3 g1' ⊢
          refine ⟨p3, ps ++ [p1], dropK kl (.inr z) ++ [(.inr z, .ref ta)], rfl, SqL.of (by rw [g3, List.map_append]; rfl), Paired.snoc (a := p1) (b := ((.inr z, .ref ta) : Key × V)) (L2.Paired.mapP hp4 fun a kv e => SqT.of (x13 _ _ (c48 _ _ e rfl))) (SqT.of g1'), fun p4 hp4' => ?_⟩
          have hdn : valV (dropK kl (.inr z)) (.inr z) = none := by rw [valV_drop, if_pos rfl]
          have mg2 : mergeK [] (dropK kl (.inr z) ++ [(.inr z, .ref ta)]) = dropK kl (.inr z) ++ [(.inr z, .ref ta)] := by
            have := mergeK_fresh [] (dropK kl (.inr z) ++ [(.inr z, .ref ta)]) (by rw [List.nil_append]; exact (keys_snoc (pg.l.drop _) hzm hdn).1)
            rw [this, List.nil_append]
          rw [mg2]
          refine ⟨by show 1 ≤ sizeLine; decide, fun p5 hp5 => ?_⟩
          have x4 := Ext.new hp4' (.dK (dropK kl (.inr z) ++ [(.inr z, .ref ta)]))
          have x5 := Ext.new hp5 (.lst [.ref p4])
          have x15 := (x13.trans x4).trans x5
          refine ⟨l, p5, _, _, rfl, rfl, x15 _ _ hl8, upd_same, by rw [len4]; exact Nat.le_trans (show rest.length + 1 + 1 ≤ 1000 by have := hpl; rw [List.length_cons] at this; omega) (by decide), fun p6 hp6 => ?_⟩
          have x6 := Ext.new hp6 (.lst ((ds ++ [dd]).map V.ref ++ [.ref p4]))
          have x16 := x15.trans x6
          have hpp := x6 _ _ (x5 _ _ (show upd H10 p4 (.dK (dropK kl (.inr z) ++ [(.inr z, .ref ta)])) p4 = some (.dK (dropK kl (.inr z) ++ [(.inr z, .ref ta)])) from upd_same))
          have frr : H p6 = none := fresh2 (fun x o e n1 n2 => x15 _ _ (c2 x o e n1 n2)) (D8.ext x15) (B8.ext x15) hp6
          refine q p6 _ ((putK kb (.inr z) (.ref r), dropK kl (.inr z) ++ [(.inr z, .ref ta)]) :: (kb, kl) :: rest) frr ⟨B8.ext x16, ⟨(ds ++ [dd]) ++ [p4], by rw [upd_same, List.map_append (l₂ := [p4])]; rfl, ?_⟩, fun p' hp' => ?_, by simp⟩ (by simp only [List.length_cons]; omega) (D8.ext x16) fun x o e n1 n2 => x16 _ _ (c2 x o e n1 n2)
          · show Paired _ _ (((dropK kl (.inr z) ++ [(.inr z, .ref ta)]) :: kl :: rest.map (·.2)).reverse)
            rw [List.reverse_cons, List.reverse_cons]
            refine Paired.snoc (L2.Paired.mapP hp0 fun a kv e => ?_) hpp
            exact x16 _ _ (c48 _ _ (e34 _ _ (e03 _ _ e (deck_ne D0 e rfl))) rfl)
          · rcases List.mem_cons.mp hp' with rfl | hp'
            · exact ((pg4.keep c48).set hzm (R7.keep kc8) ta8 rok).keep (Ext.calm x16)
            · exact ((Du4.ok p' hp').keep c48).keep (Ext.calm x16)
end
end K62

set_option Elab.async false
set_option linter.all false
set_option maxRecDepth 100000
set_option maxHeartbeats 4000000
namespace K62
open PySem PySem.Spec PyProof.Rows L2 Bk Evl
section
variable {P : Program} {w : World} {K : PySem.W.Frag} {mg : Str → Option Value} {base : Heap}
theorem eqobj_Book (T : Txt K mg) : BkI.EqObj K (CB K) := by
  have h := T.x_eqobj_Book
  obtain ⟨c1, c⟩ := He.ba h
  obtain ⟨c2, c3⟩ := He.ba c
  exact ⟨He.eqO_ok c1, He.eqO_ok c2, of_decide_eq_true c3⟩
/-! ### what stands between two turns -/
structure St (K : PySem.W.Frag) (H : Hp) (d nl pl bl : Addr) (ns : List Str) (B L : Nat → Addr) (PP : Nat → List (Kvs × Kvs)) (n m : Nat) : Prop where
  deck : Deck H d n
  names : NamesAt H nl ns
  nn : ns ≠ []
  n4 : ns.length ≤ 4
  pair : H pl = some (.lst [.ref (B 0), .ref (B 1)])
  both : H bl = some (.lst [.ref (L 0), .ref (L 1)])
  duo : ∀ j, j < 2 → Duo K H ns (B j) (L j) (PP j)
  len : ∀ j, j < 2 → (PP j).length ≤ m
  bb : B 0 ≠ B 1
  nd : nl ≠ d
  pd : pl ≠ d
  bd : bl ≠ d
  ld : ∀ j, j < 2 → L j ≠ d
  nb : nl ≠ bl
  pb : pl ≠ bl
  lb : ∀ j, j < 2 → L j ≠ bl
theorem St.ext {H H' : Hp} {d nl pl bl : Addr} {ns : List Str} {B L : Nat → Addr} {PP : Nat → List (Kvs × Kvs)} {n m : Nat} (s : St K H d nl pl bl ns B L PP n m) (k : Ext H H') : St K H' d nl pl bl ns B L PP n m :=
  { s with deck := s.deck.ext k, names := ⟨k _ _ s.names.1, s.names.2⟩, pair := k _ _ s.pair, both := k _ _ s.both, duo := fun j hj => (s.duo j hj).ext k }
/-- a draw -/
theorem St.draw {H H' : Hp} {d nl pl bl : Addr} {ns : List Str} {B L : Nat → Addr} {PP : Nat → List (Kvs × Kvs)} {n n' m : Nat} (s : St K H d nl pl bl ns B L PP n m) (k : But d H H') (D : Deck H' d n') : St K H' d nl pl bl ns B L PP n' m :=
  { s with deck := D, names := ⟨k _ _ s.names.1 s.nd, s.names.2⟩, pair := k _ _ s.pair s.pd, both := k _ _ s.both s.bd, duo := fun j hj => (s.duo j hj).draw s.deck k (s.ld j hj) }
theorem two {α : Type} {f : Nat → α} (j : Nat) (h : j < 2) : [f 0, f 1][j]? = some (f j) := by
  match j, h with
  | 0, _ => rfl
  | 1, _ => rfl
theorem St.bat {H : Hp} {d nl pl bl : Addr} {ns : List Str} {B L : Nat → Addr} {PP : Nat → List (Kvs × Kvs)} {n m : Nat} (s : St K H d nl pl bl ns B L PP n m) (j : Nat) (hj : j < 2) : ∃ dx l, H (B j) = some (.ins (CB K) dx (bf l)) :=
  let ⟨dx, l, h, _⟩ := (s.duo j hj).book.ex
  ⟨dx, l, h⟩
/-- a turn of the book j, and its new pages noted -/
theorem St.turn {H H' : Hp} {d nl pl bl l' : Addr} {ns : List Str} {B L : Nat → Addr} {PP : Nat → List (Kvs × Kvs)} {n n' m : Nat} {pp' : List (Kvs × Kvs)} (s : St K H d nl pl bl ns B L PP n m) (j : Nat) (hj : j < 2) (h0 : H l' = none) (Du : Duo K H' ns (B j) l' pp') (hp : pp'.length ≤ (PP j).length + 1)
    (D : Deck H' d n') (k : But2 d (B j) H H') (xs : List V) (hx : xs = [.ref (L 0), .ref (L 1)].set j (.ref l')) :
    St K (upd H' bl (.lst xs)) d nl pl bl ns B (fun i => if i = j then l' else L i) (fun i => if i = j then pp' else PP i) n' (m + 1) := by
  subst hx
  obtain ⟨dxj, lj, hbj⟩ := s.bat j hj
  obtain ⟨_, _, _, hd0, _⟩ := id s.deck
  have nlst : ∀ {x : Addr} {ys : List V}, H x = some (.lst ys) → x ≠ B j := fun e => ne_of e hbj (by intro z; cases z)
  have calm1 : Calm H H' := fun x o e c => k x o e (deck_ne s.deck e c) (fun z => by
    rw [z, hbj] at e
    cases e
    cases (show (false : Bool) = true from c))
  have hbl : H' bl = some (.lst [.ref (L 0), .ref (L 1)]) := k _ _ s.both s.bd (nlst s.both)
  have calm2 : Calm H' (upd H' bl (.lst ([.ref (L 0), .ref (L 1)].set j (.ref l')))) := fun x o e c => by
    have : x ≠ bl := fun z => by
      rw [z, hbl] at e
      cases e
      cases (show (false : Bool) = true from c)
    rw [upd_ne this]
    exact e
  have nl'bl : l' ≠ bl := (ne_of_none s.both h0).symm
  have nl'd : l' ≠ d := (ne_of_none hd0 h0).symm
  have bne : ∀ i, i < 2 → B i ≠ bl := fun i hi => by
    obtain ⟨_, _, e⟩ := s.bat i hi
    exact ne_of e s.both (by intro z; cases z)
  have step : ∀ x, x ≠ bl → ∀ o, H' x = some o → upd H' bl (.lst ([.ref (L 0), .ref (L 1)].set j (.ref l'))) x = some o := fun x hx o e => by
    rw [upd_ne hx]
    exact e
  refine { s with deck := ?_, names := ⟨?_, s.names.2⟩, pair := ?_, both := ?_, duo := ?_, len := ?_, ld := ?_, lb := ?_ }
  · obtain ⟨f, m, t, hd, r⟩ := D
    exact ⟨f, m, t, step _ s.bd.symm _ hd, r⟩
  · exact step _ s.nb _ (k _ _ s.names.1 s.nd (nlst s.names.1))
  · exact step _ s.pb _ (k _ _ s.pair s.pd (nlst s.pair))
  · rw [upd_same]
    match j, hj with
    | 0, _ => rfl
    | 1, _ => rfl
  · intro i hi
    by_cases e : i = j
    · rw [if_pos e, if_pos e, e]
      exact Du.keep calm2 (fun o h => step _ (bne j hj) o h) (fun o h => step _ nl'bl o h)
    · rw [if_neg e, if_neg e]
      have Di := s.duo i hi
      have bij : B i ≠ B j := by
        have := s.bb
        rcases (show i = 0 ∨ i = 1 by omega) with rfl | rfl <;> rcases (show j = 0 ∨ j = 1 by omega) with rfl | rfl
        · exact absurd rfl e
        · exact this
        · exact this.symm
        · exact absurd rfl e
      obtain ⟨_, _, hbi⟩ := s.bat i hi
      obtain ⟨ds, hl, _⟩ := id Di.pages
      have D1 : Duo K H' ns (B i) (L i) (PP i) := Di.keep calm1 (fun o h => k _ o h (ne_of hbi hd0 (by intro z; cases z)) bij) (fun o h => k _ o h (s.ld i hi) (nlst hl))
      exact D1.keep calm2 (fun o h => step _ (bne i hi) o h) (fun o h => step _ (s.lb i hi) o h)
  · intro i hi
    have l1 := s.len i hi
    have l2 := s.len j hj
    by_cases e : i = j
    · rw [if_pos e]; omega
    · rw [if_neg e]; omega
  · intro i hi
    by_cases e : i = j
    · rw [if_pos e]; exact nl'd
    · rw [if_neg e]; exact s.ld i hi
  · intro i hi
    by_cases e : i = j
    · rw [if_pos e]; exact nl'bl
    · rw [if_neg e]; exact s.lb i hi
theorem ext_made {H H' : Hp} {x dx C : Addr} (hx : H x = none) (hdx : H dx = none) (k : But x (upd (upd H dx (.own x)) x (.ins C dx [])) H') : Ext H H' := fun y o e => by
  have n1 := ne_of_none e hx
  exact k y o (by rw [upd_ne n1, upd_ne (ne_of_none e hdx)]; exact e) n1
theorem page_nil {H : Hp} {ns : List Str} : Page K H ns [] [] := ⟨⟨List.nodup_nil, fun _ h => by cases h⟩, ⟨List.nodup_nil, fun _ h => by cases h⟩, fun _ => .inl ⟨rfl, rfl⟩⟩
theorem Duo.shows {H : Hp} {ns : List Str} {b l : Addr} {pp : List (Kvs × Kvs)} (D : Duo K H ns b l pp) : ∃ kb kl obs old, BookAt K H b (kb :: obs) ∧ PagesAt H l (old ++ [kl]) ∧ old.length = obs.length ∧ obs.length < pp.length ∧ Page K H ns kb kl := by
  match pp, D.ne with
  | (kb, kl) :: rest, _ =>
    have h := D.pages
    rw [List.map_cons, List.reverse_cons] at h
    exact ⟨kb, kl, _, _, D.book, h, by rw [List.length_reverse, List.length_map, List.length_map], by rw [List.length_map]; exact Nat.lt_succ_self _, D.ok (kb, kl) (List.mem_cons_self ..)⟩
theorem Odd.far {H G F : Hp} {v : V} (o : Odd H G v) (k : ∀ x o, H x = none → G x = some o → F x = some o) : Odd H F v := by
  rcases o with h | h | h | h | ⟨p, o, h1, h2, h3, h4⟩
  · exact .inl h
  · exact .inr (.inl h)
  · exact .inr (.inr (.inl h))
  · exact .inr (.inr (.inr (.inl h)))
  · exact .inr (.inr (.inr (.inr ⟨p, o, h1, h2, k _ _ h2 h3, h4⟩)))
def four : PyData := .list [.bool false, .bool true, .bool true, .bool false]
theorem dp_four {H : Hp} {a : Addr} {w x y z : Bool} (h : H a = some (.lst [.bl w, .bl x, .bl y, .bl z])) (e : [w, x, y, z] = [false, true, true, false]) : Dp K H (.ref a) four := by
  injection e with e1 e
  injection e with e2 e
  injection e with e3 e
  injection e with e4 _
  subst e1 e2 e3 e4
  exact .lst (SqL.of h) (.cons (.bl _) (.cons (.bl _) (.cons (.bl _) (.cons (.bl _) .nil))))
/-! ### _law_right -/
def spRight : Sp := fun vs H Q _ => ∃ d : Addr, vs = [.ref d] ∧ Deck H d 1 ∧ ∀ H', But d H H' → Q (.bl true) H'
theorem sc_right : FnScope ["_law_deck_here", "_law_names_here", "_law_pair", "_law_both", "_law_turn_here", "_law_at", "_law_odd_here", "_law_told"] ["_law_deck_here"] (defScope s_ulaw_right) := ⟨rfl, rfl, rfl, by decide +kernel, rfl, by decide +kernel, by decide +kernel⟩
theorem ok_right (T : Txt K mg) : OkG P w K mg base 7 (He.ga K "_law_right") ["_law_deck_here"] spRight := by
  obtain ⟨fd1, F1, b1, k1, _⟩ := (ok_pick (P := P) (w := w) (base := base) T).ex
  obtain ⟨fd2, F2, b2, k2, _⟩ := (ok_names (P := P) (w := w) (base := base) T).ex
  obtain ⟨fd3, F3, b3, k3, _⟩ := (ok_Book_init (P := P) (w := w) (base := base) T).ex
  obtain ⟨fd4, F4, b4, k4, _⟩ := (ok_odd (P := P) (w := w) (base := base) T).ex
  obtain ⟨fd5, F5, b5, k5, _⟩ := (ok_turn (P := P) (w := w) (base := base) T).ex
  refine fd_okG T.f_ulaw_right sc_right (fun vs H Q h => ?_) (fun _ _ _ _ _ _ us hl => match us, hl with | [_], _ => rfl) (fun cdv A outer s H vs Q hr hG h => ?_)
  · obtain ⟨d, rfl, _⟩ := h
    rfl
  · obtain ⟨d, rfl, D0, q⟩ := h
    have nd := sc_right.nd
    have hr1 : Room 1 _ := hr.mono (by decide)
    have hr2 : Room 2 _ := hr.mono (by decide)
    have hr4 : Room 4 _ := hr.mono (by decide)
    have hr5 : Room 5 _ := hr.mono (by decide)
    have eo := eqobj_Book T
    refine ⟨_, pss_cons (ps_par3 (i := 1) (j := 2) (l := 3) rfl nd rfl rfl rfl (by decide) (by decide) (by decide) rfl rfl rfl (pa_cons (pe_call F2 hr2 rfl T.g_ulaw_names k2 b2 .nil pass0 (pa_cons (pv 0) pa_nil))
        (pa_cons (pe_lst (pa_cons (pe_make0 T.mk_Book F3 hr4 rfl T.g_Book b3 .nil pass0) (pa_cons (pe_make0 T.mk_Book F3 hr4 rfl T.g_Book b3 .nil pass0) pa_nil)))
        (pa_cons (pe_lst (pa_cons (pe_lst (pa_cons pe_dnewK pa_nil)) (pa_cons (pe_lst (pa_cons pe_dnewK pa_nil)) pa_nil))) pa_nil))) (by rfl))
      (pss_cons (ps_for PassesOwn.never rfl (pi_range1 rfl T.z_range (pa_cons pe_int pa_nil)) (pg_name (i := 4) nd rfl (Or.inl rfl))
        (pss_cons (ps_par (i := 5) (j := 6) rfl nd rfl rfl (by decide) rfl rfl (pa_cons (pe_call F1 hr1 rfl T.g_ulaw_pick k1 b1 .nil pass0 (pa_cons (pv 0) (pa_cons pe_int pa_nil))) (pa_cons (pe_call F4 hr2 rfl T.g_ulaw_odd k4 b4 .nil pass0 (pa_cons (pv 0) pa_nil)) pa_nil)) (by rfl))
        (pss_cons (ps_asg (pe_call F5 hr rfl T.g_ulaw_turn k5 b5 .nil pass0 (pa_cons (pv 0) (pa_cons (pe_ix ix_list (pv 2) (pv 5) (by intro _ _; rfl)) (pa_cons (pe_ix ix_list (pv 3) (pv 5) (by intro _ _; rfl)) (pa_cons (pv 1) pa_nil))))) (pg_sub (pv 3) (pv 5) set_list))
        (pss_cons (ps_if (PW.pt (pw_or (pt_cmpR (op_eqLen hr) (pe_ix ix_list (pv 3) (pv 5) (by intro _ _; rfl)) (pe_lst pa_nil) (nomark _)) (pw_or1 (PW.pt (pw_and
              (pt_not (pt_val (pe_callB call_isi rfl T.z_isinstance (by decide +kernel) (pa_cons (pv 6) (pa_cons (pe_bltn rfl T.z_str (by decide +kernel) (v := .ty "str") rfl) pa_nil)))))
              (pw_and1 (PW.pt (pw_or (pt_cmpR (op_inO T.m_Book_uucontains__ (ok_Book_has T) hr1) (pv 6) (pe_ix ix_list (pv 2) pe_int (by intro _ _; rfl)) rfl) (pw_or1 (pt_cmpR (op_inO T.m_Book_uucontains__ (ok_Book_has T) hr1) (pv 6) (pe_ix ix_list (pv 2) pe_int (by intro _ _; rfl)) rfl))))))))))
            (pss_one ps_never) pss_nil)
        (pss_one (ps_if (PW.pt (pw_or (pt_not (pt_val (pe_callG (ok_shows T) hr5 hG rfl T.g_ulaw_shows (pa_cons (pe_ix ix_list (pv 2) pe_int (by intro _ _; rfl)) (pa_cons (pe_ix ix_list (pv 3) pe_int (by intro _ _; rfl)) (pa_cons (pv 1) pa_nil))))))
            (pw_or1 (pt_not (pt_val (pe_callG (ok_shows T) hr5 hG rfl T.g_ulaw_shows (pa_cons (pe_ix ix_list (pv 2) pe_int (by intro _ _; rfl)) (pa_cons (pe_ix ix_list (pv 3) pe_int (by intro _ _; rfl)) (pa_cons (pv 1) pa_nil)))))))))
            (pss_one ps_never) pss_nil))))))
      (pss_cons (ps_set (i := 7) nd rfl (Or.inl rfl) (pe_lst (pa_cons (pe_cmpR (op_eqO eo hr) (pe_ix ix_list (pv 2) pe_int (by intro _ _; rfl)) (pe_ix ix_list (pv 2) pe_int (by intro _ _; rfl)) (nomark _))
          (pa_cons (pe_cmpR (op_neO eo hr) (pe_ix ix_list (pv 2) pe_int (by intro _ _; rfl)) (pe_ix ix_list (pv 2) pe_int (by intro _ _; rfl)) (nomark _))
          (pa_cons (pe_cmpR (op_eqO eo hr) (pe_ix ix_list (pv 2) pe_int (by intro _ _; rfl)) (pe_ix ix_list (pv 2) pe_int (by intro _ _; rfl)) (nomark _))
          (pa_cons (pe_cmpR (op_eqO eo hr) (pe_make0 T.mk_Book F3 hr4 rfl T.g_Book b3 .nil pass0) (pe_make0 T.mk_Book F3 hr4 rfl T.g_Book b3 .nil pass0) (nomark _)) pa_nil))))))
      (pss_cons (ps_if (pt_cmpR op_ne (pe_callB (call_repr hr hG) rfl T.z_repr (by decide +kernel) (pa_cons (pv 7) pa_nil)) (pe_callB (call_repr hr hG) rfl T.z_repr (by decide +kernel) (pa_cons (pe_lst (pa_cons pe_bl (pa_cons pe_bl (pa_cons pe_bl (pa_cons pe_bl pa_nil))))) pa_nil)) (nomark _))
          (pss_one ps_never) pss_nil)
      (pss_cons (ps_if (PW.pt (pw_or (pt_cmpR (op_eqO eo hr) (pe_ix ix_list (pv 2) pe_int (by intro _ _; rfl)) (pe_ix ix_list (pv 2) pe_int (by intro _ _; rfl)) (nomark _))
            (pw_or (pt_not (pt_cmpR (op_neO eo hr) (pe_ix ix_list (pv 2) pe_int (by intro _ _; rfl)) (pe_ix ix_list (pv 2) pe_int (by intro _ _; rfl)) (nomark _)))
            (pw_or1 (pt_cmpR (op_eqO eo hr) (pe_make0 T.mk_Book F3 hr4 rfl T.g_Book b3 .nil pass0) (pe_make0 T.mk_Book F3 hr4 rfl T.g_Book b3 .nil pass0) (nomark _))))))
          (pss_one ps_never) pss_nil)
      (pss_one (ps_ret (pe_and (pe_callG (ok_shows T) hr5 hG rfl T.g_ulaw_shows (pa_cons (pe_make0 T.mk_Book F3 hr4 rfl T.g_Book b3 .nil pass0) (pa_cons (pe_lst (pa_cons pe_dnewK pa_nil)) (pa_cons (pv 1) pa_nil))))
          (pe_and (pe_cmpR (op_notInO T.m_Book_uucontains__ (ok_Book_has T) hr1) pe_str (pe_ix ix_list (pv 2) pe_int (by intro _ _; rfl)) rfl)
          (pe_one (pe_cmpR (op_notInO T.m_Book_uucontains__ (ok_Book_has T) hr1) pe_str (pe_ix ix_list (pv 2) pe_int (by intro _ _; rfl)) rfl)))))))))), ?_⟩
    have nd0 : ∀ {x : Addr}, H x = none → x ≠ d := fun {x} hx z => by
      obtain ⟨_, _, _, hd, _⟩ := D0
      rw [z, hd] at hx
      cases hx
    -- names, books, pages
    refine ⟨_, rfl, d, 1, rfl, D0, by decide, fun nl H1 ns h0 hns nn n4 D1 e1 => ?_⟩
    intro b0 db0 hb0 hdb0 nb0
    refine ⟨b0, db0, rfl, upd_same, fun H2 B2 kk2 => ⟨rfl, ?_⟩⟩
    have e12 := ext_made hb0 hdb0 kk2
    intro b1' db1 hb1 hdb1 nb1
    refine ⟨b1', db1, rfl, upd_same, fun H3 B3 kk3 => ⟨rfl, ?_⟩⟩
    have e23 := ext_made hb1 hdb1 kk3
    refine ⟨by show 2 ≤ sizeLine; decide, fun pl hpl => fun q0 hq0 => ⟨by show 1 ≤ sizeLine; decide, fun l0 hl0 => fun q1 hq1 => ⟨by show 1 ≤ sizeLine; decide, fun l1 hl1 => ⟨by show 2 ≤ sizeLine; decide, fun bl hbl => ⟨_, _, _, rfl, ?_⟩⟩⟩⟩⟩
    have x1 := Ext.new hpl (.lst [.ref b0, .ref b1'])
    have x2 := Ext.new hq0 (.dK [])
    have x3 := Ext.new hl0 (.lst [.ref q0])
    have x4 := Ext.new hq1 (.dK [])
    have x5 := Ext.new hl1 (.lst [.ref q1])
    have x6 := Ext.new hbl (.lst [.ref l0, .ref l1])
    have y2 := x1.trans x2
    have y3 := y2.trans x3
    have y4 := y3.trans x4
    have y5 := y4.trans x5
    have y6 := y5.trans x6
    have e13 := e12.trans e23
    obtain ⟨fd_, md_, td_, hd1, _⟩ := id D1
    have nld := nd0 h0
    have st0 : St K _ d nl pl bl ns (fun j => if j = 0 then b0 else b1') (fun j => if j = 0 then l0 else l1) (fun _ => [([], [])]) 49 1 := {
      deck := (D1.ext (e13.trans y6)).mono (by decide)
      names := ⟨(e13.trans y6) _ _ hns.1, hns.2⟩
      nn := nn
      n4 := n4
      pair := (((x2.trans x3).trans (x4.trans x5)).trans x6) _ _ upd_same
      both := upd_same
      duo := fun j hj => by
        match j, hj with
        | 0, _ => exact ⟨(B2.ext (e23.trans y6)), ⟨[q0], ((x4.trans x5).trans x6) _ _ upd_same, .cons (((x3.trans x4).trans (x5.trans x6)) _ _ upd_same) .nil⟩, fun p hp => by rw [List.mem_singleton.mp hp]; exact page_nil, by simp⟩
        | 1, _ => exact ⟨(B3.ext y6), ⟨[q1], x6 _ _ upd_same, .cons ((x5.trans x6) _ _ upd_same) .nil⟩, fun p hp => by rw [List.mem_singleton.mp hp]; exact page_nil, by simp⟩
      len := fun _ _ => Nat.le_refl _
      bb := by
        obtain ⟨_, _, hh, _⟩ := B2.ex
        exact ne_of_none hh hb1
      nd := nld
      pd := (ne_of_none (e13 _ _ hd1) hpl).symm
      bd := (ne_of_none ((e13.trans y5) _ _ hd1) hbl).symm
      ld := fun j hj => by
        match j, hj with
        | 0, _ => exact (ne_of_none ((e13.trans y2) _ _ hd1) hl0).symm
        | 1, _ => exact (ne_of_none ((e13.trans y4) _ _ hd1) hl1).symm
      nb := ne_of_none ((e13.trans y5) _ _ hns.1) hbl
      pb := ne_of_none ((((x2.trans x3).trans x4).trans x5) _ _ upd_same) hbl
      lb := fun j hj => by
        match j, hj with
        | 0, _ => exact ne_of_none ((x4.trans x5) _ _ upd_same) hbl
        | 1, _ => exact ne_of_none upd_same hbl }
    have fresh : ∀ x, H1 x = none → x ≠ d → H x = none := fun x hx ne => by
      cases e : H x with
      | none => rfl
      | some o =>
        rw [e1 x o e ne] at hx
        cases hx
    have nbd0 : b0 ≠ d := (ne_of_none hd1 hb0).symm
    have nbd1 : b1' ≠ d := (ne_of_none (e12 _ _ hd1) hb1).symm
    have fb0 : H b0 = none := fresh b0 hb0 nbd0
    have fb1 : H b1' = none := fresh b1' (fresh_back e12 hb1) nbd1
    have fbl : H bl = none := fresh bl (fresh_back (e13.trans y5) hbl) st0.bd
    have e06 : But d H (upd (upd (upd (upd (upd (upd H3 pl (.lst [.ref b0, .ref b1'])) q0 (.dK [])) l0 (.lst [.ref q0])) q1 (.dK [])) l1 (.lst [.ref q1])) bl (.lst [.ref l0, .ref l1])) := fun x o e ne => (e13.trans y6) _ _ (e1 x o e ne)
    generalize upd (upd (upd (upd (upd (upd H3 pl (.lst [.ref b0, .ref b1'])) q0 (.dK [])) l0 (.lst [.ref q0])) q1 (.dK [])) l1 (.lst [.ref q1])) bl (.lst [.ref l0, .ref l1]) = H6 at st0 e06 ⊢
    have fB : ∀ j, j < 2 → H ((fun j => if j = 0 then b0 else b1') j) = none := fun j hj => by
      match j, hj with
      | 0, _ => exact fb0
      | 1, _ => exact fb1
    generalize (fun j => if j = 0 then b0 else b1') = B at st0 fB
    refine ⟨9, rfl, by decide, by decide, ?_⟩
    refine for_range (fun i σ H' => ∃ L PP t at_ od, St K H' d nl pl bl ns B L PP (49 + 7 * i) (1 + i) ∧ But d H H' ∧ σ = [some (.ref d), some (.ref nl), some (.ref pl), some (.ref bl), t, at_, od, none]) ⟨_, _, _, _, _, st0, e06, rfl⟩ ?_ ?_
    · rintro i σ H7 hi ⟨L, PP, t, at_, od0, st, e07, rfl⟩
      have hi9 : i < 9 := hi
      refine ⟨_, rfl, d, 2, 49 + 7 * i, rfl, st.deck, by omega, by decide, by decide, fun k H8 hk D8 e8 => ?_⟩
      have s8 := st.draw e8 D8
      refine ⟨_, rfl, d, 49 + 7 * i + 1, rfl, D8, by omega, fun od H9 ho D9 e9 => ⟨_, _, rfl, ?_⟩⟩
      have s9 := s8.draw e9 D9
      -- the turn
      refine ⟨_, rfl, _, rfl, _, rfl, pl, _, k, _, rfl, rfl, SqL.of s9.pair, atI_nat (two (f := fun j => V.ref (B j)) k hk), ?_⟩
      refine ⟨_, rfl, _, rfl, bl, _, k, _, rfl, rfl, SqL.of s9.both, atI_nat (two (f := fun j => V.ref (L j)) k hk), ?_⟩
      refine ⟨_, rfl, d, B k, L k, nl, 49 + 7 * i + 1 + 1, ns, PP k, rfl, D9, by omega, s9.duo k hk, by have := s9.len k hk; omega, s9.names, s9.nn, s9.n4, s9.ld k hk, s9.nd, fun l' H10 pp' hl' Du hp D10 k10 => ?_⟩
      obtain ⟨dxk, lk, hbk⟩ := s9.bat k hk
      have hbl10 := k10 _ _ s9.both s9.bd (ne_of s9.both hbk (by intro z; cases z))
      refine ⟨_, rfl, _, rfl, bl, _, k, k, rfl, rfl, hbl10, ?_, ?_⟩
      · match k, hk with
        | 0, _ => rfl
        | 1, _ => rfl
      have s11 := s9.turn k hk hl' Du hp D10 k10 _ rfl
      have e9_11 : ∀ x o, H8 x = none → H9 x = some o → x ≠ d → upd H10 bl (.lst ([.ref (L 0), .ref (L 1)].set k (.ref l'))) x = some o := fun x o hx hx9 nd' => by
        have n1 : x ≠ bl := (ne_of_none s8.both hx).symm
        have n2 : x ≠ B k := by
          obtain ⟨_, _, e⟩ := s8.bat k hk
          exact (ne_of_none e hx).symm
        rw [upd_ne n1]
        exact k10 _ _ hx9 nd' n2
      have d8 : ∀ x, H8 x = none → x ≠ d := fun x hx => by
        obtain ⟨_, _, _, hd, _⟩ := id s8.deck
        exact (ne_of_none hd hx).symm
      have e11 : But d H (upd H10 bl (.lst ([.ref (L 0), .ref (L 1)].set k (.ref l')))) := fun x o e ne => by
        rw [upd_ne (ne_of_none e fbl)]
        exact k10 _ _ (e9 _ _ (e8 _ _ (e07 x o e ne) ne) ne) ne (ne_of_none e (fB k hk))
      have ho11 := ho.far (F := upd H10 bl (.lst ([.ref (L 0), .ref (L 1)].set k (.ref l')))) fun x o hx hx9 => e9_11 x o hx hx9 (d8 x hx)
      generalize upd H10 bl (.lst ([.ref (L 0), .ref (L 1)].set k (.ref l'))) = H11 at s11 e11 ho11 ⊢
      generalize (fun i => if i = k then l' else L i) = L' at s11
      generalize (fun i => if i = k then pp' else PP i) = PP' at s11
      -- both[at] == []
      have Dk := s11.duo k hk
      obtain ⟨dsk, hlk, hpk⟩ := id Dk.pages
      have nek : (dsk.map V.ref).length ≠ ([] : List V).length := by
        rw [List.length_map, hpk.length, List.length_reverse, List.length_map]
        intro z
        exact Dk.ne (List.length_eq_zero_iff.mp z)
      refine ⟨_, rfl, _, rfl, bl, _, k, _, rfl, rfl, SqL.of s11.both, atI_nat (two (f := fun j => V.ref (L' j)) k hk), by show 0 ≤ sizeLine; decide, fun p0 hp0 => ?_⟩
      have x12 := Ext.new hp0 (.lst [])
      refine ⟨L' k, p0, _, [], rfl, rfl, SqL.of (x12 _ _ hlk), SqL.of upd_same, nek, _, rfl, iteF ?_⟩
      have s12 := s11.ext x12
      have ho12 := ho11.ext x12
      have e012 : But d H (upd H11 p0 (.lst [])) := e11.trans (x12.but d)
      generalize upd H11 p0 (.lst []) = H12 at s12 ho12 e012 ⊢
      -- what shows
      have shows : ∀ j, j < 2 → ∃ kb kl obs old, BookAt K H12 (B j) (kb :: obs) ∧ PagesAt H12 (L' j) (old ++ [kl]) ∧ old.length = obs.length ∧ obs.length < (PP' j).length ∧ Page K H12 ns kb kl := fun j hj => (s12.duo j hj).shows
      have tail : tIfS (tOr (tNot (tB (tCall (spShows K) [] E0 (tCons (tOp (rIxL K) (tVar 2) (tC (.int 0))) (tCons (tOp (rIxL K) (tVar 3) (tC (.int 0))) (tCons (tVar 1) tNil))))))
          (tNot (tB (tCall (spShows K) [] E0 (tCons (tOp (rIxL K) (tVar 2) (tC (.int 1))) (tCons (tOp (rIxL K) (tVar 3) (tC (.int 1))) (tCons (tVar 1) tNil))))))) tNever tNext
          { nx := fun σ H' => ∃ L PP t at_ od, St K H' d nl pl bl ns B L PP (49 + 7 * (i + 1)) (1 + (i + 1)) ∧ But d H H' ∧ σ = [some (.ref d), some (.ref nl), some (.ref pl), some (.ref bl), t, at_, od, none], rt := Q, bk := fun _ _ => False, ct := fun _ _ => False }
          [some (.ref d), some (.ref nl), some (.ref pl), some (.ref bl), some (.int (0 + (i : Int))), some (.int k), some od, none] H12 := by
        obtain ⟨kb, kl, obs, old, r1, r2, r3, r4, r5⟩ := shows 0 (by decide)
        have m0 := s12.len 0 (by decide)
        refine ⟨_, rfl, pl, _, 0, _, rfl, rfl, SqL.of s12.pair, rfl, _, rfl, bl, _, 0, _, rfl, rfl, SqL.of s12.both, rfl, _, rfl, B 0, L' 0, nl, ns, kb, kl, obs, old, rfl, r1, r2, r3, by omega, r5, s12.names, s12.n4, fun H13 e13' => ⟨_, rfl, iteF ?_⟩⟩
        have s13 := s12.ext e13'
        obtain ⟨kb, kl, obs, old, r1, r2, r3, r4, r5⟩ := (s13.duo 1 (by decide)).shows
        have m1 := s13.len 1 (by decide)
        refine ⟨_, rfl, pl, _, 1, _, rfl, rfl, SqL.of s13.pair, rfl, _, rfl, bl, _, 1, _, rfl, rfl, SqL.of s13.both, rfl, _, rfl, B 1, L' 1, nl, ns, kb, kl, obs, old, rfl, r1, r2, r3, by omega, r5, s13.names, s13.n4, fun H14 e14 => ⟨_, rfl, iteF ?_⟩⟩
        have s14 := s13.ext e14
        exact ⟨L', PP', _, _, _, { s14 with deck := s14.deck.mono (by omega), len := fun j hj => Nat.le_trans (s14.len j hj) (by omega) }, e012.trans ((e13'.trans e14).but d), rfl⟩
      rcases ho12.kit with ⟨x, rfl⟩ | ⟨ty, tyx, kit⟩
      · refine ⟨_, rfl, _, _, _, _, true, rfl, .ty _, .base (.str x), kit_ss, true, rfl, iteF (iteF tail)⟩
      · refine ⟨_, rfl, _, _, _, _, false, rfl, .ty _, tyx, kit, false, rfl, iteT ?_⟩
        obtain ⟨kb, kl, obs, old, r1, _⟩ := shows 0 (by decide)
        obtain ⟨dx0, lf0, hb0'⟩ := s12.bat 0 (by decide)
        refine ⟨_, rfl, _, rfl, pl, _, 0, _, rfl, rfl, SqL.of s12.pair, rfl, B 0, dx0, _, rfl, hb0', B 0, od, kb, obs, rfl, r1, .inr ⟨ty, tyx, kit, _, rfl, _, rfl, iteF ?_⟩⟩
        obtain ⟨kb, kl, obs, old, r1, _⟩ := shows 1 (by decide)
        obtain ⟨dx1, lf1, hb1'⟩ := s12.bat 1 (by decide)
        refine ⟨_, rfl, _, rfl, pl, _, 1, _, rfl, rfl, SqL.of s12.pair, rfl, B 1, dx1, _, rfl, hb1', B 1, od, kb, obs, rfl, r1, .inr ⟨ty, tyx, kit, _, rfl, _, rfl, iteF ?_⟩⟩
        exact tail
    · rintro σ H7 ⟨L, PP, t, at_, od0, st, e07, rfl⟩
      obtain ⟨dx0, lf0, h0'⟩ := st.bat 0 (by decide)
      obtain ⟨dx1, lf1, h1'⟩ := st.bat 1 (by decide)
      have p0 : atI [V.ref (B 0), V.ref (B 1)] 0 = some (.ref (B 0)) := rfl
      have p1 : atI [V.ref (B 0), V.ref (B 1)] 1 = some (.ref (B 1)) := rfl
      have c01 : (decide (B 0 = B 1) != false) = false := by rw [decide_eq_false st.bb]; rfl
      have n01 : (decide (B 0 = B 1) != true) = true := by rw [decide_eq_false st.bb]; rfl
      have c00 : (decide (B 0 = B 0) != false) = true := by rw [decide_eq_true rfl]; rfl
      -- told
      refine ⟨_, rfl, pl, _, 0, _, rfl, rfl, SqL.of st.pair, p0, _, rfl, pl, _, 1, _, rfl, rfl, SqL.of st.pair, p1, B 0, dx0, _, B 1, dx1, _, rfl, rfl, h0', h1', ?_⟩
      refine ⟨_, rfl, pl, _, 0, _, rfl, rfl, SqL.of st.pair, p0, _, rfl, pl, _, 1, _, rfl, rfl, SqL.of st.pair, p1, B 0, dx0, _, B 1, dx1, _, rfl, rfl, h0', h1', ?_⟩
      refine ⟨_, rfl, pl, _, 0, _, rfl, rfl, SqL.of st.pair, p0, _, rfl, pl, _, 0, _, rfl, rfl, SqL.of st.pair, p0, B 0, dx0, _, B 0, dx0, _, rfl, rfl, h0', h0', ?_⟩
      intro c0 dc0 hc0 hdc0 nc0
      refine ⟨c0, dc0, rfl, upd_same, fun H8 C8 kk8 => ⟨rfl, ?_⟩⟩
      have e78 := ext_made hc0 hdc0 kk8
      intro c1 dc1 hc1 hdc1 nc1
      refine ⟨c1, dc1, rfl, upd_same, fun H9 C9 kk9 => ⟨rfl, ?_⟩⟩
      have e89 := ext_made hc1 hdc1 kk9
      obtain ⟨dy0, ly0, g0, _⟩ := id C8.ex
      obtain ⟨dy1, ly1, g1, _⟩ := id C9.ex
      have cc : (decide (c0 = c1) != false) = false := by rw [decide_eq_false (ne_of_none g0 hc1)]; rfl
      refine ⟨c0, dy0, _, c1, dy1, _, rfl, rfl, e89 _ _ g0, g1, by show 4 ≤ sizeLine; decide, fun tl htl => ?_⟩
      have e79 := e78.trans e89
      have x10 := Ext.new htl (.lst [.bl (decide (B 0 = B 1) != false), .bl (decide (B 0 = B 1) != true), .bl (decide (B 0 = B 0) != false), .bl (decide (c0 = c1) != false)])
      have e710 := e79.trans x10
      have g10 : upd H9 tl (.lst [.bl (decide (B 0 = B 1) != false), .bl (decide (B 0 = B 1) != true), .bl (decide (B 0 = B 0) != false), .bl (decide (c0 = c1) != false)]) tl = some (.lst [.bl (decide (B 0 = B 1) != false), .bl (decide (B 0 = B 1) != true), .bl (decide (B 0 = B 0) != false), .bl (decide (c0 = c1) != false)]) := upd_same
      generalize upd H9 tl (.lst [.bl (decide (B 0 = B 1) != false), .bl (decide (B 0 = B 1) != true), .bl (decide (B 0 = B 0) != false), .bl (decide (c0 = c1) != false)]) = H10 at e710 g10 ⊢
      have q4 : four.shown.length ≤ sizeLine := Nat.le_trans (show four.shown.length ≤ 1000 by decide +kernel) (by decide)
      refine ⟨_, rfl, tl, four, rfl, dp_four g10 (by rw [c01, n01, c00, cc]), by rfl, by rfl, by decide, q4, ?_⟩
      refine ⟨by show 4 ≤ sizeLine; decide, fun tm htm => ?_⟩
      have x11 := Ext.new htm (.lst [.bl false, .bl true, .bl true, .bl false])
      refine ⟨tm, four, rfl, dp_four upd_same rfl, by rfl, by rfl, by decide, q4, rfl, _, rfl, ?_⟩
      rw [show (!decide (V.str four.shown = V.str four.shown)) = false by rw [decide_eq_true rfl]; rfl]
      refine iteF ?_
      have e711 := e710.trans x11
      generalize upd H10 tm (.lst [.bl false, .bl true, .bl true, .bl false]) = H11 at e711 ⊢
      have s11 := st.ext e711
      have h0'' := e711 _ _ h0'
      have h1'' := e711 _ _ h1'
      -- asked again
      refine ⟨_, rfl, pl, _, 0, _, rfl, rfl, SqL.of s11.pair, p0, _, rfl, pl, _, 1, _, rfl, rfl, SqL.of s11.pair, p1, B 0, dx0, _, B 1, dx1, _, rfl, rfl, h0'', h1'', _, rfl, ?_⟩
      rw [c01]
      refine iteF ?_
      refine ⟨_, rfl, pl, _, 0, _, rfl, rfl, SqL.of s11.pair, p0, _, rfl, pl, _, 1, _, rfl, rfl, SqL.of s11.pair, p1, B 0, dx0, _, B 1, dx1, _, rfl, rfl, h0'', h1'', _, rfl, ?_⟩
      rw [n01]
      refine iteF ?_
      intro c2 dc2 hc2 hdc2 nc2
      refine ⟨c2, dc2, rfl, upd_same, fun H12 C12 kk12 => ⟨rfl, ?_⟩⟩
      have e1112 := ext_made hc2 hdc2 kk12
      intro c3 dc3 hc3 hdc3 nc3
      refine ⟨c3, dc3, rfl, upd_same, fun H13 C13 kk13 => ⟨rfl, ?_⟩⟩
      have e1213 := ext_made hc3 hdc3 kk13
      obtain ⟨dy2, ly2, g2, _⟩ := id C12.ex
      obtain ⟨dy3, ly3, g3, _⟩ := id C13.ex
      refine ⟨c2, dy2, _, c3, dy3, _, rfl, rfl, e1213 _ _ g2, g3, _, rfl, ?_⟩
      rw [show (decide (c2 = c3) != false) = false by rw [decide_eq_false (ne_of_none g2 hc3)]; rfl]
      refine iteF ?_
      -- a new book shows nothing
      have e713 := (e711.trans e1112).trans e1213
      intro c4 dc4 hc4 hdc4 nc4
      refine ⟨c4, dc4, rfl, upd_same, fun H14 C14 kk14 => ⟨rfl, ?_⟩⟩
      have e1314 := ext_made hc4 hdc4 kk14
      refine fun p2 hp2 => ⟨by show 1 ≤ sizeLine; decide, fun p3 hp3 => ?_⟩
      have x14 := Ext.new hp2 (.dK [])
      have x15 := Ext.new hp3 (.lst [.ref p2])
      have g14 : upd (upd H14 p2 (.dK [])) p3 (.lst [.ref p2]) p2 = some (.dK []) := x15 _ _ upd_same
      have g15 : upd (upd H14 p2 (.dK [])) p3 (.lst [.ref p2]) p3 = some (.lst [.ref p2]) := upd_same
      have x1415 := x14.trans x15
      generalize upd (upd H14 p2 (.dK [])) p3 (.lst [.ref p2]) = H15 at g14 g15 x1415 ⊢
      have e715 := (e713.trans e1314).trans x1415
      have s15 := st.ext e715
      refine ⟨_, rfl, c4, p3, nl, ns, [], [], [], [], rfl, C14.ext x1415, ⟨[p2], g15, .cons g14 .nil⟩, rfl, by decide, page_nil, s15.names, s15.n4, fun H16 e16 => ⟨_, rfl, iteT ?_⟩⟩
      have s16 := s15.ext e16
      have e716 := e715.trans e16
      have no : ∀ j, j < 2 → ∀ x : Str, (¬ (1 ≤ x.length ∧ x.length ≤ 8)) → ∃ kb obs, BookAt K H16 (B j) (kb :: obs) ∧ (valV kb (.inr x)).isSome = false := fun j hj x hx => by
        obtain ⟨kb, kl, obs, old, r1, _, _, _, r5⟩ := (s16.duo j hj).shows
        refine ⟨kb, obs, r1, ?_⟩
        cases e : (valV kb (.inr x)).isSome with
        | false => rfl
        | true =>
          obtain ⟨kv, hkv, hk⟩ := List.mem_map.mp ((val_mem kb (.inr x)).mp e)
          obtain ⟨z, hz1, hz2⟩ := r5.b.2 kv hkv
          rw [hz1] at hk
          injection hk with hk
          exact (hx (hk ▸ (s16.names.2 z hz2).2)).elim
      obtain ⟨kb, obs, r1, r2⟩ := no 0 (by decide) "ninesigns" (by decide +kernel)
      refine ⟨_, rfl, pl, _, 0, _, rfl, rfl, SqL.of s16.pair, p0, B 0, dx0, _, rfl, e716 _ _ h0', B 0, .str "ninesigns", kb, obs, rfl, r1, .inl ⟨"ninesigns", rfl, _, rfl, ?_⟩⟩
      rw [r2]
      refine ⟨_, rfl, iteT ?_⟩
      obtain ⟨kb, obs, r1, r2⟩ := no 1 (by decide) "" (by decide +kernel)
      refine ⟨_, rfl, pl, _, 1, _, rfl, rfl, SqL.of s16.pair, p1, B 1, dx1, _, rfl, e716 _ _ h1', B 1, .str "", kb, obs, rfl, r1, .inl ⟨"", rfl, _, rfl, ?_⟩⟩
      rw [r2]
      exact q H16 (e07.trans (e716.but d))
end
end K62

set_option Elab.async false
set_option linter.all false
set_option maxRecDepth 100000
set_option maxHeartbeats 4000000
namespace K62
open PySem PySem.Spec PyProof.Rows L2 Bk Evl
section
variable {P : Program} {w : World} {K : PySem.W.Frag} {mg : Str → Option Value} {base : Heap}
theorem sql_at {H H' : Hp} {a : Addr} {xs : List V} (h : SqL K H a xs) (k : ∀ o, H a = some o → H' a = some o) : SqL K H' a xs := by
  rcases h with (h | ⟨o, h⟩) | h
  · exact .inl (.inl (k _ h))
  · exact .inl (.inr ⟨o, k _ h⟩)
  · exact .inr h
def spLaw (K : PySem.W.Frag) : Sp := fun vs H Q _ => ∃ (a : Addr) (ns : List Int), vs = [.ref a] ∧ SqL K H a (ns.map V.int) ∧ ns.length ≤ 1000 ∧ (∀ i ∈ ns, Builtin.Int.intBits i ≤ 1048576) ∧ ∀ H', Q (.bl true) H'
theorem sc_law : FnScope ["_law_cells", "_law_at"] ["_law_cells"] (defScope s_law) := ⟨rfl, rfl, rfl, by decide +kernel, rfl, by decide +kernel, by decide +kernel⟩
theorem ok_law (T : Txt K mg) : OkG P w K mg base 8 (He.ga K "law") ["_law_cells"] (spLaw K) := by
  obtain ⟨fd1, F1, b1, k1, _⟩ := (ok_deck (P := P) (w := w) (base := base) T).ex
  refine fd_okG T.f_law sc_law (fun vs H Q h => ?_) (fun _ _ _ _ _ _ us hl => match us, hl with | [_], _ => rfl) (fun cdv A outer s H vs Q hr hG h => ?_)
  · obtain ⟨a, ns, rfl, _⟩ := h
    rfl
  · obtain ⟨a, ns, rfl, hs, hz, hb, q⟩ := h
    have nd := sc_law.nd
    have hr1 : Room 1 _ := hr.mono (by decide)
    have hz' : (ns.map V.int).length = ns.length := List.length_map _
    refine ⟨_, pss_one (ps_ret (pe_callB (cr_all rfl) rfl T.z_all (by decide +kernel) (pa_cons
        (pe_lc (own := [("_law_at", 1)]) (g := gName 1) (tt := tYes) rfl nd (pi_range1 rfl T.z_range (pa_cons (pe_callB (call_max2 rfl) rfl T.z_max (by decide +kernel) (pa_cons pe_int (pa_cons (pe_callB (call_min2 rfl) rfl T.z_min (by decide +kernel) (pa_cons (pe_callB call_len_seq rfl T.z_len (by decide +kernel) (pa_cons (pv 0) pa_nil)) (pa_cons pe_int pa_nil))) pa_nil))) pa_nil))
          (blkOk_by (own := [("_law_at", 1)]) (N := ["_law_cells", "_law_at"]) (sc := defScope s_law) (by decide +kernel)) (fun _ _ _ _ _ => pg_name (i := 1) nd rfl (Or.inl rfl)) (fun _ _ _ _ _ => pts_nil)
          (fun _ _ _ _ _ => pe_callG (ok_right T) hr hG rfl T.g_ulaw_right (pa_cons (pe_call F1 hr1 rfl T.g_ulaw_deck k1 b1 .nil pass0 (pa_cons (pv 0) (pa_cons (pv 1) pa_nil))) pa_nil))) pa_nil))), ?_⟩
    refine ⟨_, rfl, a, _, rfl, .inl hs, _, _, rfl, _, _, rfl, _, rfl, ?_⟩
    rw [hz']
    generalize hj : (if (if (4 : Int) < (ns.length : Int) then (4 : Int) else (ns.length : Int)) > 2 then (if (4 : Int) < (ns.length : Int) then (4 : Int) else (ns.length : Int)) else 2) = j
    have hj4 : 2 ≤ j ∧ j ≤ 4 := by
      rw [← hj]
      split
      · split at * <;> omega
      · omega
    refine ⟨by omega, by omega, fun D hD => ?_⟩
    refine lc_range (lo := 0) (n := j.toNat) (fun i H' => H' D = some (.lst ((List.replicate i true).map V.bl)) ∧ ∀ o, H a = some o → H' a = some o) ⟨upd_same, fun o e => Ext.new hD _ _ _ e⟩ (fun i H1 hi p => ?_) (fun H1 p => ?_)
    · obtain ⟨p1, p2⟩ := p
      refine ⟨rfl, ?_⟩
      unfold tYes
      dsimp only
      rw [if_pos rfl]
      refine ⟨_, rfl, _, rfl, a, ns, i, by rw [Int.zero_add]; rfl, sql_at hs p2, hz, hb, by omega, fun d H2 h0 Dk e2 => ?_⟩
      refine ⟨d, rfl, Dk, fun H3 e3 => ?_⟩
      have nDd : D ≠ d := ne_of_none p1 h0
      have p13 := e3 _ _ (e2 _ _ p1) nDd
      refine ⟨_, p13, ?_, ?_, fun o e => ?_⟩
      · rw [List.length_map, List.length_replicate]
        exact Nat.lt_of_lt_of_le (show i < 1000 by omega) (by decide)
      · rw [upd_same, List.replicate_succ', List.map_append]
        rfl
      · have e1 := p2 o e
        rw [upd_ne (ne_of_none e hD)]
        exact e3 _ _ (e2 _ _ e1) (ne_of_none e1 h0)
    · obtain ⟨p1, p2⟩ := p
      refine ⟨D, _, rfl, SqL.of p1, ?_⟩
      have e : (List.replicate j.toNat true).all id = true := by simp
      rw [e]
      exact q H1
end
end K62

set_option Elab.async false
set_option linter.all false
set_option maxRecDepth 100000
set_option maxHeartbeats 0
open PySem PySem.W PySem.Calls PyProof.Rows
theorem K62.fa_eq {K : PySem.W.Frag} {mg : PySem.Str → Option PySem.Value} {fa : PySem.Addr} (T : K62.Txt K mg) (h : mg ("law" : PySem.Str) = some (.ref fa)) : He.ga K "law" = fa := by
  have z := T.g_law.symm.trans h
  injection z with z
  injection z
theorem PySem.Challenge.cw_unitpairs_k62_books_kept_holds : PySem.Challenge.rw_unitpairs_k62_books_kept.Holds := by
  w_on; o_law
  refine HandSHeadRun.head_any (r := OpenLaw.row PySem.Challenge.rw_unitpairs_k62_books_kept) (q := view (OpenLaw.row PySem.Challenge.rw_unitpairs_k62_books_kept).prog [110]) (H := K62.hk) (ob := K62.ob) (M := 20000) (loose := K62.ls) (d := HandSHeadRun.topDef (OpenLaw.row PySem.Challenge.rw_unitpairs_k62_books_kept).prog 110) (kwd := []) K62.ob_eq
    (by kernel_rfl) (fun s => by kernel_rfl) K62.run (by kernel_rfl) (by kernel_rfl) (by kernel_rfl) (by rfl) (by first | assumption | decide +kernel) (by decide +kernel) ⟨rfl, rfl, rfl, rfl, rfl, by decide +kernel⟩ ?hw ?hc
  case hw => w_witness2
  case hc =>
    refine Bk.walk_own (l := PySem.Challenge.rw_unitpairs_k62_books_kept) (n := 63) (k := 8) (x := "_law_cells") rfl (by decide) (by kernel_rfl) ⟨rfl, by decide, by decide⟩ ?F
    intro w mg fa h Y G hmg0
    obtain ⟨K, KX, c⟩ := Y
    have T := K62.Txt.of KX G c
    have hmg : mg ("law" : PySem.Str) = some (.ref fa) := by
      have e : (HandSHeadRun.topDef (OpenLaw.row PySem.Challenge.rw_unitpairs_k62_books_kept).prog 110).name = ("law" : PySem.Str) := by kernel_rfl
      rw [← e]
      exact hmg0
    have hfa : He.ga K "law" = fa := K62.fa_eq T hmg
    clear hmg hmg0
    refine ⟨K, K62.spLaw K, KX, fun H a ns hl hb hS => ⟨a, ns, rfl, hS, Nat.le_trans hl (by decide), hb, fun _ => rfl⟩, fun base _ _ => ?_⟩
    rw [← hfa]
    exact K62.ok_law T
