import PyProof.Rows.All
import Wide.All
import OpenK.AllK
import Wide.FinOn
import HandS.ForMost
import HandS.Defaults
import HandS.Property
import HandS.IsInst
import HandS.HeadHook1
import HandS.HeadHook2
import HandS.HeadEnd
import PyProof.ReprRoads
import HandS.EndBits
import HandS.WideBits
import KE.GoesEnum
import KE.GoesMore
import PyProof.DictUpdate
import KE.KDictLaw
import HandS.More
import HandS.Small
import PyProof.Rows.Range3
import KE.KCallOwn
import HandS.DictTup
import HandS.SortOrd
import HandS.ListItems
import HandS.Conv
import KE.KDictPairs
import HandS.WordsDict
import HandS.DictComp
import HandS.WrittenGet
import HandS.SetFor
import HandS.Strs
import HandS.SortInts
import HandS.TupAny
import HandS.Style
import PyProof.EqKinds
import KE.KEqDict
import HandS.Star
import KE.KStateDown
import HandS.Base
import HandS.Call
import HandS.Ends
import HandS.Words
import HandS.Head0
import HandS.Head1
import HandS.Head2
import PySem.Challenge.RW_unitpairs_k75_papers_of_rules_apart_judg
import HandS.HeadHook3
import HandS.Evl
import HandS.StrMore
import HandS.FStr
import HandS.Codes
import HandS.NoneIn
import HandS.Walk
import HandS.Text
import HandS.Deep
import HandS.Exc
set_option Elab.async false
set_option linter.all false
set_option maxRecDepth 100000
set_option maxHeartbeats 2000000
/-! Own layer 1: a def's promise in one bundle; operators that an own class defines, over the hand layer. -/
namespace Bk
open PySem PySem.Spec PyProof.Rows L2

/-- a def that keeps a promise, all its parameters given by place -/
structure Ok (P : Program) (w : World) (K : PySem.W.Frag) (mg : Str → Option Value) (base : Heap) (k : Nat) (f : Addr) (ps : List Str) (sp : Sp) : Prop where
  ex : ∃ fd, FnOk P w K mg base CX0 k f fd ps sp ∧ Binds K fd ps [] ∧ PySem.W.keepIn K (.ref f) = true ∧ PySem.W.fnIn K f = true

section
variable {P : Program} {w : World} {K : PySem.W.Frag} {mg : Str → Option Value} {base : Heap} {k : Nat} {f : Addr} {ps : List Str} {sp : Sp}
theorem Ok.mono {j : Nat} (o : Ok P w K mg base j f ps sp) (h : j ≤ k) : Ok P w K mg base k f ps sp :=
  let ⟨fd, a, b, c⟩ := o.ex
  ⟨fd, a.mono h, b, c⟩
theorem Ok.imp {sp' : Sp} (o : Ok P w K mg base k f ps sp) (h : ∀ vs H Q E, sp' vs H Q E → sp vs H Q E) : Ok P w K mg base k f ps sp' :=
  let ⟨fd, a, b, c⟩ := o.ex
  ⟨fd, a.imp h, b, c⟩
end

theorem fnIn_of {K : PySem.W.Frag} {x qual : Str} {params : Arguments} {body : List Stmt} {scope : Scope} {dvs : List V} {kws : List (Str × V)} {f : Addr} {fd : FuncData} (F : FunD K x qual params body scope dvs kws f fd) : PySem.W.fnIn K f = true := by
  obtain ⟨_, _, _, _, _, _, _, _, _, _, _, lk, _⟩ := F.ex
  unfold PySem.W.fnIn
  rw [lk]
/-- bindings of a def without defaults; h: one pattern a parameter -/
theorem fd_ok {P : Program} {w : World} {K : PySem.W.Frag} {mg : Str → Option Value} {base : Heap} {x qual : Str} {params : Arguments} {body : List Stmt} {scope : Scope} {f : Addr} {N ps : List Str} {k : Nat} {sp : Sp}
    (F : ∃ fd, FunD K x qual params body scope [] [] f fd) (S : FnScope N ps scope) (len : ∀ vs H Q E, sp vs H Q E → vs.length = ps.length)
    (hb : ∀ (kV doc pm : Value) (an : Option Addr) (cdv ct : Value) (us : List Value), us.length = ps.length → bindArgs (PySem.W.fnOf x qual params body scope .none kV doc pm an cdv ct) ⟨us, []⟩ = pure (ps.zip us))
    (hbody : ∀ (cdv : Value) (A : Around) (outer : List Env) (s : Shared) (H : Hp) (vs : List V) (Q : VK) (E : XK), Room k (A.deeper (envOfC qual scope s.heap.objs.size f cdv)) → sp vs H Q E →
      ∃ t, PSs (cxOf CX0 P w K mg base N qual scope f cdv A outer s H E).nox body t ∧ t { nx := fun _ H' => Q .non H', rt := Q } (start N vs) H) : Ok P w K mg base (k + 1) f ps sp := by
  obtain ⟨fd, F⟩ := F
  exact ⟨fd, F.ok S len fun cdv A outer s H vs Q E hr h => let ⟨t, a, b⟩ := hbody cdv A outer s H vs Q E hr h; ⟨t, a.nox, b⟩, F.bindsN hb, F.kp, fnIn_of F⟩

theorem rrf (a : Addr) : RelV (.ref a) (.ref a) := rfl
/-! ### what an own class defines for an operator -/
section
variable {X : Cx} {k : Nat} {f C : Addr} {ps : List Str} {sp : Sp}
/-- the def is run beside the body X, one unit deeper or not -/
theorem run_own {A : Around} {pins : List (Addr × Obj)} {σ : L2.St} {H : Hp} {s : Shared} {Q : VK} {E' : Value → Shared → Prop} {us : List Value} {vs : List V} (F : Ok X.prog X.w X.K X.mg X.base k f ps sp) (hr : Room k A) (ef : A.frames = X.A.frames)
    (I : L2.Inv X pins σ H s) (r : Vals vs us) (h : sp vs H Q E0) : wpAny (model X.prog X.w) A (call (.ref f) us) (EP X pins σ Q) E' s := by
  obtain ⟨fd, F, b, _⟩ := F.ex
  have hl : us.length = ps.length := by rw [← r.length]; exact F.len _ _ _ _ h
  have e0 : Env0 X.prog X.w X.K X.mg X.base A X.stack s H := by
    have z := I.env0
    exact ⟨ef.trans z.frames, z.mod, z.bs, z.bsz, z.funs, z.frf, z.hok, z.bare⟩
  have hb := b s us I.kIn (by rw [List.append_nil]; exact hl)
  rw [List.append_nil] at hb
  refine wpAny_call (codeAny_mono (F.run A X.stack s H ⟨us, []⟩ us vs Q E0 hr e0 hb r h) fun q s' hq => ?_)
  cases q with
  | error e => exact False.elim hq
  | ok fl =>
    cases fl with
    | ret u => exact I.after hq
    | next => exact False.elim hq
    | brk => exact False.elim hq
    | cont => exact False.elim hq
theorem at_ins {pins : List (Addr × Obj)} {σ : L2.St} {H : Hp} {s : Shared} {a dx : Addr} {fs : List (Str × V)} (I : L2.Inv X pins σ H s) (h : H a = some (.ins C dx fs)) : ∃ ox od, PySem.W.InstAt s.heap a ox C od := by
  obtain ⟨mA, J, _⟩ := ins_get I.hok h
  obtain ⟨od, J, _⟩ := J.look
  exact ⟨_, _, J⟩
/-- x in o, by the class's own __contains__ -/
def rInO (C : Addr) (sp : Sp) (neg : Bool) : R2 := fun x y H Q => ∃ a dx fs, y = .ref a ∧ H a = some (.ins C dx fs) ∧ sp [.ref a, x] H (fun v H' => ∃ b : Bool, v = .bl b ∧ Q (.bl (b != neg)) H') E0
theorem op_inO (m : Meth X.K C "__contains__" f) (F : Ok X.prog X.w X.K X.mg X.base k f ps sp) (hr : Room k X.A) : OpR X (compareOp .In) (rInO C sp false) := by
  intro pins s σ H x y v u Q I rx ry h
  obtain ⟨a, dx, fs, rfl, ha, h⟩ := h
  cases (show u = Value.ref a from ry)
  obtain ⟨ox, od, J⟩ := at_ins I ha
  obtain ⟨_, hF⟩ := I.fr
  refine PySem.W.in_K hF I.ok.mod.kin J m.at_ m.fn (thn (run_own F hr rfl I (.cons (rrf _) (.cons rx .nil)) h) fun r s' (z : EP X _ _ _ r s') => ?_)
  obtain ⟨w', H', I', rw', b, rfl, q⟩ := z
  cases (show r = Value.bool b from rw')
  refine wpAny_truthy_bool ⟨.bl b, H', I', rfl, ?_⟩
  rw [show (b != false) = b by cases b <;> rfl] at q
  exact q
theorem op_notInO (m : Meth X.K C "__contains__" f) (F : Ok X.prog X.w X.K X.mg X.base k f ps sp) (hr : Room k X.A) : OpR X (compareOp .NotIn) (rInO C sp true) := by
  intro pins s σ H x y v u Q I rx ry h
  obtain ⟨a, dx, fs, rfl, ha, h⟩ := h
  cases (show u = Value.ref a from ry)
  obtain ⟨ox, od, J⟩ := at_ins I ha
  obtain ⟨_, hF⟩ := I.fr
  refine PySem.W.notIn_K hF I.ok.mod.kin J m.at_ m.fn (thn (run_own F hr rfl I (.cons (rrf _) (.cons rx .nil)) h) fun r s' (z : EP X _ _ _ r s') => ?_)
  obtain ⟨w', H', I', rw', b, rfl, q⟩ := z
  cases (show r = Value.bool b from rw')
  refine wpAny_truthy_bool ⟨.bl (!b), H', I', rfl, ?_⟩
  rw [show (b != true) = !b by cases b <;> rfl] at q
  exact q
/-- o[i], by the class's own __getitem__ -/
def rIxO (C : Addr) (sp : Sp) : R2 := fun x y H Q => ∃ a dx fs, x = .ref a ∧ H a = some (.ins C dx fs) ∧ sp [.ref a, y] H Q E0
def SubOwn (b : Expr) : Prop := ∀ (x : Addr) (i : Value), subscripted b true (.ref x) i = runValue (.builtin "lifetime.subscript" ⟨[.ref x, i], []⟩)
theorem pe_ixO {a b : Expr} {ta tb : TE} {pos : Pos} (m : Meth X.K C "__getitem__" f) (F : Ok X.prog X.w X.K X.mg X.base k f ps sp) (hr : Room (k + 1) X.A) (ha : PE X a ta) (hb : PE X b tb) (hs : SubOwn b) : PE X (.Subscript a b pos) (tOp (rIxO C sp) ta tb) := by
  refine ⟨fun pins s σ H Q I h => ?_⟩
  refine Subscript_ (binT ha hb I h fun v u s2 x y H2 I2 rx ry q => ?_)
  obtain ⟨p, dx, fs, rfl, hp, q⟩ := q
  cases (show v = Value.ref p from rx)
  obtain ⟨ox, od, J⟩ := at_ins I2 hp
  obtain ⟨_, hF⟩ := I2.fr
  have hfn : PySem.W.fnIn X.K f = true := let ⟨_, _, _, _, z⟩ := F.ex; z
  exact PySem.W.sub_K hF I2.ok.mod.kin J m.at_ hfn m.fn (run_own F hr.in1 rfl I2 (.cons (rrf _) (.cons ry .nil)) q) (hs _ _)
/-- o[i] = v, by the class's own __setitem__ -/
def rSetO (C : Addr) (sp : Sp) : TSet := fun o i v H Q => ∃ a dx fs, o = .ref a ∧ H a = some (.ins C dx fs) ∧ sp [.ref a, i, v] H (fun _ H' => Q H') E0
theorem set_own (m : Meth X.K C "__setitem__" f) (ns : PySem.W.noSeq X.K C = true) (F : Ok X.prog X.w X.K X.mg X.base k f ps sp) (hr : Room k X.A) : PSet X (rSetO C sp) := by
  intro pins s σ H o i v ov iv u Q I ro ri rv h
  obtain ⟨a, dx, fs, rfl, ha, h⟩ := h
  cases (show ov = Value.ref a from ro)
  obtain ⟨ox, od, J⟩ := at_ins I ha
  obtain ⟨_, hF⟩ := I.fr
  refine PySem.W.ksp_setItem hF I.ok.mod.kin J ns m.at_ m.fn (thn (run_own F hr rfl I (.cons (rrf _) (.cons ri (.cons rv .nil))) h) fun r s' (z : EP X _ _ _ r s') => ?_)
  obtain ⟨_, H', I', _, q⟩ := z
  exact ⟨H', I', q⟩
/-- len(o), by the class's own __len__ -/
def rLenO (C : Addr) (sp : Sp) : List V → Hp → VK → Prop := fun xs H Q => ∃ a dx fs, xs = [.ref a] ∧ H a = some (.ins C dx fs) ∧ sp [.ref a] H (fun v H' => ∃ n : Int, v = .int n ∧ (0 ≤ n ∧ n < 2 ^ 63) ∧ Q (.int n) H') E0
theorem call_lenO (m : Meth X.K C "__len__" f) (F : Ok X.prog X.w X.K X.mg X.base k f ps sp) (hr : Room (k + 1) X.A) : CallR X (.builtin "len") (rLenO C sp) := by
  intro pins s σ H xs us Q I r h
  obtain ⟨a, dx, fs, rfl, ha, h⟩ := h
  obtain ⟨u, rfl, ru⟩ := vals1 r
  cases (show u = Value.ref a from ru)
  obtain ⟨ox, od, J⟩ := at_ins I ha
  obtain ⟨_, hF⟩ := I.fr
  refine PySem.W.len_K hF I.ok.mod.kin J m.at_ m.fn (thn (run_own F hr.in1 rfl I (.cons (rrf _) .nil) h) fun r s' (z : EP X _ _ _ r s') => ?_)
  obtain ⟨w', H', I', rw', n, rfl, b, q⟩ := z
  obtain ⟨t, rfl⟩ := (show ∃ t, r = Value.int n t from rw')
  exact ⟨b, .int n, H', I'.tok _, ⟨_, rfl⟩, q⟩
end
end Bk

set_option Elab.async false
set_option linter.all false
set_option maxRecDepth 100000
set_option maxHeartbeats 2000000
/-! Own layer 2: defs that are run where no repr is under way; repr of data; the law's end for such a def. -/
namespace Bk
open PySem PySem.Spec PyProof.Rows L2

/-- as Ok, promised only where no repr runs around -/
structure OkG (P : Program) (w : World) (K : PySem.W.Frag) (mg : Str → Option Value) (base : Heap) (k : Nat) (f : Addr) (ps : List Str) (sp : Sp) : Prop where
  kp : PySem.W.keepIn K (.ref f) = true
  len : ∀ vs H Q, sp vs H Q E0 → vs.length = ps.length
  go : ∀ (A : Around) (outer : List Env) (s : Shared) (H : Hp) (us : List Value) (vs : List V) (Q : VK), Room k A → A.guards = some [] → Env0 P w K mg base A outer s H → Vals vs us → sp vs H Q E0 →
    codeAny (model P w) A (.call (.ref f) ⟨us, []⟩) (CR CX0 outer P w H s Q E0) s
theorem Ok.g {P : Program} {w : World} {K : PySem.W.Frag} {mg : Str → Option Value} {base : Heap} {k : Nat} {f : Addr} {ps : List Str} {sp : Sp} (o : Ok P w K mg base k f ps sp) : OkG P w K mg base k f ps sp := by
  obtain ⟨fd, F, b, kp, _⟩ := o.ex
  refine ⟨kp, fun vs H Q h => F.len _ _ _ _ h, fun A outer s H us vs Q hr _ e0 r h => ?_⟩
  have KX : K.In s.heap := e0.mod.kin.keeps fun b o e => (e0.bs b o e).1
  have hb := b s us KX (by rw [List.append_nil, ← r.length]; exact F.len _ _ _ _ h)
  rw [List.append_nil] at hb
  exact F.run A outer s H ⟨us, []⟩ us vs Q E0 hr e0 hb r h
theorem fd_okG {P : Program} {w : World} {K : PySem.W.Frag} {mg : Str → Option Value} {base : Heap} {x qual : Str} {params : Arguments} {body : List Stmt} {scope : Scope} {f : Addr} {N ps : List Str} {k : Nat} {sp : Sp}
    (F : ∃ fd, FunD K x qual params body scope [] [] f fd) (S : FnScope N ps scope) (len : ∀ vs H Q, sp vs H Q E0 → vs.length = ps.length)
    (hb : ∀ (kV doc pm : Value) (an : Option Addr) (cdv ct : Value) (us : List Value), us.length = ps.length → bindArgs (PySem.W.fnOf x qual params body scope .none kV doc pm an cdv ct) ⟨us, []⟩ = pure (ps.zip us))
    (hbody : ∀ (cdv : Value) (A : Around) (outer : List Env) (s : Shared) (H : Hp) (vs : List V) (Q : VK), Room k (A.deeper (envOfC qual scope s.heap.objs.size f cdv)) → A.guards = some [] → sp vs H Q E0 →
      ∃ t, PSs (cxOf CX0 P w K mg base N qual scope f cdv A outer s H E0).nox body t ∧ t { nx := fun _ H' => Q .non H', rt := Q } (start N vs) H) : OkG P w K mg base (k + 1) f ps sp := by
  obtain ⟨fd, F⟩ := F
  refine ⟨F.kp, len, fun A outer s H us vs Q hr hG e0 r hsp => ?_⟩
  have hl := len _ _ _ hsp
  have bind : BindsTo s fd ⟨us, []⟩ (ps.zip us) := F.bindsA hb s us (by rw [← r.length]; exact hl)
  obtain ⟨oc, od, dV, kV, doc, pm, an, cdv, ct, osl, rfl, lk, hcd, _, _⟩ := F.ex
  have KX : K.In s.heap := e0.mod.kin.keeps fun b o e => (e0.bs b o e).1
  have lim : s.heap.NoLimit := e0.mod.nolimit.keeps fun b o e => (e0.bs b o e).1
  refine codeAny_call_function hr.depth (KX _ _ lk) rfl S.co S.gen rfl (PySem.W.codeRec_of KX hcd) (bind _ _ _ _ (wpAny_newFunctionEnv_cells S.kind (fun ⟨n, v⟩ hy => ?_) fun env he s1 x => ?_))
  · refine (S.par n (List.of_mem_zip hy).1).imp id fun q => ⟨q, PySem.W.cellsFrom_some _ _ _ (.inl q)⟩
  · subst he
    obtain ⟨t, ht, hq⟩ := hbody cdv A outer s H vs Q (hr.deeper _) hG hsp
    have I : L2.Inv (cxOf CX0 P w K mg base N qual scope f cdv A outer s H E0) [] (start N vs) H s1 := inv_start S hr.hd e0 hl r x
    refine ⟨lim.keeps x.toInCall.keep, codeAny_func (wpAny_mono (ht.nox.run [] s1 (start N vs) H _ I hq) (fun fl s' hs => ?_) fun e s' hs => hs)⟩
    cases fl with
    | ret u =>
      obtain ⟨v, _, H', J, rv, q⟩ := hs
      exact ⟨v, H', J.os, J.bare, J.base, J.hok, rv, q⟩
    | next =>
      obtain ⟨_, H', J, q⟩ := hs
      exact ⟨V.non, H', J.os, J.bare, J.base, J.hok, rfl, q⟩
    | brk => exact hs.elim fun _ z => z.elim fun _ z => z.2.elim
    | cont => exact hs.elim fun _ z => z.elim fun _ z => z.2.elim
section
variable {X : Cx} {k : Nat} {f C : Addr} {ps : List Str} {sp : Sp} {x m : Str} {p pos apos : Pos} {e o : Expr} {es : List Expr} {ta : TE} {t : TA}
theorem run_g {pins : List (Addr × Obj)} {σ : L2.St} {H : Hp} {s : Shared} {Q : VK} {us : List Value} {vs : List V} (F : OkG X.prog X.w X.K X.mg X.base k f ps sp) (hr : Room k X.A) (hG : X.A.guards = some [])
    (I : L2.Inv X pins σ H s) (r : Vals vs us) (h : sp vs H Q E0) : wpAny (model X.prog X.w) X.A (call (.ref f) us) (EP X pins σ Q) X.xe s := by
  refine wpAny_call (codeAny_mono (F.go X.A X.stack s H us vs Q hr hG I.env0 r h) fun q s' hq => ?_)
  cases q with
  | error e => exact False.elim hq
  | ok fl =>
    cases fl with
    | ret u => exact I.after hq
    | next => exact False.elim hq
    | brk => exact False.elim hq
    | cont => exact False.elim hq
/-- f(e, ..) of such a def -/
theorem pe_callG (F : OkG X.prog X.w X.K X.mg X.base k f ps sp) (hr : Room k X.A) (hG : X.A.guards = some []) (hg : Gl X x) (hm : X.mg x = some (.ref f)) (ha : PA X (e :: es) t)
    (hdb : (x == ("__debug__" : Str)) = false := by decide) (he : starEach (e :: es) X.env = (false, eval e X.env) :: starEach es X.env := by rfl) (hpl : (backTo pos (starEach es X.env)).any (·.1) = false := by rfl) :
    PE X (.Call (.Name x p) (e :: es) [] pos) (tCall sp [] E0 t) := by
  refine ⟨fun pins s σ H Q I h => wpAny_Call_Name_kw (ld_glob I hg hm ?_ hdb)⟩
  refine PySem.W.callWith_K (h₀ := X.base) I.ok.mod.kin F.kp (thn (ha.run pos pins s σ H _ I h) fun us s1 ⟨vs, H1, I1, r, q⟩ => ⟨I1.kIn, run_g F hr hG I1 r ?_⟩) he hpl
  have q2 : sp (vs ++ []) H1 Q E0 := q
  rw [List.append_nil] at q2
  exact q2
end

/-! ### repr of data -/
/-- repr(x), x None, a bool, an int, a text, or lists and tuples of these -/
def rRepr (K : PySem.W.Frag) : List V → Hp → VK → Prop := fun xs H Q => ∃ (a : Addr) (d : PyData), xs = [.ref a] ∧ Dp K H (.ref a) d ∧ d.showable = true ∧ d.hasDict = false ∧ d.depth ≤ 60 ∧ d.shown.length ≤ sizeLine ∧ Q (.str d.shown) H
theorem call_repr {X : Cx} {k : Nat} (hr : Room k X.A) (hG : X.A.guards = some []) : CallR X (.builtin "repr") (rRepr X.K) := by
  intro pins s σ H xs us Q I r h
  obtain ⟨a, d, rfl, hd, h1, h2, h3, h4, q⟩ := h
  obtain ⟨u, rfl, ru⟩ := vals1 r
  cases (show u = Value.ref a from ru)
  obtain ⟨as, R⟩ := Dp.reads I d _ _ hd ru
  refine repr_of_reads' R h1 (PyData.noDict_hsm h2) hG (by have := hr.units; omega) (fun _ _ e => e) (fun h' u tk hk => ?_) h4
  exact ⟨.str d.shown, H, I.kept (h' := h') hk, ⟨_, rfl⟩, q⟩
end Bk

set_option Elab.async false
set_option linter.all false
set_option maxRecDepth 100000
set_option maxHeartbeats 2000000
/-! Own layer 3: the end of a law whose defs ask that no repr is under way; products of very great ints. -/
namespace Bk
open PySem PySem.Spec PyProof.Rows L2

/-- the law's def, called by the outside: from an abstract heap that knows the script alone -/
theorem end_from {P : Program} {w : World} {K : PySem.W.Frag} {mg mb : Str → Option Value} {k : Nat} {fa a : Addr} {x : Str} {sp : Sp} {s1 : Shared} {vs : List Value} {ns : List Int} {H : Hp}
    (KX : K.In s1.heap) (hns : s1.heap.Ns mainGlobals mg) (hb : s1.heap.Ns builtinsNs mb) (hbb : ∀ x : Str, x ≠ "__name__" → mb x = bootBuiltins x) (lim : s1.heap.NoLimit) (hg : s1.gens = #[])
    (ha : s1.heap.get? a = some { cls := .type "list", data := .seq vs.toArray }) (hr : Room k callerA)
    (F : ∀ base : Heap, K.In base → base.Ns mainGlobals mg → OkG P w K mg base k fa [x] sp) (hO : Only H) (hok : HOk P w H s1.heap) (one : ∀ b, H b ≠ none → b = a) (hK : H a ≠ none → K.lookup a = none)
    (hsp : sp [.ref a] H (fun v _ => v = .bl true) E0) :
    codeAny (model P w) callerA (.call (.ref fa) ⟨[.ref a], []⟩) (fun r s' => r = .ok (.ret (.bool true)) ∧ OldK s1.heap s'.heap ∧ s'.os = s1.os ∧ AllBare s'.gens) s1 := by
  have none_of : ∀ b : Addr, (H b ≠ none → False) → H b = none := fun b h => by
    cases q : H b with
    | none => rfl
    | some u => exact (h (by rw [q]; simp)).elim
  -- what is no list stands in the hidden heap, too
  have ns_hid : ∀ {b : Addr} {m : Str → Option Value}, s1.heap.Ns b m → (hidT s1.heap H).Ns b m := by
    rintro b m ⟨o, es, ep, e, d, r⟩
    refine ⟨o, es, ep, hidT_get e (none_of b fun q => ?_), d, r⟩
    rw [one b q, ha] at e
    cases e
    cases (show Data.seq vs.toArray _ = Data.dict es ep from d)
  have k_hid : K.In (hidT s1.heap H) := fun b o e => hidT_get (KX b o e) (none_of b fun q => by
    have eb := one b q
    rw [eb, hK (eb ▸ q)] at e
    cases e)
  have hM : Mod K mg (hidT s1.heap H) := ⟨k_hid, ns_hid hns, ⟨mb, ns_hid hb, hbb⟩, lim.elim fun mc z => ⟨mc, ns_hid z.1, z.2⟩⟩
  have e0 : Env0 P w K mg (hidT s1.heap H) callerA [] s1 H := ⟨rfl, hM, fun b o e => of_hidT e, Nat.le_of_eq (hidT_size _ _), trivial, fun b hb => (by simp [frs] at hb), hok, .of_eq hg⟩
  refine codeAny_mono ((F _ k_hid (ns_hid hns)).go callerA [] s1 H [.ref a] [.ref a] _ hr rfl e0 (.cons (rrf a) .nil) hsp) fun r s' h => ?_
  cases r with
  | error e => exact False.elim h
  | ok fl =>
    cases fl with
    | next => exact False.elim h
    | brk => exact False.elim h
    | cont => exact False.elim h
    | ret u =>
      obtain ⟨v, H', os, bare, un, hok', rv, q⟩ := h
      rw [show v = V.bl true from q] at rv
      cases (show u = Value.bool true from rv)
      refine ⟨rfl, OldK.of_keep fun b o e => ?_, os, bare⟩
      rcases hO b with z | ⟨ob, xs, z⟩
      · exact un.keep b o e z (by simp [frs]) (by simp)
      · rw [(hok b _ z).1] at e
        cases e
        exact (hok' b _ (un.frzs b _ _ z)).1
/-- the same, whatever the script is -/
theorem end_call {P : Program} {w : World} {K : PySem.W.Frag} {mg mb : Str → Option Value} {k : Nat} {fa a : Addr} {x : Str} {sp : Sp} {s1 : Shared} {vs : List Value} {ns : List Int}
    (KX : K.In s1.heap) (hns : s1.heap.Ns mainGlobals mg) (hb : s1.heap.Ns builtinsNs mb) (hbb : ∀ x : Str, x ≠ "__name__" → mb x = bootBuiltins x) (lim : s1.heap.NoLimit) (hg : s1.gens = #[])
    (ha : s1.heap.get? a = some { cls := .type "list", data := .seq vs.toArray }) (hi : IntsAre vs ns) (hl : ns.length ≤ sizeLine) (hr : Room k callerA)
    (F : ∀ base : Heap, K.In base → base.Ns mainGlobals mg → OkG P w K mg base k fa [x] sp)
    (hsp : ∀ H : Hp, SqL K H a (ns.map V.int) → sp [.ref a] H (fun v _ => v = .bl true) E0) :
    codeAny (model P w) callerA (.call (.ref fa) ⟨[.ref a], []⟩) (fun r s' => r = .ok (.ret (.bool true)) ∧ OldK s1.heap s'.heap ∧ s'.os = s1.os ∧ AllBare s'.gens) s1 := by
  have rv := vals_ints hi
  cases hk : K.lookup a with
  | some o =>
    have e := KX a o hk
    rw [ha] at e
    cases e
    refine end_from (ns := ns) (H := fun _ => none) KX hns hb hbb lim hg ha hr F (fun _ => .inl rfl) (fun b u z => nomatch z) (fun b z => absurd rfl z) (fun z => absurd rfl z) (hsp _ (.inr ⟨_, vs.toArray, _, hk, rfl, rfl, rfl, ?_, by simpa using rv⟩))
    rw [List.size_toArray, hi.length]
    exact hl
  | none =>
    let o1 : Obj := { cls := .type "list", data := .seq vs.toArray }
    refine end_from (ns := ns) (H := upd (fun _ => none) a (.frz o1 (.lst (ns.map V.int)))) KX hns hb hbb lim hg ha hr F (fun b => ?_) (fun b u z => ?_) (fun b z => ?_) (fun _ => hk) (hsp _ (.inl (.inr ⟨o1, upd_same⟩)))
    · by_cases e : b = a
      · exact .inr ⟨o1, _, by rw [e]; exact upd_same⟩
      · exact .inl (upd_ne e)
    · by_cases e : b = a
      · subst e
        rw [upd_same] at z
        cases z
        exact ⟨ha, by rw [List.length_map]; exact hl, vs, _, rv, ha⟩
      · rw [upd_ne e] at z
        cases z
    · by_cases e : b = a
      · exact e
      · exact absurd (upd_ne e) z
/-- a law's end: F gives what the top has left, the promise, the def over every base -/
theorem walk_own {l : PySem.W.OpenLaw} {n k : Nat} {q : Program} {loose : List Str} {XP : (Str → Option Value) → Heap → Prop} {YP : World → Heap → Prop} {d : DefRec} {x : Str}
    (hn : l.most = some n) (hn2 : n ≤ sizeLine) (hdf : d.params.defaults = []) (hr : Room k callerA)
    (F : ∀ (w : World) (mg : Str → Option Value) (fa : Addr) (h : Heap), YP w h → h.Ns mainGlobals mg → mg d.name = some (.ref fa) → ∃ (K : PySem.W.Frag) (sp : Sp), K.In h ∧
      (∀ (H : Hp) (a : Addr) (ns : List Int), ns.length ≤ n → (∀ i ∈ ns, Builtin.Int.intBits i ≤ 1048576) → SqL K H a (ns.map V.int) → sp [.ref a] H (fun v _ => v = .bl true) E0) ∧
      ∀ base : Heap, K.In base → base.Ns mainGlobals mg → OkG l.prog w K mg base k fa [x] sp) :
    PySem.W.WalkO q loose XP YP l.row.toRowW d [] (fun f vs => PySem.call f vs) := by
  refine Att.attach_callB hn hdf fun w s0 s1 mg mb fa o pm cd doc a vs ns G Y ho hd hcd hmg hobj hints hlen hbits hg => ?_
  obtain ⟨K, sp, KX, hsp, hF⟩ := F w mg fa _ Y G.T.g hmg
  exact end_call KX G.T.g G.T.b G.T.builtins G.T.nolimit hg hobj hints (Nat.le_trans hlen hn2) hr hF fun H hS => hsp H a ns hlen hbits hS

/-! ### products of ints of some million bits -/
def CMulX (i j : Int) : Prop := i.natAbs.log2 + j.natAbs.log2 < 100000000
theorem CMulX.ok {i j : Int} (h : CMulX i j) : IntMulOk i j := by
  have b : ∀ x : Int, Builtin.Int.intBits x ≤ x.natAbs.log2 + 1 := fun x => by
    unfold Builtin.Int.intBits
    split <;> omega
  have h1 := b i
  have h2 := b j
  have h3 : i.natAbs.log2 + j.natAbs.log2 < 100000000 := h
  have e : bitsLine = 134217728 := by decide
  unfold IntMulOk
  intro z
  have z2 := of_decide_eq_true (Bool.and_eq_true_iff.mp z).2
  rw [e] at z2
  omega
theorem op_mulX {X : Cx} : OpR X (binaryOp .Mult) (rI CMulX fun i j => .int (i * j)) := opI fun _ _ _ _ _ _ _ hc q => mul_int q hc.ok
theorem mulX {i j : Int} {a b : Nat} (ha : i.natAbs < 2 ^ a) (hb : j.natAbs < 2 ^ b) (h : a + b ≤ 90000000 := by decide) (h0 : 0 < a := by decide) (h1 : 0 < b := by decide) : CMulX i j := by
  have x := PySem.Flt.log2_lt_of h0 ha
  have y := PySem.Flt.log2_lt_of h1 hb
  unfold CMulX
  omega
end Bk

set_option Elab.async false
set_option linter.all false
set_option maxRecDepth 100000
set_option maxHeartbeats 2000000
/-! Own layer 4: a field as a target among others. -/
namespace Bk
open PySem PySem.Spec PyProof.Rows L2
/-- o.f = .. -/
def gFld (K : PySem.W.Frag) (to : TE) (f : Str) : TG := fun v σ H Q => to σ H fun x H1 => ∃ a C dx fs, x = .ref a ∧ H1 a = some (.ins C dx fs) ∧ Cls K C ∧ NoAttr K C f ∧ fs.length < 1000 ∧ Q σ (upd H1 a (.ins C dx (putF f v fs)))
theorem pg_fld {X : Cx} {o : Expr} {f : Str} {pos : Pos} {to : TE} (ho : PE X o to)
    (ha : ∀ v, assign (.Attribute o f pos) X.env v = (do
      let ov ← holding [v] (eval o X.env)
      standAt pos.atName
      holding [v, ov] (setAttr ov f v)
      release [v, ov] []) := by intro _; rfl) : PG X (.Attribute o f pos) (gFld X.K to f) := by
  refine ⟨fun pins s σ H v u Q I r h => ?_⟩
  rw [ha]
  refine wpAny_bind (wpAny_holding (thn (ho.run pins s σ H _ I h) fun ov s1 ⟨x, H1, I1, rx, a, C, dx, fs, ex, ea, c, n, l, q⟩ => ?_))
  subst ex
  obtain rfl : ov = Value.ref a := rx
  refine wpAny_bind (wpAny_standAt (wpAny_bind (wpAny_holding (setattr_ok I1 ea c n l r fun s3 I3 => ?_))))
  exact wpAny_release ⟨σ, _, I3, q⟩
/-- a def with defaults, all its parameters given -/
theorem fd_okD {P : Program} {w : World} {K : PySem.W.Frag} {mg : Str → Option Value} {base : Heap} {x qual : Str} {params : Arguments} {body : List Stmt} {scope : Scope} {dvs : List V} {f : Addr} {N ps : List Str} {k : Nat} {sp : Sp}
    (F : ∃ fd, FunD K x qual params body scope dvs [] f fd) (hd : dvs ≠ []) (S : FnScope N ps scope) (len : ∀ vs H Q E, sp vs H Q E → vs.length = ps.length)
    (hb : ∀ (T : Addr) (kV doc pm : Value) (an : Option Addr) (cdv ct : Value) (us its : List Value), us.length = ps.length → its.length = dvs.length →
      ∃ k, bindArgs (PySem.W.fnOf x qual params body scope (.ref T) kV doc pm an cdv ct) ⟨us, []⟩ = seqItems? (.ref T) >>= k ∧ k (some its.toArray) = pure (ps.zip us))
    (hbody : ∀ (cdv : Value) (A : Around) (outer : List Env) (s : Shared) (H : Hp) (vs : List V) (Q : VK) (E : XK), Room k (A.deeper (envOfC qual scope s.heap.objs.size f cdv)) → sp vs H Q E →
      ∃ t, PSs (cxOf CX0 P w K mg base N qual scope f cdv A outer s H E).nox body t ∧ t { nx := fun _ H' => Q .non H', rt := Q } (start N vs) H) : Ok P w K mg base (k + 1) f ps sp := by
  obtain ⟨fd, F⟩ := F
  obtain ⟨ds, v, b⟩ := F.binds1 (ps := ps) ps.length dvs.length hd (by omega) fun T kV doc pm an cdv ct us its h1 h2 => by
    obtain ⟨k, e1, e2⟩ := hb T kV doc pm an cdv ct us its h1 h2
    refine ⟨k, e1, ?_⟩
    rw [e2, ← h2, List.drop_length, List.append_nil]
  rw [List.drop_length] at v
  cases v
  exact ⟨fd, F.ok S len fun cdv A outer s H vs Q E hr h => let ⟨t, a, b⟩ := hbody cdv A outer s H vs Q E hr h; ⟨t, a.nox, b⟩, b, F.kp, fnIn_of F⟩
end Bk

set_option Elab.async false
set_option linter.all false
set_option maxRecDepth 100000
set_option maxHeartbeats 4000000
/-! Own layer 5: for i, x in enumerate(a tuple). -/
namespace BkE
open PySem PySem.SeqAt
open AutoSeq1 (wpAny_loadPart')
theorem meets_enumT {v : Value} {o : Obj} {H : Heap → Prop} (B : Begins v o H) :
    Meets (Builtin.«enumerate.__new__» ⟨[.type "enumerate", v], []⟩) (fun _ R s => H s.heap ∧
      R (.ok (.ret (.ref (s.heap.push o).objs.size))) { s with heap := (s.heap.push o).push { cls := .type "enumerate", data := .fields #[.none, .bool false, .ref s.heap.objs.size, rawInt 0, .none, .none] } }) :=
  .of_wp fun prog w A R s h => by
    obtain ⟨hp, g, d, tk, os⟩ := s
    obtain ⟨h1, h⟩ := h
    have hsub := sub_enumerate
    have step : ∀ {A' : Around} {E : Value → Shared → Prop} {Q : Value → Shared → Prop}, Q (.ref hp.objs.size) ⟨hp.push o, g, d, tk, os⟩ → wpAny (model prog w) A' (pyIter v) Q E ⟨hp, g, d, tk, os⟩ :=
      fun q => B.iter prog w _ _ ⟨hp, g, d, tk, os⟩ _ h1 q
    wp_walk using step
    refine wpAny_stack_any fun st => wpAny_pure ?_
    split
    · rename_i c _ _ _ _ _
      cases (c == Value.type "enumerate") <;> (wp_walk using step) <;> exact ⟨_, rfl, h⟩
    · wp_walk using step
      exact ⟨_, rfl, h⟩
theorem call_enumT {prog : Program} {w : World} {A : Around} {E : Value → Shared → Prop} {s : Shared} {t : Addr} {items : Array Value} {Q : Value → Shared → Prop} (hT : s.heap.IsTuple t items)
    (h : ∀ h', IsEnum h' (s.heap.objs.size + 1) s.heap.objs.size 0 .none → h'.IsTupleIter s.heap.objs.size t 0 → h'.objs.size = s.heap.objs.size + 2 → (∀ b o, s.heap.get? b = some o → h'.get? b = some o) →
      Q (.ref (s.heap.objs.size + 1)) { s with heap := h' }) : wpAny (model prog w) A (call (.type "enumerate") [.ref t]) Q E s := by
  refine callType_new F.called_enumerate (by decide) (F.typeCall_enumerate_1 _) (F.newCall_enumerate_1 _) (fun obj => F.args_object_init_2 obj _) F.entry_enumerate_new (meets_enumT (begins_tuple t items)) ⟨hT, ?_⟩
  generalize ho : ({ cls := .type "tuple_iterator", data := .fields #[.ref t, .int 0 0] } : Obj) = o
  have fo : o.isFreed = false := by rw [← ho]; rfl
  have hz : (s.heap.push o).objs.size = s.heap.objs.size + 1 := Heap.size_push ..
  show _ ∧ _
  rw [hz]
  generalize hoe : ({ cls := .type "enumerate", data := .fields #[.none, .bool false, .ref s.heap.objs.size, rawInt 0, .none, .none] } : Obj) = oe
  have fe : oe.isFreed = false := by rw [← hoe]; rfl
  have he : ((s.heap.push o).push oe).get? (s.heap.objs.size + 1) = some oe := by
    have z := Heap.get?_push_size (s.heap.push o) (o := oe) fe
    rw [hz] at z
    exact z
  have hit : ((s.heap.push o).push oe).get? s.heap.objs.size = some o := Heap.get?_push_of_some _ (Heap.get?_push_size _ fo)
  refine ⟨⟨oe, he, by rw [← hoe]⟩, h _ (by rw [← hoe] at he ⊢; exact he) ⟨o, hit, by rw [← ho], by rw [← ho]; rfl⟩ (by rw [Heap.size_push, hz]) fun b q x => Heap.get?_push_of_some _ (Heap.get?_push_of_some _ x)⟩
end BkE
namespace Bk
open PySem PySem.Spec PyProof.Rows L2
/-- the tuple at a, each item in a new pair behind its place -/
def IteT (K : PySem.W.Frag) (a : Addr) : It :=
  ⟨fun i H => ∃ (xs : List V) (x : V), SqT K H a xs ∧ xs[i]? = some x, fun i H v H' => ∃ T x, v = .ref T ∧ H T = none ∧ H' = upd H T (.tup [.int (i : Nat), x]) ∧ ∀ xs, SqT K H a xs → xs[i]? = some x, fun i H => ∃ xs : List V, SqT K H a xs ∧ xs.length ≤ i⟩
theorem turn_enumT {P : Program} {w : World} {K : PySem.W.Frag} {elts : List Expr} {kk : Nat} {tpos : Pos} (a e it : Addr) :
    Turn P w K (.Tuple elts kk tpos) (IteT K a) [e, it] e (fun i h => (∃ old, IsEnum h e it ((i : Nat) : Int) old) ∧ h.IsTupleIter it a i ∧ e ≠ it ∧ a ≠ it ∧ e ≠ a) where
  mem := by simp
  obj := fun i h st b hb => by
    obtain ⟨⟨old, he⟩, ⟨o, ho, hc, hd⟩, _⟩ := st
    rcases (show b = e ∨ b = it by simpa using hb) with z | z
    · refine ⟨_, by rw [z]; exact he, fun v q => ?_⟩
      cases q
    · exact ⟨o, by rw [z]; exact ho, fun v q => by rw [hd] at q; cases q⟩
  keep := fun i h h' st k => let ⟨⟨old, he⟩, hi, hne⟩ := st; ⟨⟨old, k e (by simp) _ he⟩, hi.at fun o q => k it (by simp) o q, hne⟩
  item := by
    intro X hP hw hK hc i pins s σ H E I hf st hg
    subst hP hw hK
    obtain ⟨⟨old, he⟩, hit, hne, hai, hea⟩ := st
    obtain ⟨xs, x, hq, hx⟩ := hg
    obtain ⟨its, rv, p, hz⟩ := I.tuple hq
    obtain ⟨u, hu, ru⟩ := rv.get hx
    have hlt : i < its.toArray.size := by simpa using (List.getElem?_eq_some_iff.mp hu).1
    have hel : e < s.heap.objs.size := Heap.lt_size he
    have hil : it < s.heap.objs.size := by obtain ⟨_, q, _⟩ := hit; exact Heap.lt_size q
    refine wpAny_pyNext_enum_itemD (Draws.tuple (A := X.A.in1) (I.ok.hd hc) it a hai its.toArray) he ⟨hit, p⟩ hlt hne (by simpa using ⟨hne, hea⟩) fun y h' tk hy ho hst' hT hsz hk => ?_
    obtain rfl : y = u := by
      have z : its[i]? = some y := by simpa using hy
      rw [hu] at z
      exact (Option.some.inj z).symm
    refine ⟨_, rfl, wpAny_letOwnedTupleGo_enum (s := { s with heap := h', toks := tk + 1 }) ho fun h'' he' sb => ?_⟩
    have hT2 : h''.get? s.heap.objs.size = some { cls := .type "tuple", data := .seq #[.int i tk, y] } := (sb.2 _ (Nat.ne_of_gt hel)).trans hT
    have new : ObjOk X.prog X.w (upd H s.heap.objs.size (.tup [.int (i : Nat), x])) h'' s.heap.objs.size (.tup [.int (i : Nat), x]) :=
      ⟨by show 2 ≤ sizeLine; decide, [.int i tk, y], .cons ⟨_, rfl⟩ (.cons ru .nil), ⟨_, hT2, rfl, _, rfl⟩⟩
    have I1 : L2.Inv X pins σ (upd H s.heap.objs.size (.tup [.int (i : Nat), x])) { s with heap := h'', toks := tk + 1 } :=
      I.turnedNew (ch := [e, it]) (fun b ob hb q => (sb.2 b (fun z => hb (by simp [z]))).trans (hk b ob (fun z => hb (by simp [z])) (fun z => hb (by simp [z])) q)) hf (Nat.le_refl _) new
    refine ⟨.ref s.heap.objs.size, _, I1, rfl, ⟨_, x, rfl, I.hok.fresh (Nat.le_refl _), rfl, fun ys hy => by rw [I.tuple_inj hy hq]; exact hx⟩, ⟨⟨y, ?_⟩, hst'.1.at fun o q => (sb.2 it (Ne.symm hne)).trans q, hne, hai, hea⟩, fun b hb => ?_⟩
    · rw [show ((i + 1 : Nat) : Int) = (i : Int) + 1 by omega]
      exact he'
    · have hb' : b < s.heap.objs.size := by
        rcases (show b = e ∨ b = it by simpa using hb) with z | z
        · rw [z]; exact hel
        · rw [z]; exact hil
      rw [upd_ne (Nat.ne_of_lt hb')]
      exact (hf b hb).1
  done := by
    intro X hP hw hK hc i pins s σ H E I hf st hg
    subst hP hw hK
    obtain ⟨⟨old, he⟩, hit, hne, hai, hea⟩ := st
    obtain ⟨xs, hq, hx⟩ := hg
    obtain ⟨its, rv, p, hz⟩ := I.tuple hq
    obtain ⟨f0, f1, f2, f3, f4, f5⟩ := hf it (by simp)
    have hl := rv.length
    have hT : s.TypeIs (.ref e) "enumerate" := ⟨_, he, rfl⟩
    unfold pyNext
    refine wpAny_bind (wpAny_attempt (wpAny_callSpecial?_slot (name := Str.ofString "__next__") hT F.slot_enumerate_next (wpAny_call_entry F.slot_enumerate_next hT F.entry_enumerate_next ?_ (F.args_enumerate_next_1 _))))
    show wpAny _ _ (field (.ref e) 2 >>= _) _ _ _
    refine wpAny_bind (wpAny_field he rfl (x := .ref it) rfl ?_)
    refine wpAny_bind (wpAny_nextOf_tuple_end (I.ok.hd hc) hit p (by simp; omega) fun h' y eb hy => ?_)
    obtain ⟨o, ho, hoc⟩ := hy
    refine wpAny_bind (wpAny_isInstance (T := "StopIteration") (b := true) ⟨o, ho, hoc⟩ isSubtype_stop ?_)
    exact wpAny_pure ⟨rfl, I.turned (t' := s.toks) (fun b o hb q => eb b o hb q) f0 f1 f3 f4 f5⟩
  self := fun A i s Q E st h => let ⟨⟨_, he⟩, _⟩ := st; wpAny_pyIter_enum he h
def iEnumT (K : PySem.W.Frag) (ta : TA) : TI := fun σ H R => ta σ H fun vs H1 => ∃ a xs, vs = [.ref a] ∧ SqT K H1 a xs ∧ R (IteT K a) H1
theorem pi_enumT {X : Cx} {e : Expr} {ta : TA} {p pos tpos : Pos} {elts : List Expr} {kk : Nat} (hg : Gl X "enumerate") (hm : X.mg "enumerate" = none) (ha : PA X [e] ta) (hs : starEach [e] X.env = [(false, eval e X.env)] := by rfl) :
    PI X (.Tuple elts kk tpos) (.Call (.Name "enumerate" p) [e] [] pos) (iEnumT X.K ta) := by
  refine ⟨fun pins s σ H R I h => Call_ (ld_blt I hg hm boot_enumerate (PyProof.Rows.callWith_type1 (thn (ha.run pos pins s σ H _ I h) fun us s1 ⟨vs, H1, I1, r1, q1⟩ => ?_) hs rfl))⟩
  obtain ⟨a, xs, rfl, hq, q⟩ := q1
  obtain ⟨u, rfl, ru⟩ := vals1 r1
  cases (show u = Value.ref a from ru)
  obtain ⟨its, rv, p', hz⟩ := I1.tuple hq
  have hal : a < s1.heap.objs.size := by obtain ⟨o, ho, _⟩ := p'; exact Heap.lt_size ho
  refine BkE.call_enumT p' fun h' he hit hsz hk => wpAny_pyIter_enum he ?_
  have I2 : L2.Inv X pins σ H1 { s1 with heap := h' } := I1.kept (t' := s1.toks) hk
  refine ⟨s1.heap.objs.size + 1, [s1.heap.objs.size + 1, s1.heap.objs.size], _, _, H1, rfl, I2, turn_enumT a (s1.heap.objs.size + 1) s1.heap.objs.size, ⟨⟨.none, he⟩, hit, Nat.succ_ne_self _, Nat.ne_of_lt hal, Nat.ne_of_gt (Nat.lt_succ_of_lt hal)⟩, fun b hb => ?_, q⟩
  have hle : s1.heap.objs.size ≤ b := by
    rcases (show b = s1.heap.objs.size + 1 ∨ b = s1.heap.objs.size by simpa using hb) with z | z
    · rw [z]; exact Nat.le_succ _
    · rw [z]; exact Nat.le_refl _
  exact I1.fpOk hle (I1.hok.fresh hle)
/-- the loop's invariant over it -/
theorem for_enumT {K : PySem.W.Frag} {a : Addr} {xs : List V} {g : TG} {tb : TS} {D : Ends} {σ : L2.St} {H : Hp} (Pv : Nat → L2.St → Hp → Prop) (h0 : Pv 0 σ H) (hl : ∀ i σ H, i ≤ xs.length → Pv i σ H → SqT K H a xs)
    (hs : ∀ i x T σ H, xs[i]? = some x → Pv i σ H → H T = none → g (.ref T) σ (upd H T (.tup [.int (i : Nat), x])) fun σ2 H2 => tb { D with nx := Pv (i + 1), ct := Pv (i + 1), bk := D.nx } σ2 H2) (hd : ∀ σ H, Pv xs.length σ H → D.nx σ H) :
    ∃ W : Nat → Nat → L2.St → Hp → Prop, (∃ m, W 0 m σ H) ∧ ∀ i m σ H, W i m σ H →
      ((IteT K a).stop i H ∧ D.nx σ H) ∨ ((IteT K a).go i H ∧ ∃ N : L2.St → Hp → Prop, (∀ σ' H', N σ' H' → ∃ m', m' < m ∧ W (i + 1) m' σ' H') ∧ ∀ x H', (IteT K a).yld i H x H' → g x σ H' fun σ2 H2 => tb { D with nx := N, ct := N, bk := D.nx } σ2 H2) := by
  refine ⟨fun i m σ H => m = xs.length - i ∧ i ≤ xs.length ∧ Pv i σ H, ⟨xs.length, by simp, Nat.zero_le _, h0⟩, ?_⟩
  rintro i m σ H ⟨rfl, hi, p⟩
  have q := hl i σ H hi p
  by_cases hlt : i < xs.length
  · refine .inr ⟨⟨xs, xs[i], q, List.getElem?_eq_getElem hlt⟩, Pv (i + 1), fun σ' H' p' => ⟨xs.length - (i + 1), by omega, rfl, hlt, p'⟩, fun x H' y => ?_⟩
    obtain ⟨T, z, rfl, hT, rfl, hz⟩ := y
    exact hs i z T σ H (hz xs q) p hT
  · obtain rfl : i = xs.length := by omega
    exact .inl ⟨⟨xs, q, Nat.le_refl _⟩, hd σ H p⟩
end Bk

set_option Elab.async false
set_option linter.all false
set_option maxRecDepth 100000
set_option maxHeartbeats 4000000
/-! Own layer 6: the display {**d, k: v}. -/
namespace BkD
open PySem
open Sem (wp)
section
variable {prog : Program} {w : World} {K : Type} [DecidableEq K] {knd : KeyKind prog w K} {A : Around} {E : Value → Shared → Prop} {s : Shared}
theorem wpAny_dictPut_pairs {d : Addr} {kvs : List (K × Value)} {k : K} {key v : Value} {Q : Unit → Shared → Prop} (hkey : knd.is k key = true) (hm : s.heap.DictOf knd d kvs)
    (hQ : ∀ h', h'.DictOf knd d (stored kvs k v) → Heap.SameBut d s.heap h' → Q () { s with heap := h' }) (hsz : kvs.length ≤ sizeLine) :
    wpAny (model prog w) A (dictPut d (knd.hash k) key v) Q E s := by
  obtain ⟨o, es, ep, ho, hc, hd, hk, hp, hn⟩ := hm
  have hes : es.size ≤ sizeLine := by
    have e1 := hp.length
    have e2 : es.toList.length = es.size := by simp
    omega
  unfold dictPut
  refine wpAny_bind (wpAny_dictFind_of hkey ho hd hk ?_)
  have hidx : (es.findIdx? fun e => knd.is k e.key) = kvs.findIdx? fun kv => decide (kv.1 = k) := by
    rw [← hp.findIdx k]; obtain ⟨l⟩ := es; simp
  cases hi : es.findIdx? fun e => knd.is k e.key with
  | some i =>
    refine wpAny_updateDict ho hd (hQ _ ⟨_, _, ep, Heap.get?_update_self _ ho (Obj.isFreed_of_dict (Obj.data_mapDict hd _)),
      hc.mapDict _, Obj.data_mapDict hd _, hk.modify _ _, ?_, ?_⟩ (Heap.SameBut.update ..))
    · rw [stored, if_pos (any_of_findIdx_some (hidx ▸ hi))]
      have hl : (es.toList.findIdx? fun e => knd.is k e.key) = some i := by rw [← hi]; obtain ⟨l⟩ := es; simp
      have := hp.modify hn hl v
      obtain ⟨l⟩ := es
      simpa using this
    · rw [stored, if_pos (any_of_findIdx_some (hidx ▸ hi)), keys_map_store]; exact hn
  | none =>
    have hnot : k ∉ kvs.map (·.1) := not_mem_of_findIdx_none (hidx ▸ hi)
    have hany : ¬ (kvs.any fun kv => decide (kv.1 = k)) = true := by
      rw [List.any_eq_true]; rintro ⟨kv, hkv, he⟩
      exact hnot (List.mem_map.mpr ⟨kv, hkv, of_decide_eq_true he⟩)
    refine wpAny_updateDictKeys (hz := hes) ho hd (hQ _ ⟨_, _, ep + 1, Heap.get?_update_self _ ho (Obj.isFreed_of_dict (Obj.data_mapDictKeys hd _)),
      hc.mapDictKeys _, Obj.data_mapDictKeys hd _, hk.push hkey _, ?_, ?_⟩ (Heap.SameBut.update ..))
    · rw [stored, if_neg hany]
      have := hp.append hkey (knd.hash k) v
      obtain ⟨l⟩ := es
      simpa using this
    · rw [stored, if_neg hany, List.map_append, List.nodup_append]
      refine ⟨hn, by simp, ?_⟩
      intro a ha b hb
      simp only [List.map_cons, List.map_nil, List.mem_singleton] at hb
      subst hb
      exact fun e => hnot (e ▸ ha)
theorem mergeK_pairs {d o : Addr} {kvs more : List (K × Value)} {Q : Unit → Shared → Prop} (hdo : d ≠ o) (hoS : (o == sysModules) = false)
    (hd : s.heap.DictOf knd d kvs) (ho : s.heap.DictOf knd o more)
    (hQ : ∀ h', h'.DictOf knd d (merged kvs more) → Heap.SameBut d s.heap h' → Q () { s with heap := h' })
    (hsz : kvs.length + more.length ≤ sizeLine) :
    wpAny (model prog w) A (mergeMapping d (.ref o) false) Q E s := by
  obtain ⟨od, esd, epd, hod, hcd, hdd, hkd, hpd, hnd⟩ := id hd
  obtain ⟨oo, eso, epo, hoo, hco, hdo', hko, hpo, hno⟩ := id ho
  have hT : s.TypeIs (.ref o) "dict" := ho.typeIs
  have hlen : more.length = eso.size := by rw [← hpo.length]; simp
  have loop : wpAny (model prog w) A (do
      let size := (← dictEntries o).size
      let epoch ← dictEpoch o
      for i in List.range size do
        let some e := (← dictEntries o)[i]? | unsupported "dict.changed-during-merge"
        holding [e.key, e.val] do
          if false = true then
            if (← dictFind d e.key e.hash).isSome then rule "dict.merge.duplicate-key"; raiseNew (← newExc (.type "KeyError") [e.key])
          dictPut d e.hash e.key e.val
        if (← dictEpoch o) != epoch then unsupported "dict.changed-during-merge") Q E s := by
    refine wpAny_bind (wpAny_dictEntries hoo hdo' ?_)
    refine wpAny_bind (wpAny_dictEpoch hoo hdo' ?_)
    dsimp only
    refine wpAny_bind ?_
    refine wpAny_forIn_list _
      (fun rest _ s' => ∃ h' i, s' = { s with heap := h' } ∧ rest = List.range' i (eso.size - i) ∧ i ≤ eso.size ∧ h'.DictOf knd d (merged kvs (more.take i)) ∧ h'.get? o = some oo ∧ Heap.SameBut d s.heap h')
      _ ?_ ?_ _ _ ⟨s.heap, 0, rfl, by simp [List.range_eq_range'], Nat.zero_le _, by simpa [merged] using hd, hoo, Heap.SameBut.refl _ _⟩
    · rintro x rest b s' ⟨h', i, rfl, hr, hi, hd', hoo', hs'⟩
      have hlt : i < eso.size := by
        rcases Nat.lt_or_ge i eso.size with h | h
        · exact h
        · rw [Nat.sub_eq_zero_of_le h] at hr; simp at hr
      obtain ⟨rfl, hrest⟩ : x = i ∧ rest = List.range' (i + 1) (eso.size - (i + 1)) := by
        have e : eso.size - i = (eso.size - (i + 1)) + 1 := by omega
        rw [e, List.range'_succ] at hr
        injection hr with h1 h2
        exact ⟨h1, h2⟩
      refine wpAny_bind (wpAny_dictEntries hoo' hdo' ?_)
      rw [Array.getElem?_eq_getElem hlt]
      obtain ⟨kv, hkv⟩ : ∃ kv, more[x]? = some kv := ⟨more[x]'(by rw [hlen]; exact hlt), List.getElem?_eq_getElem _⟩
      obtain ⟨k, v⟩ := kv
      obtain ⟨hkey, hval⟩ := hpo.get? (e := eso[x]) (by simp [hlt]) hkv
      obtain ⟨k', hkey', hhash⟩ := hko eso[x] (Array.getElem_mem hlt)
      obtain rfl : k' = k := knd.inj _ _ _ hkey' hkey
      show wpAny _ _ (holding [eso[x].key, eso[x].val] (dictPut d eso[x].hash eso[x].key eso[x].val) >>= _) _ _ _
      rw [hhash, hval]
      have hmx : (merged kvs (more.take x)).length ≤ sizeLine := by
        have e1 := merged_length_le kvs (more.take x)
        have e2 : (more.take x).length ≤ more.length := by rw [List.length_take]; omega
        omega
      refine wpAny_bind (wpAny_holding (wpAny_dictPut_pairs hkey hd' (fun h'' hd'' hs'' => ?_) hmx))
      have hoo'' : h''.get? o = some oo := (hs''.2 o (Ne.symm hdo)).trans hoo'
      refine wpAny_bind (wpAny_dictEpoch hoo'' hdo' ?_)
      rw [if_neg (by simp)]
      exact wpAny_pure ⟨h'', x + 1, rfl, hrest, hlt, by rw [merged_take_succ kvs more x (k', v) hkv]; exact hd'', hoo'', hs'.trans hs''⟩
    · rintro b s' ⟨h', i, rfl, hr, hi, hd', hoo', hs'⟩
      have hin : i = eso.size := by
        rcases Nat.lt_or_ge i eso.size with h | h
        · have e : eso.size - i = (eso.size - (i + 1)) + 1 := by omega
          rw [e, List.range'_succ] at hr; exact nomatch hr
        · exact Nat.le_antisymm hi h
      refine wpAny_pure (hQ h' ?_ hs')
      rw [hin, ← hlen, List.take_length] at hd'; exact hd'
  unfold mergeMapping
  refine wpAny_bind (wpAny_isInstance (T := "dict") hT PySem.F.sub_dict_dict ?_)
  dsimp only
  rw [if_pos rfl]
  refine wpAny_bind (wpAny_specialOf hT F.slot_dict_iter.lookup ?_)
  simp only [beq_self_eq_true]
  refine wpAny_bind (wpAny_pure ?_)
  dsimp only
  rw [if_neg (by rw [hoS]; exact Bool.false_ne_true)]
  refine wpAny_bind (wpAny_dictEntries hod hdd ?_)
  split
  · refine wpAny_bind (wpAny_dictEntries hoo hdo' ?_)
    refine wpAny_bind ?_
    rw [← Array.forIn_toList]
    refine wpAny_forIn_list _ (fun l _ s' => s' = s ∧ ∀ e ∈ l, e ∈ eso) _ (fun e rest b s₁ hI => ?_) (fun b s₁ hI => ?_) _ _ ⟨rfl, fun e he => Array.mem_toList_iff.mp he⟩
    · obtain ⟨rfl, hm⟩ := hI
      obtain ⟨k, hk, _⟩ := hko e (hm e List.mem_cons_self)
      have hb := knd.byValue _ _ hk
      have rest' : ∀ e' ∈ rest, e' ∈ eso := fun e' h => hm e' (List.mem_cons_of_mem _ h)
      split
      · rename_i a ha
        rw [ha] at hb
        cases hb
      · exact wpAny_pure ⟨rfl, rest'⟩
    · obtain ⟨rfl, _⟩ := hI
      exact loop
  · exact loop
/-- {**m, k: v} -/
theorem display_star1 {m k v : Sem Value} {Q : Value → Shared → Prop}
    (h : wpAny (model prog w) A m (fun mv s1 => ∃ o more, mv = .ref o ∧ (o == sysModules) = false ∧ s.heap.objs.size ≠ o ∧ s1.heap.DictOf knd s.heap.objs.size [] ∧ s1.heap.DictOf knd o more ∧ more.length ≤ sizeLine ∧
      ∀ h', h'.DictOf knd s.heap.objs.size (merged [] more) → Heap.SameBut s.heap.objs.size s1.heap h' →
        wpAny (model prog w) A (evalPairs [(k, v)]) (fun vs s3 => ∃ key kv vv kvs3, vs = [(kv, vv)] ∧ knd.is key kv = true ∧ s3.heap.DictOf knd s.heap.objs.size kvs3 ∧ s.heap.objs.size ≠ h'.objs.size ∧ (h'.objs.size == sysModules) = false ∧
          s3.heap.DictOf knd h'.objs.size [] ∧ kvs3.length + 1 ≤ sizeLine ∧
          ∀ h3 h4 tk, Heap.SameBut h'.objs.size s3.heap h3 → Heap.SameBut s.heap.objs.size h3 h4 → h3.DictOf knd h'.objs.size [(key, vv)] → h4.DictOf knd s.heap.objs.size (merged kvs3 [(key, vv)]) →
            Q (.ref s.heap.objs.size) { s3 with heap := h4, toks := tk }) E { s1 with heap := h'.push { cls := .type "dict", data := .dict #[] } }) E { s with heap := s.heap.push { cls := .type "dict", data := .dict #[] } }) :
    wpAny (model prog w) A (dictDisplay [(none, m), (some k, v)]) Q E s := by
  unfold dictDisplay
  dsimp only
  refine wpAny_bind ?_
  rw [List.forIn_cons]
  refine wpAny_bind ?_
  dsimp only
  refine wpAny_bind ?_
  rw [if_pos List.isEmpty_nil]
  refine wpAny_pure ?_
  dsimp only
  refine wpAny_bind (wpAny_alloc ?_)
  refine wpAny_bind (wpAny_holding (wpAny_mono h (fun mv s1 h1 => ?_) fun _ _ e => e))
  obtain ⟨o, more, rfl, hoS, hne, hd, ho, hz, h1⟩ := h1
  refine wpAny_bind (wpAny_onRaise (wpAny_tryCatch (wpAny_onRaise (wpAny_holding (mergeK_pairs hne hoS hd ho (fun h' hd' hs' => ?_) (by simpa using hz))))))
  refine wpAny_pure ?_
  dsimp only
  rw [List.forIn_cons]
  refine wpAny_bind ?_
  dsimp only
  rw [if_neg (by simp)]
  refine wpAny_pure ?_
  dsimp only
  rw [List.forIn_nil]
  refine wpAny_pure ?_
  dsimp only
  refine wpAny_bind ?_
  rw [if_neg (by simp)]
  refine wpAny_bind (wpAny_holding ?_)
  rw [List.nil_append]
  refine wpAny_subDict (knd := knd) (by simp) (wpAny_mono (h1 h' hd' hs') (fun vs s3 h3 => ?_) fun _ _ e => e)
  obtain ⟨key, kv, vv, kvs3, rfl, hk, hd3, hn3, hm3, he3, hz3, q⟩ := h3
  refine ⟨[(key, vv)], ⟨hk, rfl, True.intro⟩, he3, fun h3 hm hs3 => ?_⟩
  refine wpAny_bind (wpAny_onRaise (wpAny_holding (mergeK_pairs hn3 hm3 (hd3.sameBut hs3 hn3) hm (fun h4 hd4 hs4 => ?_) hz3)))
  exact wpAny_pure (wpAny_pure (q h3 h4 _ hs3 hs4 hm hd4))
end
end BkD
namespace Bk
open PySem PySem.Spec PyProof.Rows L2
theorem mergeK_fresh (acc more : List (Key × V)) (hn : ((acc ++ more).map (·.1)).Nodup) : mergeK acc more = acc ++ more := by
  induction more generalizing acc with
  | nil => simp [mergeK]
  | cons kv rest ih =>
    have hv : valV acc kv.1 = none := by
      cases e : valV acc kv.1 with
      | none => rfl
      | some x =>
        have z := valV_any kv.1 acc
        rw [e] at z
        obtain ⟨y, hy, he⟩ := List.any_eq_true.mp z
        rw [List.map_append, List.map_cons, List.nodup_append] at hn
        exact (hn.2.2 y.1 (List.mem_map.mpr ⟨y, hy, rfl⟩) kv.1 List.mem_cons_self (of_decide_eq_true he)).elim
    have e1 : mergeK acc (kv :: rest) = mergeK (acc ++ [kv]) rest := by
      show mergeK (putK acc kv.1 kv.2) rest = _
      rw [putK_new _ hv]
    rw [e1, ih (acc ++ [kv]) (by simpa using hn)]
    simp
/-- {**d, k: v} with a dict whose keys stand once: k is put behind or in its place -/
def tStar1 (tm tk tv : TE) : TE := fun σ H Q => ∀ p, H p = none → tm σ (upd H p (.dK [])) fun x H1 => ∃ d kvs, x = .ref d ∧ H1 d = some (.dK kvs) ∧ H1 p = some (.dK []) ∧ d ≠ p ∧ kvs.length < sizeLine ∧
  ∀ q, upd H1 p (.dK kvs) q = none → tk σ (upd (upd H1 p (.dK kvs)) q (.dK [])) fun y H2 => tv σ H2 fun z H3 => ∃ k, y = kV k ∧ H3 p = some (.dK kvs) ∧ H3 q = some (.dK []) ∧
    Q (.ref p) (upd (upd H3 q (.dK [(k, z)])) p (.dK (putK kvs k z)))
theorem pe_star1 {X : Cx} {m k v : Expr} {pos : Pos} {tm tk tv : TE} (hm : PE X m tm) (hk : PE X k tk) (hv : PE X v tv) : PE X (.Dict [none, some k] [m, v] pos) (tStar1 tm tk tv) := by
  refine ⟨fun pins s σ H Q I h => ?_⟩
  have hn := I.hok.fresh (Nat.le_refl s.heap.objs.size)
  have I1 := I.laid (a := s.heap.objs.size) (o := .dK []) (h' := s.heap.push { cls := .type "dict", data := .dict #[] }) (t' := s.toks) (fun _ _ q => Heap.get?_push_of_some _ q) (Nat.le_refl _) (dk_empty s.heap I.big)
  rw [arm_eval_Dict]
  refine wpAny_bind (wpAny_standAt ?_)
  show wpAny _ _ (dictDisplay [(none, do let x ← eval m X.env; standAt pos; pure x), (some (eval k X.env), do let x ← eval v X.env; standAt pos; pure x)]) _ _ _
  refine BkD.display_star1 (knd := mixKind X.prog X.w) (wpAny_bind (thn (hm.run pins _ σ _ _ I1 (h _ hn)) fun u s1 ⟨x, H1, I2, rx, d, kvs, ex, ed, ep, hne, hz, q⟩ => wpAny_bind (wpAny_standAt (wpAny_pure ?_))))
  subst ex
  obtain rfl : u = Value.ref d := rx
  obtain ⟨z, hd, vs, rel, dd⟩ := dk_of I2.hok ed
  obtain ⟨_, hp, vs0, r0, pp⟩ := dk_of I2.hok ep
  cases r0
  have hnod : (vs.map (·.1)).Nodup := let ⟨_, _, _, _, _, _, _, _, n⟩ := dd; n
  have hl := rel.length
  refine ⟨d, vs, rfl, hd, hne.symm, pp, dd, by omega, fun h' dd' hs => ?_⟩
  rw [merged_nil_of_nodup _ hnod] at dd'
  have he : ∃ q, h'.get? s.heap.objs.size = some q := let ⟨q, _, _, hq, _⟩ := dd'; ⟨q, hq⟩
  have I3 : L2.Inv X pins σ (upd H1 s.heap.objs.size (.dK kvs)) { s1 with heap := h', toks := s1.toks } := d_write I2 (by rw [ep]; exact True.intro) hs he (dk_new z hp rel dd')
  have hq0 := I3.hok.fresh (Nat.le_refl h'.objs.size)
  have I4 := I3.laid (a := h'.objs.size) (o := .dK []) (h' := h'.push { cls := .type "dict", data := .dict #[] }) (t' := s1.toks) (fun _ _ q => Heap.get?_push_of_some _ q) (Nat.le_refl _) (dk_empty h' I3.big)
  have hPP := (pps_cons (pos := pos) hk hv pps_nil).run pins _ σ _ (fun ps H' => match ps with
    | [(y, z)] => ∃ k, y = kV k ∧ H' s.heap.objs.size = some (.dK kvs) ∧ H' h'.objs.size = some (.dK []) ∧ Q (.ref s.heap.objs.size) (upd (upd H' h'.objs.size (.dK [(k, z)])) s.heap.objs.size (.dK (putK kvs k z)))
    | _ => False) I4 (q _ hq0)
  refine thn hPP fun ws s3 ⟨ps, H3, I5, rws, q5⟩ => ?_
  match ps, rws, q5 with
  | [(y, zz)], rws, q5 =>
    obtain ⟨key, ey, e1, e2, q3⟩ := q5
    subst ey
    cases rws with
    | @cons a b as bs hab ht =>
      cases ht
      obtain ⟨b1, b2⟩ := b
      obtain ⟨_, hp3, vs1, r1, pp3⟩ := dk_of I5.hok e1
      obtain ⟨_, hq3, vs2, r2, qq3⟩ := dk_of I5.hok e2
      cases r2
      have hne2 : s.heap.objs.size ≠ h'.objs.size := fun z => by
        rw [← z, upd_same] at hq0
        cases hq0
      refine ⟨key, _, _, vs1, rfl, kV_is hab.1, pp3, hne2, hq3, qq3, by have := r1.length; omega, fun h3 h4 tk hs3 hs4 m3 m4 => ?_⟩
      have kv1 : KV [(key, zz)] [(key, b2)] := .cons ⟨rfl, hab.2⟩ .nil
      have I6 : L2.Inv X pins σ (upd H3 h'.objs.size (.dK [(key, zz)])) { s3 with heap := h3, toks := tk } :=
        d_write I5 (by rw [e2]; exact True.intro) hs3 (let ⟨q, _, _, hq, _⟩ := m3; ⟨q, hq⟩) (dk_new (by show 1 ≤ sizeLine; decide) hq3 kv1 m3)
      have e1' : upd H3 h'.objs.size (.dK [(key, zz)]) s.heap.objs.size = some (.dK kvs) := by rw [upd_ne hne2]; exact e1
      have hlp : (putK kvs key zz).length ≤ sizeLine := by have := length_putK kvs key zz; omega
      have I7 : L2.Inv X pins σ (upd (upd H3 h'.objs.size (.dK [(key, zz)])) s.heap.objs.size (.dK (putK kvs key zz))) { s3 with heap := h4, toks := tk } :=
        d_write (s := { s3 with heap := h3, toks := tk }) I6 (by rw [e1']; exact True.intro) hs4 (let ⟨q, _, _, hq, _⟩ := m4; ⟨q, hq⟩) (dk_new hlp hp (r1.put key hab.2) m4)
      exact ⟨.ref s.heap.objs.size, _, I7, rfl, q3⟩
end Bk

set_option Elab.async false
set_option linter.all false
set_option maxRecDepth 100000
set_option maxHeartbeats 4000000
/-! Own layer 7: == and != of two instances without an __eq__ of their own; bool(o) by the class's own __bool__; a list against an empty one. -/
namespace BkI
open PySem PySem.Spec PyProof.Rows PySem.SeqAt
structure EqObj (K : PySem.W.Frag) (C : Addr) : Prop where
  eq : PySem.W.findIn K (.ref C) "__eq__" = some (some (.builtin "object.__eq__"))
  ne : PySem.W.findIn K (.ref C) "__ne__" = some (some (.builtin "object.__ne__"))
  mro : PySem.W.mroIn K C (.type "object") = some true
section
variable {M : Model} {prog : Program} {w : World} {A : Around} {E : Value → Shared → Prop} {s : Shared} {K : PySem.W.Frag} {x y C D : Addr} {ox oy : Obj} {od oe : Option Obj}
theorem inst_cls (I : PySem.W.InstAt s.heap x ox C od) : s.heap.get? x = some ox ∧ ox.cls = .ref C := ⟨I.at_, I.cls⟩
theorem call_eq (X : K.In s.heap) (I : PySem.W.InstAt s.heap x ox C od) (J : PySem.W.InstAt s.heap y oy D oe) (q : EqObj K C) {Q : Value → Shared → Prop} (hq : Q (if x = y then .bool true else .notImplemented) s) :
    wpAny (model prog w) A (call (.builtin "object.__eq__") [.ref x, .ref y]) Q E s := by
  refine wpAny_call (codeAny_call_builtin F.cmp_object.eq.plain F.cmpEntry_eq (PySem.W.check_slot F.cmpKind_eq F.cmpSplit_eq (I.type.andThen (PySem.W.looks_mroIn X q.mro)) (F.cmpArgs_eq _ _) ?_))
  by_cases h : x = y
  · subst h
    rw [if_pos rfl] at hq
    exact objEq_entry_same hq
  · rw [if_neg h] at hq
    exact objEq_entry_other h (inst_cls I).1 (inst_cls J).1 (by rw [(inst_cls I).2]; intro z; cases z) hq
theorem special_eq (X : K.In s.heap) (I : PySem.W.InstAt s.heap x ox C od) (J : PySem.W.InstAt s.heap y oy D oe) (q : EqObj K C) {Q : Option Value → Shared → Prop} (hq : Q (some (if x = y then .bool true else .notImplemented)) s) :
    wpAny (model prog w) A (callSpecialIfBound? (.ref x) "__eq__" [.ref y]) Q E s := HN.ifBound_objEq X I q.eq (call_eq X I J q hq)
theorem try_eq (X : K.In s.heap) (I : PySem.W.InstAt s.heap x ox C od) (J : PySem.W.InstAt s.heap y oy D oe) (q : EqObj K C) {Q : Option Value → Shared → Prop} (hq : Q (if x = y then some (.bool true) else none) s) :
    wpAny (model prog w) A (tryCompare (.ref x) "__eq__" (.ref y)) Q E s := by
  unfold tryCompare
  refine wpAny_bind (special_eq X I J q ?_)
  by_cases h : x = y
  · rw [if_pos h] at hq ⊢
    exact wpAny_pure hq
  · rw [if_neg h] at hq ⊢
    exact wpAny_pure hq
theorem entry_ne (hu : A.units < cLine) (X : K.In s.heap) (I : PySem.W.InstAt s.heap x ox C od) (J : PySem.W.InstAt s.heap y oy D oe) (q : EqObj K C) {Q : Fin → Shared → Prop} (hq : Q (.done (.ret (if x = y then .bool false else .notImplemented))) s) :
    wpAny (model prog w) A (Builtin.«object.__ne__» ⟨[.ref x, .ref y], []⟩) Q E s := by
  unfold Builtin.«object.__ne__»
  by_cases h : x = y
  · rw [if_pos h] at hq
    repeat (first | with_reducible refine wpAny_cRoomFor hu ?_ | (with_reducible refine special_eq X I J q ?_; rw [if_pos h]) | wp_step)
    exact hq
  · rw [if_neg h] at hq
    repeat (first | with_reducible refine wpAny_cRoomFor hu ?_ | (with_reducible refine special_eq X I J q ?_; rw [if_neg h]) | wp_step)
    exact hq
theorem ifBound_objNe {args : List Value} {Q : Option Value → Shared → Prop} (X : K.In s.heap) (I : PySem.W.InstAt s.heap x ox C od) (hs : PySem.W.findIn K (.ref C) "__ne__" = some (some (.builtin "object.__ne__")))
    (h : wpAny M A (call (.builtin "object.__ne__") (.ref x :: args)) (fun v => Q (some v)) E s) : wpAny M A (callSpecialIfBound? (.ref x) "__ne__" args) Q E s := by
  simp only [callSpecialIfBound?, bindSpecialIfBound?]
  refine wpAny_holding (wpAny_bind (wpAny_bind (wpAny_bind (I.type.here ((PySem.W.looks_findIn X hs).here ?_)))))
  refine wpAny_bind (wpAny_askSetting (wpAny_ite ?_))
  have fin : wpAny M A (call (.builtin "object.__ne__") ([.ref x] ++ args) >>= fun v => pure (some v)) Q E s := wpAny_bind (wpAny_mono h (fun v s' h' => wpAny_pure h') fun _ _ h' => h')
  split
  · exact wpAny_bind (wpAny_of_eq (F.cmp_object.ne.bind _) (wpAny_pure (by exact fin)))
  · exact wpAny_tryCatch (wpAny_bind (wpAny_of_eq (F.cmp_object.ne.bind _) (wpAny_pure (by exact fin))))
theorem try_ne (hu : A.units + 1 < cLine) (X : K.In s.heap) (I : PySem.W.InstAt s.heap x ox C od) (J : PySem.W.InstAt s.heap y oy D oe) (q : EqObj K C) {Q : Option Value → Shared → Prop} (hq : Q (if x = y then some (.bool false) else none) s) :
    wpAny (model prog w) A (tryCompare (.ref x) "__ne__" (.ref y)) Q E s := by
  unfold tryCompare
  refine wpAny_bind (ifBound_objNe X I q.ne (wpAny_call (codeAny_call_builtin F.cmp_object.ne.plain F.cmpEntry_ne
    (PySem.W.check_slot F.cmpKind_ne F.cmpSplit_ne (I.type.andThen (PySem.W.looks_mroIn X q.mro)) (F.cmpArgs_ne _ _) (entry_ne (A := A.in1) hu X I J q ?_)))))
  by_cases h : x = y
  · rw [if_pos h] at hq ⊢
    exact wpAny_pure hq
  · rw [if_neg h] at hq ⊢
    exact wpAny_pure hq
theorem rc_eq (hu : A.units < cLine) (X : K.In s.heap) (I : PySem.W.InstAt s.heap x ox C od) (J : PySem.W.InstAt s.heap y oy C oe) (q : EqObj K C) {Q : Value → Shared → Prop} (hq : Q (.bool (decide (x = y))) s) :
    wpAny (model prog w) A (richCompare .Eq (.ref x) (.ref y)) Q E s := by
  simp only [richCompare, cmpInfo_Eq, oneThing_ref]
  refine wpAny_holding (wpAny_bind (wpAny_cRoomFor hu ?_))
  refine wpAny_bind (I.type.here ?_)
  refine wpAny_bind (J.type.here ?_)
  rw [if_neg (by simp)]
  refine wpAny_bind (wpAny_pure ?_)
  rw [if_neg Bool.false_ne_true]
  refine wpAny_bind (try_eq X I J q ?_)
  by_cases h : x = y
  · rw [if_pos h]
    rw [decide_eq_true h] at hq
    exact wpAny_pure hq
  · rw [if_neg h]
    rw [decide_eq_false h] at hq
    dsimp only
    rw [if_pos (by rfl)]
    refine wpAny_bind (try_eq X J I q ?_)
    rw [if_neg (fun z => h z.symm)]
    dsimp only
    refine wpAny_bind (wpAny_rule (wpAny_bind (wpAny_isSame_ref_other h (inst_cls I).1 (inst_cls J).1 (by rw [(inst_cls I).2]; intro z; cases z) (wpAny_pure hq))))
theorem rc_ne (hu : A.units + 1 < cLine) (X : K.In s.heap) (I : PySem.W.InstAt s.heap x ox C od) (J : PySem.W.InstAt s.heap y oy C oe) (q : EqObj K C) {Q : Value → Shared → Prop} (hq : Q (.bool (!decide (x = y))) s) :
    wpAny (model prog w) A (richCompare .NotEq (.ref x) (.ref y)) Q E s := by
  simp only [richCompare, cmpInfo_NotEq, oneThing_ref]
  refine wpAny_holding (wpAny_bind (wpAny_cRoomFor (Nat.lt_of_succ_lt hu) ?_))
  refine wpAny_bind (I.type.here ?_)
  refine wpAny_bind (J.type.here ?_)
  rw [if_neg (by simp)]
  refine wpAny_bind (wpAny_pure ?_)
  rw [if_neg Bool.false_ne_true]
  refine wpAny_bind (try_ne hu X I J q ?_)
  by_cases h : x = y
  · rw [if_pos h]
    rw [decide_eq_true h] at hq
    exact wpAny_pure hq
  · rw [if_neg h]
    rw [decide_eq_false h] at hq
    dsimp only
    rw [if_pos (by rfl)]
    refine wpAny_bind (try_ne hu X J I q ?_)
    rw [if_neg (fun z => h z.symm)]
    dsimp only
    refine wpAny_bind (wpAny_rule (wpAny_bind (wpAny_isSame_ref_other h (inst_cls I).1 (inst_cls J).1 (by rw [(inst_cls I).2]; intro z; cases z) (wpAny_pure hq))))
end
end BkI
namespace Bk
open PySem PySem.Spec PyProof.Rows L2
/-- x == y, x != y of two instances of one class -/
def rEqO (C : Addr) (neg : Bool) : R2 := fun x y H Q => ∃ a dx fs b dy gs, x = .ref a ∧ y = .ref b ∧ H a = some (.ins C dx fs) ∧ H b = some (.ins C dy gs) ∧ Q (.bl (decide (a = b) != neg)) H
section
variable {X : Cx} {k : Nat} {C : Addr}
theorem op_eqO (q : BkI.EqObj X.K C) (hr : Room k X.A) : OpR X (compareOp .Eq) (rEqO C false) := by
  intro pins s σ H x y v u Q I rx ry h
  obtain ⟨a, dx, fs, b, dy, gs, rfl, rfl, ha, hb, h⟩ := h
  cases (show v = Value.ref a from rx)
  cases (show u = Value.ref b from ry)
  obtain ⟨_, _, J1⟩ := at_ins I ha
  obtain ⟨_, _, J2⟩ := at_ins I hb
  refine BkI.rc_eq (by have := hr.units; omega) I.kIn J1 J2 q ⟨.bl (decide (a = b)), H, I, rfl, ?_⟩
  rw [show (decide (a = b) != false) = decide (a = b) by cases decide (a = b) <;> rfl] at h
  exact h
theorem op_neO (q : BkI.EqObj X.K C) (hr : Room k X.A) : OpR X (compareOp .NotEq) (rEqO C true) := by
  intro pins s σ H x y v u Q I rx ry h
  obtain ⟨a, dx, fs, b, dy, gs, rfl, rfl, ha, hb, h⟩ := h
  cases (show v = Value.ref a from rx)
  cases (show u = Value.ref b from ry)
  obtain ⟨_, _, J1⟩ := at_ins I ha
  obtain ⟨_, _, J2⟩ := at_ins I hb
  refine BkI.rc_ne (by have := hr.units; omega) I.kIn J1 J2 q ⟨.bl (!decide (a = b)), H, I, rfl, ?_⟩
  rw [show (decide (a = b) != true) = !decide (a = b) by cases decide (a = b) <;> rfl] at h
  exact h
/-- two lists of unlike lengths -/
def rEqLen (K : PySem.W.Frag) : R2 := fun x y H Q => ∃ a b xs ys, x = .ref a ∧ y = .ref b ∧ SqL K H a xs ∧ SqL K H b ys ∧ xs.length ≠ ys.length ∧ Q (.bl false) H
theorem op_eqLen (hr : Room k X.A) : OpR X (compareOp .Eq) (rEqLen X.K) := by
  intro pins s σ H x y v u Q I rx ry h
  obtain ⟨a, b, xs, ys, rfl, rfl, ha, hb, hne, h⟩ := h
  cases (show v = Value.ref a from rx)
  cases (show u = Value.ref b from ry)
  obtain ⟨its, r1, p1, _⟩ := I.list ha
  obtain ⟨jts, r2, p2, _⟩ := I.list hb
  refine PySem.SeqAt.eq_list_lengthsAt p1.isList p2.isList ?_ (by have := hr.units; omega) ⟨.bl false, H, I, rfl, h⟩
  rw [List.size_toArray, List.size_toArray, ← r1.length, ← r2.length]
  simpa using hne
end
end Bk

set_option Elab.async false
set_option linter.all false
set_option maxRecDepth 100000
set_option maxHeartbeats 4000000
namespace BkI
open PySem PySem.Spec PyProof.Rows
theorem meets_bool_own {prog : Program} {w : World} (x : Addr) :
    MeetsIn prog w (Builtin.«bool.__new__» ⟨[.type "bool", .ref x], []⟩) (fun A R s => wpAny (model prog w) A.in1 (truthy (.ref x)) (fun b s' => R (.ok (.ret (.bool b))) s') (fun e s' => R (.error e) s') s) :=
  .of_wp fun A R s h => by
    have f1 := F.conv_sub_bool
    obtain ⟨hp, g, d, tk, os⟩ := s
    have step : ∀ {Q : Bool → Shared → Prop}, (∀ b s', R (.ok (.ret (.bool b))) s' → Q b s') → wpAny (model prog w) A.in1 (truthy (.ref x)) Q (fun e s' => R (.error e) s') ⟨hp, g, d, tk, os⟩ := fun q => wpAny_mono h (fun b s' r => q b s' r) fun _ _ z => z
    repeat (any_goals (first | assumption | (with_reducible refine step fun b s' r => ?_) | wp_step))
    all_goals exact ⟨_, rfl, r⟩
end BkI
namespace Bk
open PySem PySem.Spec PyProof.Rows L2
/-- bool(o), by the class's own __bool__ -/
def rBoolO (C : Addr) (sp : Sp) : List V → Hp → VK → Prop := fun xs H Q => ∃ a dx fs, xs = [.ref a] ∧ H a = some (.ins C dx fs) ∧ sp [.ref a] H (fun v H' => ∃ b : Bool, v = .bl b ∧ Q (.bl b) H') E0
theorem call_boolO {X : Cx} {k : Nat} {C f : Addr} {ps : List Str} {sp : Sp} (m : Meth X.K C "__bool__" f) (G : Ok X.prog X.w X.K X.mg X.base k f ps sp) (hr : Room (k + 2) X.A) : CallR X (.type "bool") (rBoolO C sp) := by
  intro pins s σ H xs us Q I r h
  obtain ⟨a, dx, fs, rfl, ha, h⟩ := h
  obtain ⟨u, rfl, ru⟩ := vals1 r
  cases (show u = Value.ref a from ru)
  obtain ⟨ox, od, J⟩ := at_ins I ha
  obtain ⟨_, hF⟩ := I.fr
  refine callType_newIn F.called_bool F.newNe_bool (F.typeCall_bool_1 _) (F.newCall_bool_1 _) (fun obj => F.args_object_init_2 obj _) F.entry_bool_new (BkI.meets_bool_own a) ?_
  refine PySem.W.truthy_K hF I.ok.mod.kin J m.at_ m.fn (thn (run_own G (Room.in1 (Room.in1 hr)) rfl I (.cons (rrf _) .nil) h) fun r s' (z : EP X _ _ _ r s') => ?_)
  obtain ⟨w', H', I', rw', b, rfl, q⟩ := z
  cases (show r = Value.bool b from rw')
  exact ⟨rfl, .bl b, H', I', rfl, q⟩
end Bk
namespace Bk
open PySem PySem.Spec PyProof.Rows L2
/-- str(o), by the class's own __str__ -/
def rStrO (C : Addr) (sp : Sp) : List V → Hp → VK → Prop := fun xs H Q => ∃ a dx fs, xs = [.ref a] ∧ H a = some (.ins C dx fs) ∧ sp [.ref a] H (fun v H' => ∃ b : Str, v = .str b ∧ Q (.str b) H') E0
theorem call_strO {X : Cx} {k : Nat} {C f : Addr} {ps : List Str} {sp : Sp} (m : Meth X.K C "__str__" f) (G : Ok X.prog X.w X.K X.mg X.base k f ps sp) (hr : Room (k + 2) X.A) : CallR X (.type "str") (rStrO C sp) := by
  intro pins s σ H xs us Q I r h
  obtain ⟨a, dx, fs, rfl, ha, h⟩ := h
  obtain ⟨u, rfl, ru⟩ := vals1 r
  cases (show u = Value.ref a from ru)
  obtain ⟨ox, od, J⟩ := at_ins I ha
  refine PySem.W.kso_call (Room.in1 (Room.in1 hr)).units0 I.kIn J m.at_ m.fn (thn (run_own G (Room.in1 (Room.in1 hr)) rfl I (.cons (rrf _) .nil) h) fun r s' (z : EP X _ _ _ r s') => ?_)
  obtain ⟨w', H', I', rw', b, rfl, q⟩ := z
  obtain ⟨t, rfl⟩ := (show ∃ t, r = Value.str b t from rw')
  exact ⟨.str b, H', I', ⟨_, rfl⟩, q⟩
end Bk

set_option Elab.async false
set_option linter.all false
set_option maxRecDepth 100000
set_option maxHeartbeats 4000000
/-! Own layer 9: a def with defaults, called with all of its parameters or without those that have a default. -/
namespace Bk
open PySem PySem.Spec PyProof.Rows L2
/-- as Ok; dvs: what the defaults are -/
structure OkW (P : Program) (w : World) (K : PySem.W.Frag) (mg : Str → Option Value) (base : Heap) (k : Nat) (f : Addr) (ps : List Str) (dvs : List V) (sp : Sp) : Prop where
  ex : ∃ fd, FnOk P w K mg base CX0 k f fd ps sp ∧ Binds K fd ps [] ∧ PySem.W.keepIn K (.ref f) = true ∧ PySem.W.fnIn K f = true ∧ ∃ ds, Vals dvs ds ∧ Binds K fd ps ds
theorem OkW.ok {P : Program} {w : World} {K : PySem.W.Frag} {mg : Str → Option Value} {base : Heap} {k : Nat} {f : Addr} {ps : List Str} {dvs : List V} {sp : Sp} (o : OkW P w K mg base k f ps dvs sp) : Ok P w K mg base k f ps sp :=
  let ⟨fd, a, b, c, d, _⟩ := o.ex
  ⟨fd, a, b, c, d⟩
theorem fd_okW {P : Program} {w : World} {K : PySem.W.Frag} {mg : Str → Option Value} {base : Heap} {x qual : Str} {params : Arguments} {body : List Stmt} {scope : Scope} {dvs : List V} {f : Addr} {N ps : List Str} {k : Nat} {sp : Sp}
    (F : ∃ fd, FunD K x qual params body scope dvs [] f fd) (hd : dvs ≠ []) (n : Nat) (hn : n + dvs.length = ps.length) (S : FnScope N ps scope) (len : ∀ vs H Q E, sp vs H Q E → vs.length = ps.length)
    (hb : ∀ (T : Addr) (kV doc pm : Value) (an : Option Addr) (cdv ct : Value) (us its : List Value), us.length = ps.length → its.length = dvs.length →
      ∃ k, bindArgs (PySem.W.fnOf x qual params body scope (.ref T) kV doc pm an cdv ct) ⟨us, []⟩ = seqItems? (.ref T) >>= k ∧ k (some its.toArray) = pure (ps.zip us))
    (hb0 : ∀ (T : Addr) (kV doc pm : Value) (an : Option Addr) (cdv ct : Value) (us its : List Value), us.length = n → its.length = dvs.length →
      ∃ k, bindArgs (PySem.W.fnOf x qual params body scope (.ref T) kV doc pm an cdv ct) ⟨us, []⟩ = seqItems? (.ref T) >>= k ∧ k (some its.toArray) = pure (ps.zip (us ++ its)))
    (hbody : ∀ (cdv : Value) (A : Around) (outer : List Env) (s : Shared) (H : Hp) (vs : List V) (Q : VK) (E : XK), Room k (A.deeper (envOfC qual scope s.heap.objs.size f cdv)) → sp vs H Q E →
      ∃ t, PSs (cxOf CX0 P w K mg base N qual scope f cdv A outer s H E).nox body t ∧ t { nx := fun _ H' => Q .non H', rt := Q } (start N vs) H) : OkW P w K mg base (k + 1) f ps dvs sp := by
  obtain ⟨fd, F⟩ := F
  obtain ⟨ds, v, b⟩ := F.binds1 (ps := ps) ps.length dvs.length hd (by omega) fun T kV doc pm an cdv ct us its h1 h2 => by
    obtain ⟨k, e1, e2⟩ := hb T kV doc pm an cdv ct us its h1 h2
    refine ⟨k, e1, ?_⟩
    rw [e2, ← h2, List.drop_length, List.append_nil]
  rw [List.drop_length] at v
  cases v
  obtain ⟨ds0, v0, b0⟩ := F.binds1 (ps := ps) n 0 hd (by omega) fun T kV doc pm an cdv ct us its h1 h2 => by
    obtain ⟨k, e1, e2⟩ := hb0 T kV doc pm an cdv ct us its h1 h2
    refine ⟨k, e1, ?_⟩
    rw [e2, List.drop_zero]
  rw [List.drop_zero] at v0
  exact ⟨fd, F.ok S len fun cdv A outer s H vs Q E hr h => let ⟨t, a, b⟩ := hbody cdv A outer s H vs Q E hr h; ⟨t, a.nox, b⟩, b, F.kp, fnIn_of F, ds0, v0, b0⟩
end Bk

set_option Elab.async false
set_option linter.all false
set_option maxRecDepth 100000
set_option maxHeartbeats 4000000
/-! Own layer 10: d.items() and sorted(d.items()) of a dict from ints to ints. -/
namespace Bk
open PySem PySem.Spec PyProof.Rows L2 L2.DX
/-- a dict's entry, both ints -/
abbrev entI (e : Int × Int) : Key × V := (Sum.inl e.1, V.int e.2)
theorem isPair_inj {h : Heap} {v : Value} {x y x' y' : Int} (p : Srt.IsPair h v x y) (q : Srt.IsPair h v x' y') : (x, y) = (x', y') := by
  obtain ⟨a, o, t, u, n, rfl, ho, hc, hd⟩ := p
  obtain ⟨a', o', t', u', n', e, ho', hc', hd'⟩ := q
  cases e
  rw [ho] at ho'
  cases ho'
  rw [hd] at hd'
  cases hd'
  rfl
noncomputable def pairOf (h : Heap) (v : Value) : Int × Int := Classical.epsilon fun p : Int × Int => Srt.IsPair h v p.1 p.2
theorem pairOf_eq {h : Heap} {v : Value} {x y : Int} (p : Srt.IsPair h v x y) : pairOf h v = (x, y) := by
  have q : Srt.IsPair h v (pairOf h v).1 (pairOf h v).2 := Classical.epsilon_spec (p := fun p : Int × Int => Srt.IsPair h v p.1 p.2) ⟨(x, y), p⟩
  exact isPair_inj q p
section
variable {X : Cx}
def rItemsK : V → List V → Hp → VK → Prop := fun x xs H Q => ∃ (a : Addr) (kvs : List (Key × V)), x = .ref a ∧ xs = [] ∧ H a = some (.dK kvs) ∧ ∀ p, H p = none → Q (.ref p) (upd H p (itemsO p a))
theorem mt_itemsK : MtR X "dict.items" rItemsK := by
  intro pins s σ H x xs v us Q I rx rxs h
  obtain ⟨a, kvs, rfl, rfl, ha, q⟩ := h
  cases rx
  cases rxs
  obtain ⟨z, hd, vs, rel, o, es, ep, ho, hx, hdat, _⟩ := dk_of I.hok ha
  refine DT.callItems (es := es) (ep := ep) hd ⟨o, ho, hx, hdat⟩ ?_
  have hf : H s.heap.objs.size = none := I.hok.fresh (Nat.le_refl _)
  exact ⟨.ref s.heap.objs.size, upd H s.heap.objs.size (itemsO s.heap.objs.size a), I.laid (t' := s.toks) (fun b u e => Heap.get?_push_of_some _ e) (Nat.le_refl _) (itemsO_ok (Heap.get?_push_size _ rfl)), rfl, q _ hf⟩
/-- sorted(d.items()), keys and values ints -/
def rSortItK : List V → Hp → VK → Prop := fun vs H Q => ∃ (p a : Addr) (ks : List (Int × Int)), vs = [.ref p] ∧ H p = some (itemsO p a) ∧ H a = some (.dK (ks.map entI)) ∧
  ∀ (H' : Hp) (l : Addr) (ps : List (Addr × Int × Int)), (∀ b o, H b = some o → H' b = some o) → (ps.map (·.2)).Perm ks → (ps.map (·.2)).Pairwise (fun e f => SrtO.lexB f e = false) → H l = none → H' l = some (.lst (ps.map fun z => V.ref z.1)) →
    (∀ z ∈ ps, H z.1 = none ∧ H' z.1 = some (.tup [.int z.2.1, .int z.2.2])) → Q (.ref l) H'
theorem cr_sortedItK (hc : X.calm = true) : CallR X (.builtin "sorted") rSortItK := by
  intro pins s σ H xs us Q I r h
  obtain ⟨p, a, ks, rfl, hp, ha, q⟩ := h
  obtain rfl := Vals.ref1 r
  have view : s.heap.IsItemsView p a := (show ObjOk X.prog X.w H s.heap p (itemsO p a) from I.hok p _ hp).1
  obtain ⟨z, hd, vs, rel, o, es, ep, ho, hx, hdat, hkeys, hprs, hn⟩ := dk_of I.hok ha
  have l1 : (ks.map entI).length = vs.length := Paired.length rel
  have l2 : es.size = vs.length := by
    have e := hprs.length
    simpa using e
  rw [List.length_map] at l1 z
  have hh : X.A.handled = none := I.ok.hd hc
  refine DT.sortedI (es := es) (ep := ep) hh view ⟨o, ho, hx, hdat⟩ (by omega) fun h' tk as hk hlt hl hG => ?_
  have lak : as.length = ks.length := by omega
  have nd : as.Nodup := List.Pairwise.imp (fun h => Nat.ne_of_lt h) hG.rise
  have pr : ∀ (j : Nat) (b : Addr), as[j]? = some b → ∃ (e : Int × Int) (t1 t2 : Tok), ks[j]? = some e ∧ h'.get? b = some { cls := .type "tuple", data := .seq #[Value.int e.1 t1, Value.int e.2 t2] } := by
    intro j b hj
    obtain ⟨en, he, hg⟩ := hG.pairs j b hj
    have jl : j < ks.length := by
      have := (List.getElem?_eq_some_iff.mp hj).1
      omega
    have hkj : ks[j]? = some ks[j] := List.getElem?_eq_getElem jl
    obtain ⟨y, g1, g2, g3⟩ := LiI.paired_get rel (i := j) (x := entI ks[j]) (by rw [List.getElem?_map, hkj] <;> rfl)
    obtain ⟨k, v⟩ := y
    obtain ⟨hkey, hval⟩ := hprs.get? (e := en) (by simpa using he) g1
    have rk : RelV (kV (Sum.inl ks[j].1)) en.key := by
      have g2' : Sum.inl ks[j].1 = k := g2
      rw [g2']
      exact relV_key (show keyIs k en.key = true from hkey)
    obtain ⟨t1, e1⟩ := rk
    have g3' : RelV (V.int ks[j].2) v := g3
    obtain ⟨t2, e2⟩ := g3'
    refine ⟨ks[j], t1, t2, hkj, ?_⟩
    rw [hg, hval, e2, e1]
  have hob : (h'.push { cls := .type "list", data := .seq (as.map Value.ref).toArray }).get? h'.objs.size = some (seqObj "list" (as.map Value.ref).toArray 0) := Heap.get?_push_size _ rfl
  have kb : ∀ b o, s.heap.get? b = some o → (h'.push { cls := .type "list", data := .seq (as.map Value.ref).toArray }).get? b = some o := fun b o e => Heap.get?_push_of_some _ (hk b o e)
  have ne0 : ∀ b o, h'.get? b = some o → b ≠ h'.objs.size := fun b o e => Nat.ne_of_lt (Heap.lt_size e)
  generalize hh2 : h'.push { cls := .type "list", data := .seq (as.map Value.ref).toArray } = h2 at hob kb ⊢
  have ka : ∀ b o, h'.get? b = some o → h2.get? b = some o := fun b o e => by rw [← hh2]; exact Heap.get?_push_of_some _ e
  have ip : ∀ (j : Nat) (b : Addr) (e : Int × Int), as[j]? = some b → ks[j]? = some e → Srt.IsPair h2 (.ref b) e.1 e.2 := by
    intro j b e hj he
    obtain ⟨e', t1, t2, he', hg⟩ := pr j b hj
    obtain rfl : e' = e := Option.some.inj (he'.symm.trans he)
    exact ⟨b, _, t1, t2, 0, rfl, ka _ _ hg, rfl, rfl⟩
  have kf : ∀ (j : Nat) (b : Addr) (e : Int × Int), as[j]? = some b → ks[j]? = some e → pairOf h2 (.ref b) = e := fun j b e hj he => pairOf_eq (ip j b e hj he)
  have at_ : ∀ v ∈ as.map Value.ref, Srt.IsPair h2 v (pairOf h2 v).1 (pairOf h2 v).2 := by
    intro v hv'
    obtain ⟨b, hb, rfl⟩ := List.mem_map.mp hv'
    obtain ⟨j, hj⟩ := List.mem_iff_getElem?.mp hb
    obtain ⟨e, _, _, he, _⟩ := pr j b hj
    rw [kf j b e hj he]
    exact ip j b e hj he
  refine wpAny_call_entry PyProof.Rows.slot_list_sort ⟨_, hob, rfl⟩ PyProof.Rows.entry_list_sort
    (SrtO.list_sort_ord (s := { s with heap := h2, toks := tk }) (SrtO.swo_lex (pairOf h2)) hob (by rw [List.length_map]; omega) (fun h2' => ?_) fun out o1 o2 => ⟨.none, rfl, ?_⟩) (PyProof.Rows.args_list_sort _)
  · refine SrtO.pairs_sortableO (s := { s with heap := h2, toks := tk }) (by omega) at_ fun o e => ?_
    have e' : some o = some (seqObj "list" (as.map Value.ref).toArray 0) := e.symm.trans hob
    cases e'
    intro c
    exact absurd (Value.type.inj c) (by decide)
  · show EP X pins σ Q (.ref h'.objs.size) { s with heap := sortedHeap h2 h'.objs.size (as.map Value.ref) out.toArray, toks := tk }
    have m1 : (as.zip ks).map (fun z : Addr × Int × Int => Value.ref z.1) = as.map Value.ref := by
      have e := List.map_fst_zip (l₁ := as) (l₂ := ks) (by rw [lak]; exact Nat.le_refl _)
      have e2 := congrArg (List.map Value.ref) e
      rw [List.map_map] at e2
      exact e2
    obtain ⟨zs, pz, ez⟩ := perm_lift (fun z : Addr × Int × Int => Value.ref z.1) o2.perm (as.zip ks) m1
    have idx : ∀ z ∈ zs, ∃ j : Nat, as[j]? = some z.1 ∧ ks[j]? = some z.2 := by
      intro z' hz'
      obtain ⟨j, hj⟩ := List.mem_iff_getElem?.mp (pz.mem_iff.mp hz')
      exact ⟨j, List.getElem?_zip_eq_some.mp hj⟩
    have hperm : (zs.map (·.2)).Perm ks := by
      have e := pz.map (·.2)
      have m2 : (as.zip ks).map (·.2) = ks := List.map_snd_zip (by rw [lak]; exact Nat.le_refl _)
      rw [m2] at e
      exact e
    have hsort : (zs.map (·.2)).Pairwise (fun e f => SrtO.lexB f e = false) := by
      have o1' : out.Pairwise (fun x y => SrtO.lexB (pairOf h2 y) (pairOf h2 x) = false) := o1
      rw [← ez, List.pairwise_map] at o1'
      rw [List.pairwise_map]
      refine List.Pairwise.imp_of_mem (fun {x y} hx hy h => ?_) o1'
      obtain ⟨j, j1, j2⟩ := idx x hx
      obtain ⟨i, i1, i2⟩ := idx y hy
      rw [kf j _ _ j1 j2, kf i _ _ i1 i2] at h
      exact h
    have kF : ∀ b o, b ≠ h'.objs.size → h2.get? b = some o → (sortedHeap h2 h'.objs.size (as.map Value.ref) out.toArray).get? b = some o := fun b o hb e => (PyProof.Rows.sortedHeap_old hb (Heap.lt_size e)).trans e
    have kS : ∀ b o, s.heap.get? b = some o → (sortedHeap h2 h'.objs.size (as.map Value.ref) out.toArray).get? b = some o := fun b o e => kF b o (ne0 _ _ (hk b o e)) (kb b o e)
    obtain ⟨eF, heF⟩ := PyProof.Rows.sortedHeap_at (vs := as.map Value.ref) (out := out.toArray) hob
    have I1 : Inv X pins σ H { s with heap := sortedHeap h2 h'.objs.size (as.map Value.ref) out.toArray, toks := tk } := I.kept (t' := tk) kS
    have hn0 : H h'.objs.size = none := I.hok.fresh (Nat.le_of_lt hlt)
    have hlen : (zs.map fun z => V.ref z.1).length ≤ sizeLine := by
      have e := hperm.length_eq
      rw [List.length_map] at e
      rw [List.length_map]
      omega
    have rv : Vals (zs.map fun z => V.ref z.1) out := by
      rw [← ez]
      exact vals_maps (fun z : Addr × Int × Int => V.ref z.1) (fun z => Value.ref z.1) zs fun _ _ => rfl
    have I2 : Inv X pins σ (upd H h'.objs.size (.lst (zs.map fun z => V.ref z.1))) { s with heap := sortedHeap h2 h'.objs.size (as.map Value.ref) out.toArray, toks := tk } :=
      I1.take (h' := sortedHeap h2 h'.objs.size (as.map Value.ref) out.toArray) (t' := tk) (fun b ob _ e => e) (I.fpOk (Nat.le_of_lt hlt) hn0) ⟨hlen, out, eF, rv, heF⟩
    obtain ⟨H2, I3, g, qt⟩ := takeT (P := fun b vs => ∃ (j : Nat) (e : Int × Int), as[j]? = some b ∧ ks[j]? = some e ∧ vs = [.int e.1, .int e.2]) I as _ I2 nd fun b hb => by
      obtain ⟨j, hj⟩ := List.mem_iff_getElem?.mp hb
      obtain ⟨e, t1, t2, he, hg⟩ := pr j b hj
      have hbl : s.heap.objs.size ≤ b := Nat.le_of_lt (hG.above b hb)
      refine ⟨hbl, ?_, [.int e.1, .int e.2], ⟨j, e, hj, he, rfl⟩, fun H3 => ⟨(by rw [sizeLine_eq]; show 2 ≤ 16777216; omega), [Value.int e.1 t1, Value.int e.2 t2], .cons ⟨t1, rfl⟩ (.cons ⟨t2, rfl⟩ .nil), ⟨_, kF _ _ (ne0 _ _ hg) (ka _ _ hg), rfl, 0, rfl⟩⟩⟩
      rw [upd_ne (ne0 _ _ hg)]
      exact I.hok.fresh hbl
    have gr : ∀ b o, H b = some o → H2 b = some o := fun b o e => g b o (by rw [upd_ne (ne_of_none e hn0)]; exact e)
    refine ⟨.ref h'.objs.size, H2, I3, rfl, q H2 h'.objs.size zs gr hperm hsort hn0 (g _ _ upd_same) fun z' hz' => ?_⟩
    obtain ⟨i, i1, i2⟩ := idx z' hz'
    obtain ⟨vs, ⟨j, e, j1, j2, ev⟩, hH⟩ := qt z'.1 (List.mem_of_getElem? i1)
    have eij : i = j := (List.getElem?_inj (List.getElem?_eq_some_iff.mp i1).1 nd).mp (i1.trans j1.symm)
    subst eij
    have ee : e = z'.2 := Option.some.inj (j2.symm.trans i2)
    rw [ev, ee] at hH
    exact ⟨I.hok.fresh (Nat.le_of_lt (hG.above _ (List.mem_of_getElem? i1))), hH⟩
end
end Bk

set_option Elab.async false
set_option linter.all false
set_option maxRecDepth 100000
set_option maxHeartbeats 4000000
/-! Own layer 11: plain tuples (known to have no attributes of their own), dict() of a tuple of pairs. -/
namespace Bk
open PySem PySem.Spec PyProof.Rows L2
/-- the tuple at a is xs, and known to the object -/
def PlT (K : PySem.W.Frag) (H : Hp) (a : Addr) (xs : List V) : Prop :=
  (∃ o : Obj, H a = some (.frz o (.tup xs)) ∧ o.cls = .type "tuple" ∧ o.dict = none) ∨
    ∃ (o : Obj) (its : Array Value) (n : Nat), K.lookup a = some o ∧ o.cls = .type "tuple" ∧ o.dict = none ∧ o.data = .seq its n ∧ its.size ≤ sizeLine ∧ Vals xs its.toList
theorem PlT.sqt {K : PySem.W.Frag} {H : Hp} {a : Addr} {xs : List V} (h : PlT K H a xs) : SqT K H a xs := by
  rcases h with ⟨o, e, _⟩ | ⟨o, its, n, e, hc, _, hd, hz, r⟩
  · exact .inl (.inr ⟨o, e⟩)
  · exact .inr ⟨o, its, n, e, hc, hd, hz, r⟩
theorem PlT.mono {K : PySem.W.Frag} {H H' : Hp} {a : Addr} {xs : List V} (h : PlT K H a xs) (k : ∀ o u, H a = some (.frz o u) → H' a = some (.frz o u)) : PlT K H' a xs :=
  h.imp (fun ⟨o, e, r⟩ => ⟨o, k _ _ e, r⟩) id
theorem plt_new {K : PySem.W.Frag} {H : Hp} {a : Addr} {xs : List V} {o : Obj} (hc : o.cls = .type "tuple") (hd : o.dict = none) : PlT K (upd H a (.frz o (.tup xs))) a xs :=
  .inl ⟨o, upd_same, hc, hd⟩
section
variable {X : Cx}
theorem Inv.plain {pins : List (Addr × Obj)} {σ : L2.St} {H : Hp} {s : Shared} {a : Addr} {xs : List V} (I : L2.Inv X pins σ H s) (h : PlT X.K H a xs) : ∃ its : List Value, Vals xs its ∧ PlainSeq "tuple" s.heap a its.toArray ∧ xs.length ≤ sizeLine := by
  rcases h with ⟨o, e, hc, hd⟩ | ⟨o, its, n, e, hc, hd, hdat, hz, r⟩
  · obtain ⟨ho, z, its, r, o', ho', hc', n, hd'⟩ := (show ObjOk X.prog X.w H s.heap a (.frz o (.tup xs)) from I.hok a _ e)
    have eo : o = o' := Option.some.inj (ho.symm.trans ho')
    subst eo
    exact ⟨its, r, ⟨o, n, ho, hc, hd, hd'⟩, z⟩
  · refine ⟨its.toList, r, ⟨o, n, I.kIn a o e, hc, hd, by simpa using hdat⟩, ?_⟩
    have e := r.length
    simp only [Array.length_toList] at e
    omega
/-- tuple(x) of a list: a new plain tuple -/
def kTupP (K : PySem.W.Frag) (x : V) (H : Hp) (Q : VK) : Prop :=
  ∃ p xs, x = .ref p ∧ SqL K H p xs ∧ ∀ q o, H q = none → o.cls = .type "tuple" → o.dict = none → Q (.ref q) (upd H q (.frz o (.tup xs)))
theorem rl_tupleP (pins : List (Addr × Obj)) (s : Shared) (σ : L2.St) (H : Hp) (x : V) (v : Value) (Q : VK) (I : L2.Inv X pins σ H s) (r : RelV x v) (h : kTupP X.K x H Q) :
    wpAny (model X.prog X.w) X.A (call (.type "tuple") [v]) (EP X pins σ Q) X.xe s := by
  obtain ⟨p, xs, rfl, hs, q⟩ := h
  obtain rfl : v = .ref p := r
  obtain ⟨its, rv, pl, hz⟩ := I.list hs
  refine call_tuple_list pl.isList (fun h' hk => ?_) (by rw [List.size_toArray, ← rv.length]; exact hz)
  have I1 : L2.Inv X pins σ H { s with heap := h' } := I.kept (t' := s.toks) hk
  have I2 : L2.Inv X pins σ (upd H h'.objs.size (.frz { cls := .type "tuple", data := .seq its.toArray } (.tup xs))) { s with heap := h'.push { cls := .type "tuple", data := .seq its.toArray } } :=
    I1.laid (t' := s.toks) (fun b o e => Heap.get?_push_of_some _ e) (Nat.le_refl _) (show ObjOk X.prog X.w _ _ _ (.frz _ (.tup xs)) from ⟨Heap.get?_push_size _ rfl, hz, its, rv, IsTup.new _ _⟩)
  exact ⟨.ref h'.objs.size, _, I2, rfl, q _ _ (I1.hok.fresh (Nat.le_refl _)) rfl rfl⟩
theorem pe_tupleP {a : Expr} {ta : TE} {p pos : Pos} (hg : Gl X "tuple") (hm : X.mg "tuple" = none) (ha : PE X a ta) (na : starEach [a] X.env = (false, eval a X.env) :: starEach [] X.env := by rfl) :
    PE X (.Call (.Name "tuple" p) [a] [] pos) (tThen ta (kTupP X.K)) := by
  refine ⟨fun pins s σ H Q I h => ?_⟩
  exact Call_ (ld_blt I hg hm boot_tuple (PyProof.Rows.callWith_type1 (one_arg ha I h (fun v s2 x H2 I2 r q => rl_tupleP pins s2 σ H2 x v Q I2 r q) na) na))
/-- a tuple of written items -/
def tTupP (t : TA) : TE := fun σ H Q => t σ H fun xs H1 => xs.length ≤ sizeLine ∧ ∀ p o, H1 p = none → o.cls = .type "tuple" → o.dict = none → Q (.ref p) (upd H1 p (.frz o (.tup xs)))
theorem pe_tupP {es : List Expr} {t : TA} {pos : Pos} {x1} (h : PA X es t) : PE X (.Tuple es x1 pos) (tTupP t) := by
  refine ⟨fun pins s σ H Q I hq => ?_⟩
  refine wpAny_Tuple_spliced (thn (h.run pos pins s σ H _ I hq) fun us s1 ⟨xs, H1, I1, r, z, q⟩ => ⟨by rw [← r.length]; exact z, ?_⟩)
  have hf : H1 s1.heap.objs.size = none := I1.hok.fresh (Nat.le_refl _)
  refine ⟨.ref s1.heap.objs.size, upd H1 s1.heap.objs.size (.frz { cls := .type "tuple", data := .seq us.toArray } (.tup xs)), I1.laid (t' := s1.toks) (fun b u e => Heap.get?_push_of_some _ e) (Nat.le_refl _) ?_, rfl, q _ _ hf rfl rfl⟩
  exact ⟨Heap.get?_push_size _ rfl, z, us, r, ⟨_, Heap.get?_push_size _ rfl, rfl, _, rfl⟩⟩
theorem pairs_of2 {pins : List (Addr × Obj)} {σ : L2.St} {H : Hp} {s : Shared} (I : L2.Inv X pins σ H s) : ∀ {ps : List Addr} {kvs : List (Key × V)}, Paired (fun p kv => SqT X.K H p [kV kv.1, kv.2]) ps kvs →
    ∃ (prs : List (Key × Value)) (us : List (Value × Value)), KV kvs prs ∧ prs.length = us.length ∧ us.length = ps.length ∧ ∀ (j : Nat) (u v : Value), us[j]? = some (u, v) → ∃ (b : Addr) (k : Key), ps[j]? = some b ∧ IsTup s.heap b #[u, v] ∧ prs[j]? = some (k, v) ∧ keyIs k u = true
  | _, _, .nil => ⟨[], [], .nil, rfl, rfl, fun j u v e => by simp at e⟩
  | _, _, .cons (a := p) (b := kv) h t => by
    obtain ⟨prs, us, r, h1, h2, hp⟩ := pairs_of2 I t
    obtain ⟨its, rv, ht, _⟩ := I.tuple h
    obtain ⟨u, y, ei, ru, ry⟩ := vals2 rv
    subst ei
    refine ⟨(kv.1, y) :: prs, (u, y) :: us, .cons ⟨rfl, ry⟩ r, by simp [h1], by simp [h2], fun j u' v' e => ?_⟩
    cases j with
    | zero =>
      have e' : (u, y) = (u', v') := Option.some.inj e
      cases e'
      exact ⟨p, kv.1, rfl, ht, rfl, kV_is (P := X.prog) (w := X.w) ru⟩
    | succ j =>
      obtain ⟨b, k, e1, e2, e3, e4⟩ := hp j u' v' (by simpa using e)
      exact ⟨b, k, by simpa using e1, e2, by simpa using e3, e4⟩
/-- dict(t) of a plain tuple of pairs -/
theorem call_dictT (hcalm : X.calm = true) : CallR X (.type "dict") (fun xs H Q => ∃ (a : Addr) (ps : List Addr) (kvs : List (Key × V)), xs = [.ref a] ∧ PlT X.K H a (ps.map V.ref) ∧ Paired (fun p kv => SqT X.K H p [kV kv.1, kv.2]) ps kvs ∧
    ∀ p, H p = none → Q (.ref p) (upd H p (.dK (mergeK [] kvs)))) := by
  intro pins s σ H xs us Q I r q
  obtain ⟨a, ps, kvs, ex, hq, hp, q⟩ := q
  subst ex
  obtain ⟨u, eu, rx⟩ := vals1 r
  subst eu
  cases rx
  obtain ⟨its, rv, pl, hz⟩ := Inv.plain I hq
  have ei := refs_at rv
  subst ei
  rw [List.length_map] at hz
  obtain ⟨prs, us, rel, l1, l2, hpr⟩ := pairs_of2 I hp
  refine PySem.call_dict_pairs (knd := mixKind X.prog X.w) (kvs := prs) (PairArg.tuple (prog := X.prog) (w := X.w) a (ps.map Value.ref).toArray (fun j => (ps[j]?).getD 0) us) (I.ok.hd hcalm) ⟨pl, by simp [l2], fun j k v e => ?_⟩ ⟨l1, fun j u v e => ?_⟩ (by omega) fun h' tk hd' k => ?_
  · obtain ⟨b, key, e1, e2, _⟩ := hpr j k v e
    have e0 : (ps[j]?).getD 0 = b := by rw [e1] <;> rfl
    show (ps.map Value.ref).toArray[j]? = some (.ref ((ps[j]?).getD 0)) ∧ PairAt s.heap ((ps[j]?).getD 0) k v
    rw [e0]
    exact ⟨by simp [e1], .inl e2⟩
  · obtain ⟨b, key, _, _, e3, e4⟩ := hpr j u v e
    exact ⟨key, e3, e4⟩
  · have hm : (s.heap.objs.size == sysModules) = false := beq_eq_false_iff_ne.mpr (Nat.ne_of_gt I.big)
    have hlen : (mergeK [] kvs).length ≤ sizeLine := by
      refine Nat.le_trans (length_mergeK kvs []) ?_
      rw [List.length_nil, Nat.zero_add, rel.length, l1, l2]
      exact hz
    have k' : ∀ b o, s.heap.get? b = some o → h'.get? b = some o := fun b o e => k b o (by simp) e
    exact ⟨.ref s.heap.objs.size, upd H s.heap.objs.size (.dK (mergeK [] kvs)), I.laid (t' := tk) k' (Nat.le_refl _) (show ObjOk X.prog X.w _ _ _ (.dK (mergeK [] kvs)) from ⟨hlen, hm, merged [] prs, KV.merge rel .nil, hd'⟩), rfl, q _ (I.hok.fresh (Nat.le_refl _))⟩
end
end Bk

set_option Elab.async false
set_option linter.all false
set_option maxRecDepth 100000
set_option maxHeartbeats 4000000
/-! Own layer 12: {k: v for x in a for y in b}; {**a, **b, **c}; calls by keywords alone. -/
namespace Bk
open PySem PySem.Spec PyProof.Rows L2
abbrev dc2 (kx vx t0 i0 t1 i1 : Expr) (sc : Scope) (ps : Pos) : Expr := .DictComp kx vx [⟨t0, i0, [], 0⟩, ⟨t1, i1, [], 0⟩] sc ps
theorem dcTurn0 (kx vx t0 i0 t1 i1 : Expr) (sc : Scope) (ps : Pos) (it acc : Value) (env : Env) :
    compTurn (dc2 kx vx t0 i0 t1 i1 sc ps) 0 it acc env = (do
      standAt i0.pos
      match ← pyNext it with
      | none => pure (.done .next)
      | some v =>
        letOwnedTupleGo t0 it v
        assign t0 env v
        let mut ok := true
        for c in ([] : List Expr) do
          if ok then ok ← isTrue c env (eval c env)
        if ok then
          let x ← eval i1 env
          standAt i1.pos
          let x ← foldedSetIterable i1 env x
          let _ ← runOwn (.compStart (dc2 kx vx t0 i0 t1 i1 sc ps) 1 (← holding [x] (pyIter x)) acc env) env
        again (.compLoop (dc2 kx vx t0 i0 t1 i1 sc ps) 0 it acc env)) := by rfl
theorem dcTurn1 (kx vx t0 i0 t1 i1 : Expr) (sc : Scope) (ps : Pos) (it : Value) (D : Addr) (env : Env) :
    compTurn (dc2 kx vx t0 i0 t1 i1 sc ps) 1 it (.ref D) env = (do
      standAt i1.pos
      match ← pyNext it with
      | none => pure (.done .next)
      | some v =>
        letOwnedTupleGo t1 it v
        assign t1 env v
        let mut ok := true
        for c in ([] : List Expr) do
          if ok then ok ← isTrue c env (eval c env)
        if ok then
          (do
            let a ← eval kx env
            let b ← holding [a] (eval vx env)
            standAt { kx.pos with endLine := vx.pos.endLine, endCol := vx.pos.endCol }
            holding [a, b] (dictSet D a b))
        again (.compLoop (dc2 kx vx t0 i0 t1 i1 sc ps) 1 it (.ref D) env)) := by rfl
section
variable {P : Program} {w : World} {A : Around} {R : Result → Shared → Prop} {s : Shared} {kx vx t0 i0 t1 i1 : Expr} {sc : Scope} {ps : Pos} {it acc : Value} {env : Env} {D : Addr}
theorem dcLoop0 (hs : ∀ x, foldedSetIterable i1 env x = pure x) (I : Nat → Shared → Prop)
    (turn : ∀ n s, I n s → wpAny (model P w) A (pyNext it) (fun r sa => match r with
      | none => R (.ok .next) sa
      | some v => wpAny (model P w) A (letOwnedTupleGo t0 it v) (fun _ sb => wpAny (model P w) A (assign t0 env v) (fun _ sc' => wpAny (model P w) A (eval i1 env) (fun x sd => wpAny (model P w) A (pyIter x) (fun jt se =>
          codeAny (model P w) A (.compStart (dc2 kx vx t0 i0 t1 i1 sc ps) 1 jt acc env) (fun r sz => match r with
            | .ok _ => ∃ m, m < n ∧ I m sz
            | .error _ => False) se) (notedBy (model P w) A env fun e sz => R (.error e) sz) sd) (notedBy (model P w) A env fun e sz => R (.error e) sz) sc') (notedBy (model P w) A env fun e sz => R (.error e) sz) sb) (notedBy (model P w) A env fun e sz => R (.error e) sz) sa) (notedBy (model P w) A env fun e sz => R (.error e) sz) s)
    (n : Nat) (h : I n s) : codeAny (model P w) A (.compLoop (dc2 kx vx t0 i0 t1 i1 sc ps) 0 it acc env) R s := by
  refine codeAny_loop rfl I (fun n s hI => ?_) n h
  show wpAny _ A ((compTurn (dc2 kx vx t0 i0 t1 i1 sc ps) 0 it acc env).onRaise (fun x => do noteFrame x env; theTreesLotGoes x)) _ _ s
  refine wpAny_noted ?_
  rw [dcTurn0]
  refine wpAny_bind (wpAny_standAt (wpAny_bind (wpAny_mono (turn n s hI) (fun r sa ha => ?_) fun _ _ z => z)))
  cases r with
  | none => exact wpAny_pure ha
  | some v =>
    refine wpAny_bind (wpAny_mono ha (fun _ sb hb => ?_) fun _ _ z => z)
    refine wpAny_bind (wpAny_mono hb (fun _ sc' hc => ?_) fun _ _ z => z)
    dsimp only
    rw [List.forIn_nil]
    refine wpAny_bind (wpAny_pure ?_)
    rw [if_pos rfl]
    refine wpAny_bind (wpAny_mono hc (fun x sd hd => ?_) fun _ _ z => z)
    refine wpAny_bind (wpAny_standAt (wpAny_bind (wpAny_of_eq (hs x) (wpAny_bind (wpAny_holding (wpAny_mono hd (fun jt se he => ?_) fun _ _ z => z))))))
    refine wpAny_bind (wpAny_runOwn ?_)
    rw [Around.mark_none]
    refine codeAny_mono he fun r sz hr => ?_
    cases r with
    | error e => exact hr.elim
    | ok f =>
      first
        | exact wpAny_pure ⟨rfl, hr⟩
        | exact wpAny_bind (wpAny_pure (wpAny_pure ⟨rfl, hr⟩))
theorem dcLoop1 (I : Nat → Shared → Prop)
    (turn : ∀ n s, I n s → wpAny (model P w) A (pyNext it) (fun r sa => match r with
      | none => R (.ok .next) sa
      | some v => wpAny (model P w) A (letOwnedTupleGo t1 it v) (fun _ sb => wpAny (model P w) A (assign t1 env v) (fun _ sc' => wpAny (model P w) A (eval kx env) (fun a sd => wpAny (model P w) A (eval vx env) (fun b se =>
          wpAny (model P w) A (dictSet D a b) (fun _ sz => ∃ m, m < n ∧ I m sz) (notedBy (model P w) A env fun e sz => R (.error e) sz) se) (notedBy (model P w) A env fun e sz => R (.error e) sz) sd) (notedBy (model P w) A env fun e sz => R (.error e) sz) sc') (notedBy (model P w) A env fun e sz => R (.error e) sz) sb) (notedBy (model P w) A env fun e sz => R (.error e) sz) sa) (notedBy (model P w) A env fun e sz => R (.error e) sz) s)
    (n : Nat) (h : I n s) : codeAny (model P w) A (.compLoop (dc2 kx vx t0 i0 t1 i1 sc ps) 1 it (.ref D) env) R s := by
  refine codeAny_loop rfl I (fun n s hI => ?_) n h
  show wpAny _ A ((compTurn (dc2 kx vx t0 i0 t1 i1 sc ps) 1 it (.ref D) env).onRaise (fun x => do noteFrame x env; theTreesLotGoes x)) _ _ s
  refine wpAny_noted ?_
  rw [dcTurn1]
  refine wpAny_bind (wpAny_standAt (wpAny_bind (wpAny_mono (turn n s hI) (fun r sa ha => ?_) fun _ _ z => z)))
  cases r with
  | none => exact wpAny_pure ha
  | some v =>
    refine wpAny_bind (wpAny_mono ha (fun _ sb hb => ?_) fun _ _ z => z)
    refine wpAny_bind (wpAny_mono hb (fun _ sc' hc => ?_) fun _ _ z => z)
    dsimp only
    rw [List.forIn_nil]
    refine wpAny_bind (wpAny_pure ?_)
    rw [if_pos rfl]
    exact wpAny_bind (wpAny_bind (wpAny_mono hc (fun a sd hd => wpAny_bind (wpAny_holding (wpAny_mono hd (fun b se he => wpAny_bind (wpAny_standAt (wpAny_holding (wpAny_mono he (fun _ sz hz => wpAny_pure ⟨rfl, hz⟩) fun _ _ z => z)))) fun _ _ z => z))) fun _ _ z => z))
theorem dcStart1 (h0 : codeAny (model P w) A (.compLoop (dc2 kx vx t0 i0 t1 i1 sc ps) 1 it acc env) R s)
    (h : wpAny (model P w) A (pyIter it) (fun jt sz => codeAny (model P w) A (.compLoop (dc2 kx vx t0 i0 t1 i1 sc ps) 1 jt acc env) R sz) (notedBy (model P w) A env fun x sz => R (.error x) sz) s) :
    codeAny (model P w) A (.compStart (dc2 kx vx t0 i0 t1 i1 sc ps) 1 it acc env) R s := by
  refine codeAny_of_tree ?_
  show wpAny _ _ ((compStart (dc2 kx vx t0 i0 t1 i1 sc ps) 1 it acc env).onRaise (fun x => do noteFrame x env; standAt theWindowsPlace)) _ _ s
  refine wpAny_notedAt ?_
  unfold compStart
  show wpAny _ _ (ask >>= _) _ _ s
  refine wpAny_bind (wpAny_askSetting (wpAny_ite ?_))
  split
  · first
      | exact wpAny_pure (And.intro rfl h0)
      | exact wpAny_bind (wpAny_pure (wpAny_pure (And.intro rfl h0)))
  · refine wpAny_bind (wpAny_rule ?_)
    first
      | exact wpAny_bind (wpAny_standAt (wpAny_bind (wpAny_mono h (fun jt sz q => wpAny_pure (And.intro rfl q)) fun _ _ x => x)))
      | (show wpAny _ _ (standAt i1.pos >>= _) _ _ s; exact wpAny_bind (wpAny_standAt (wpAny_bind (wpAny_mono h (fun jt sz q => wpAny_pure (And.intro rfl q)) fun _ _ x => x))))
end
section
variable {X : Cx}
/-- {kx: vx for t0 in i0 for t1 in i1}: vs the block's names, us those of the second target -/
def tDc2 (wi : TI) (g : TG) (wi1 : TI) (g1 : TG) (tk tv : TE) (vs us : List Nat) : TE := fun σ H Q => wi σ H fun J H1 => ∀ D, H1 D = none → ∃ W : Nat → Nat → Hp → Prop, (∃ m, W 0 m (upd H1 D (.dK []))) ∧ ∀ i m H, W i m H →
  (J.stop i H ∧ Q (.ref D) H) ∨ (J.go i H ∧ ∃ Nx : Hp → Prop, (∀ H', Nx H' → ∃ m', m' < m ∧ W (i + 1) m' H') ∧ ∀ x H', J.yld i H x H' → g x (wipe σ vs) H' fun σ2 H3 => wipe σ2 vs = wipe σ vs ∧
    wi1 σ2 H3 fun J1 H4 => ∃ V1 : Nat → Nat → Hp → Prop, (∃ m, V1 0 m H4) ∧ ∀ j k H, V1 j k H →
      (J1.stop j H ∧ Nx H) ∨ (J1.go j H ∧ ∃ Ny : Hp → Prop, (∀ H', Ny H' → ∃ k', k' < k ∧ V1 (j + 1) k' H') ∧ ∀ x H', J1.yld j H x H' → g1 x (wipe σ2 us) H' fun σ3 H5 => wipe σ3 us = wipe σ2 us ∧
        tk σ3 H5 fun y H6 => tv σ3 H6 fun z H7 => ∃ kvs k, y = kV k ∧ H7 D = some (.dK kvs) ∧ kvs.length < sizeLine ∧ Ny (upd H7 D (.dK (putK kvs k z)))))
theorem dc2_core {pins : List (Addr × Obj)} {s : Shared} {σ : L2.St} {H : Hp} {Q : VK} {kx vx t0 i0 t1 i1 : Expr} {sc : Scope} {own : List (Str × Nat)} {us : List Nat} {ps pos' : Pos} {wi wi1 : TI} {g g1 : TG} {tk tv : TE} {use : Option (Value → Sem Unit)} {Qf : Value → Shared → Prop} (hc : X.calm = true) (hN : X.N.Nodup) (I : L2.Inv X pins σ H s) (hi : PI X t0 i0 wi) (ok : BlkOk X.N X.env.scope sc own) (hv : ∀ i ∈ us, i ∈ own.map (·.2))
    (hg : ∀ (s : Shared) (H : Hp) (C : Addr) (cl : List (Str × Addr)) (fp : List Addr), PG (X.blk s H sc (compEnvC sc cl C X.env) fp) t0 g)
    (hi1 : ∀ (s : Shared) (H : Hp) (C : Addr) (cl : List (Str × Addr)) (fp : List Addr), PI (X.blk s H sc (compEnvC sc cl C X.env) fp) t1 i1 wi1)
    (hg1 : ∀ (s : Shared) (H : Hp) (C : Addr) (cl : List (Str × Addr)) (fp : List Addr), PG (X.blk s H sc (compEnvC sc cl C X.env) fp) t1 g1)
    (hk : ∀ (s : Shared) (H : Hp) (C : Addr) (cl : List (Str × Addr)) (fp : List Addr), PE (X.blk s H sc (compEnvC sc cl C X.env) fp) kx tk)
    (he : ∀ (s : Shared) (H : Hp) (C : Addr) (cl : List (Str × Addr)) (fp : List Addr), PE (X.blk s H sc (compEnvC sc cl C X.env) fp) vx tv)
    (hs : ∀ x, foldedSetIterable i0 X.env x = pure x) (hs1 : ∀ env x, foldedSetIterable i1 env x = pure x) (h : tDc2 wi g wi1 g1 tk tv (own.map (·.2)) us σ H Q)
    (hRR : ∀ D C s' m H', L2.Inv X pins σ H' s' → Q (.ref D) H' → s'.heap.Ns C m → FpOk X pins H' C → compPost (model X.prog X.w) X.A X.xe use Qf (.ref D) C (.ok .next) s') :
    wpAny (model X.prog X.w) X.A (comprehension (dc2 kx vx t0 i0 t1 i1 sc ps) sc X.env pos' newDict false (eval i0 X.env) use) Qf X.xe s := by
  have hfree : ∀ y ∈ sc.names, y.2 = .free → ∃ c, X.env.cells.lookup y.1 = some c := fun y hy e => (ok.free y hy e).elim (fun k => I.ok.has _ (.inl k)) fun k => I.ok.has _ (.inr k)
  refine wpAny_comprehension_free (use := use) rfl hs (closure_ok hfree) ok.kind (fun y hy e => by rw [ok.uniq y hy, e]) (thn (hi.run pins s σ H _ I h) fun xv s1 hx => thn hx fun itv s2 h2 => ?_)
  obtain ⟨it, fp, tn, J, H2, e, I2, T, st2, f2, q⟩ := h2
  subst e
  refine wpAny_newObj_type (newEnv_comp ?_)
  have hDn : H2 s2.heap.objs.size = none := I2.hok.fresh (Nat.le_refl _)
  have sz : ∀ b ∈ fp, b < s2.heap.objs.size := fun b hb => let ⟨o, e, _⟩ := T.obj _ _ st2 b hb; Heap.lt_size e
  have I3 : L2.Inv X pins σ (upd H2 s2.heap.objs.size (.dK [])) { s2 with heap := s2.heap.push { cls := .type "dict", data := .dict #[] } } :=
    I2.laid (t' := s2.toks) (fun _ _ e => Heap.get?_push_of_some _ e) (Nat.le_refl _) (dk_empty s2.heap I2.big)
  generalize hD : s2.heap.objs.size = D at hDn sz I3 ⊢
  obtain ⟨W, ⟨m0, w0⟩, turn⟩ := q D hDn
  have st3 : tn 0 (s2.heap.push { cls := .type "dict", data := .dict #[] }) := T.keep _ _ _ st2 fun b _ o e => Heap.get?_push_of_some _ e
  have z3 : (s2.heap.push { cls := .type "dict", data := .dict #[] }).objs.size = D + 1 := by rw [Heap.size_push, hD]
  generalize hs3 : ({ s2 with heap := s2.heap.push { cls := .type "dict", data := .dict #[] } } : Shared) = s3 at I3
  have h3 : s3.heap = s2.heap.push { cls := .type "dict", data := .dict #[] } := by rw [← hs3]
  rw [← h3] at st3 z3
  generalize hH3 : upd H2 D (.dK []) = H3 at I3 w0
  have f3 : ∀ b ∈ fp, FpOk X pins H3 b ∧ b < s3.heap.objs.size := fun b hb => by
    have hlt := sz b hb
    refine ⟨⟨?_, (f2 b hb).2⟩, by rw [z3]; exact Nat.lt_succ_of_lt hlt⟩
    rw [← hH3, upd_ne (Nat.ne_of_lt hlt)]
    exact (f2 b hb).1
  have I4 := block_start I3 ok hN f3
  have pg := hg s3 H3 s3.heap.objs.size (cellsFrom (s3.heap.objs.size + 1) sc.names (cloFrom X.env.cells sc.names [])) fp
  have pk := hk s3 H3 s3.heap.objs.size (cellsFrom (s3.heap.objs.size + 1) sc.names (cloFrom X.env.cells sc.names [])) fp
  have pe := he s3 H3 s3.heap.objs.size (cellsFrom (s3.heap.objs.size + 1) sc.names (cloFrom X.env.cells sc.names [])) fp
  have pi1 := hi1 s3 H3 s3.heap.objs.size (cellsFrom (s3.heap.objs.size + 1) sc.names (cloFrom X.env.cells sc.names [])) fp
  have pg1 := hg1 s3 H3 s3.heap.objs.size (cellsFrom (s3.heap.objs.size + 1) sc.names (cloFrom X.env.cells sc.names [])) fp
  have goal : codeAny (model X.prog X.w) X.A (.compStart (dc2 kx vx t0 i0 t1 i1 sc ps) 0 (.ref it) (.ref D) (compEnvC sc (cellsFrom (s3.heap.objs.size + 1) sc.names (cloFrom X.env.cells sc.names [])) s3.heap.objs.size X.env)) (compPost (model X.prog X.w) X.A X.xe use Qf (.ref D) s3.heap.objs.size) { s3 with heap := pushCells (s3.heap.push { cls := .type "dict", data := .dict #[] }) sc.names } := by
    have nfp : ∀ b ∈ fp, H3 b = none := fun b hb => (f3 b hb).1.1
    generalize hce : compEnvC sc (cellsFrom (s3.heap.objs.size + 1) sc.names (cloFrom X.env.cells sc.names [])) s3.heap.objs.size X.env = ce at I4 pg pk pe pi1 pg1 ⊢
    have cL : ce.locals = s3.heap.objs.size := by subst hce; rfl
    generalize hs4 : ({ s3 with heap := pushCells (s3.heap.push { cls := .type "dict", data := .dict #[] }) sc.names } : Shared) = s4 at I4 ⊢
    have st4 : tn 0 s4.heap := T.keep _ _ _ st3 fun b _ o e => by rw [← hs4]; exact pushCells_keeps _ _ _ _ (Heap.get?_push_of_some _ e)
    have stat : ∀ {σ' : L2.St} {H' : Hp} {s' : Shared}, L2.Inv (X.blk s3 H3 sc ce fp) [] σ' H' s' → (∀ b ∈ fp, H' b = none) → ∀ b ∈ fp, FpOk (X.blk s3 H3 sc ce fp) [] H' b := fun J' hn b hb =>
      ⟨hn b hb, (J'.ok.exf b hb).1, J'.ok.exfs b hb, .inl hb, fun x c e => (J'.ok.exf b hb).2 x c e, fun p hp => absurd (show p ∈ ([] : List (Addr × Obj)) ++ [] from hp) (by simp)⟩
    have loop : codeAny (model X.prog X.w) X.A (.compLoop (dc2 kx vx t0 i0 t1 i1 sc ps) 0 (.ref it) (.ref D) ce) (compPost (model X.prog X.w) X.A X.xe use Qf (.ref D) s3.heap.objs.size) s4 := by
      refine dcLoop0 (hs1 ce) (fun n s' => ∃ i H', L2.Inv (X.blk s3 H3 sc ce fp) [] (wipe σ (own.map (·.2))) H' s' ∧ tn i s'.heap ∧ (∀ b ∈ fp, H' b = none) ∧ W i n H') ?_ m0 ⟨0, H3, I4, st4, nfp, w0⟩
      rintro n s5 ⟨i, H5, I5, st5, n5, w5⟩
      rcases turn i n H5 w5 with ⟨stop, qq⟩ | ⟨go, Nx, hNx, step⟩
      · refine thnF (T.done (X.blk s3 H3 sc ce fp) rfl rfl rfl hc i [] s5 _ H5 (fun _ _ => False) I5 (stat I5 n5) st5 stop) fun r s6 ⟨hr, I6⟩ => ?_
        subst hr
        have I7 : L2.Inv X pins σ H5 s6 := I3.call' (ch := fp) I6.os I6.base I6.hok I6.bare fun b hb => ⟨(f3 b hb).1.2.2.2.1, (f3 b hb).1.2.1, (f3 b hb).1.2.2.2.2.1, (f3 b hb).1.2.2.2.2.2⟩
        have nC : H5 s3.heap.objs.size = none := by
          have z : H5 ce.locals = none := I6.free
          rw [cL] at z
          exact z
        obtain ⟨m, hn, _⟩ := I6.loc
        have hn : s6.heap.Ns ce.locals m := hn
        rw [cL] at hn
        exact hRR D s3.heap.objs.size s6 m H5 I7 qq hn (I3.fpOk (Nat.le_refl _) nC)
      · refine thnF (T.item (X.blk s3 H3 sc ce fp) rfl rfl rfl hc i [] s5 _ H5 (fun _ _ => False) I5 (stat I5 n5) st5 go) fun r s6 ⟨u, hr, h6⟩ => ?_
        subst hr
        refine thnF h6 fun _ s7 ⟨x, H7, I7, r7, y7, st7, n7⟩ => ?_
        refine thnF (pg.run _ s7 _ H7 x u _ (I7.pinned (stat I7 n7) (T.obj _ _ st7)) r7 (step x H7 y7)) fun _ s8 ⟨σ8, H8, I8, hw8, q8⟩ => ?_
        have fin : ∀ {σ9 : L2.St} {s' : Shared} {H' : Hp}, L2.Inv (X.blk s3 H3 sc ce fp) ([] ++ pinsAt fp s7.heap) σ9 H' s' → (wipe σ (own.map (·.2))).length = σ9.length → (∀ (j : Nat) v, (wipe σ (own.map (·.2)))[j]? = some (some v) → σ9[j]? = some (some v)) → Nx H' →
            ∃ m, m < n ∧ ∃ i H', L2.Inv (X.blk s3 H3 sc ce fp) [] (wipe σ (own.map (·.2))) H' s' ∧ tn i s'.heap ∧ (∀ b ∈ fp, H' b = none) ∧ W i m H' := fun {σ9 s' H'} J' hl hk nx => by
          obtain ⟨m', hm, w'⟩ := hNx H' nx
          have pin : ∀ b ∈ fp, ∀ o, s7.heap.get? b = some o → s'.heap.get? b = some o ∧ H' b = none := fun b hb o e =>
            let z := J'.pin (b, o) (List.mem_append_right _ (List.mem_append_right _ (mem_pinsAt hb e)))
            ⟨z.1, z.2.1⟩
          refine ⟨m', hm, i + 1, H', (J'.unpinned (pins := [])).weak hl hk, T.keep _ _ _ st7 fun b hb o e => (pin b hb o e).1, fun b hb => ?_, w'⟩
          obtain ⟨o, e, _⟩ := T.obj _ _ st7 b hb
          exact (pin b hb o e).2
        have hl8 : (wipe σ (own.map (·.2))).length = σ8.length := by rw [← hw8, wipe_length]
        have hk9 : ∀ (j : Nat) v, (wipe σ (own.map (·.2)))[j]? = some (some v) → (wipe σ8 us)[j]? = some (some v) := fun j v e => by
          rw [← hw8] at e
          obtain ⟨e1, e2⟩ := wipe_some e
          rw [wipe_out fun z => e2 (hv j z)]
          exact e1
        refine thnF (pi1.run _ s8 σ8 H8 _ I8 q8) fun xv sa hx => thnF hx fun itv sb hb2 => ?_
        obtain ⟨it1, fp1, tn1, J1, Hb, e1, Ib, T1, stb, fb, V1, ⟨m1, w1⟩, turn1⟩ := hb2
        subst e1
        have stat1 : ∀ {H' : Hp}, (∀ b ∈ fp1, H' b = none) → ∀ b ∈ fp1, FpOk (X.blk s3 H3 sc ce fp) ([] ++ pinsAt fp s7.heap) H' b := fun hn b hb => ⟨hn b hb, (fb b hb).2⟩
        have loop1 : codeAny (model X.prog X.w) X.A (.compLoop (dc2 kx vx t0 i0 t1 i1 sc ps) 1 (.ref it1) (.ref D) ce)
            (fun r s' => match r with
              | .ok _ => ∃ m, m < n ∧ ∃ i H', L2.Inv (X.blk s3 H3 sc ce fp) [] (wipe σ (own.map (·.2))) H' s' ∧ tn i s'.heap ∧ (∀ b ∈ fp, H' b = none) ∧ W i m H'
              | .error _ => False) sb := by
          refine dcLoop1 (fun k s' => ∃ j H', L2.Inv (X.blk s3 H3 sc ce fp) ([] ++ pinsAt fp s7.heap) (wipe σ8 us) H' s' ∧ tn1 j s'.heap ∧ (∀ b ∈ fp1, H' b = none) ∧ V1 j k H') ?_ m1 ⟨0, Hb, Ib.weak (wipe_length _ _) (fun j v e => (wipe_some e).1), stb, fun b hb => (fb b hb).1, w1⟩
          rintro k sd ⟨j, Hd, Id, std, nd, wd⟩
          rcases turn1 j k Hd wd with ⟨stop1, nx1⟩ | ⟨go1, Ny, hNy, step1⟩
          · refine thnF (T1.done (X.blk s3 H3 sc ce fp) rfl rfl rfl hc j _ sd (wipe σ8 us) Hd (fun _ _ => False) Id (stat1 nd) std stop1) fun r se ⟨hr, Ie⟩ => ?_
            subst hr
            exact fin Ie (hl8.trans (wipe_length σ8 us).symm) hk9 nx1
          · refine thnF (T1.item (X.blk s3 H3 sc ce fp) rfl rfl rfl hc j _ sd (wipe σ8 us) Hd (fun _ _ => False) Id (stat1 nd) std go1) fun r se ⟨u1, hr, he'⟩ => ?_
            subst hr
            refine thnF he' fun _ sf ⟨x1, Hf, If, rf, yf, stf, nf⟩ => ?_
            refine thnF (pg1.run _ sf (wipe σ8 us) Hf x1 u1 _ (If.pinned (stat1 nf) (T1.obj _ _ stf)) rf (step1 x1 Hf yf)) fun _ sg ⟨σg, Hg, Ig, hwg, qg⟩ => ?_
            refine thnF (pk.run _ sg σg Hg _ Ig qg) fun a sh ⟨yk, Hh, Ih, rh, qh⟩ => ?_
            refine thnF (pe.run _ sh σg Hh _ Ih qh) fun b si ⟨yv, Hi, Ii, ri, kvs, key, ek, hDi, hzi, nx⟩ => ?_
            subst ek
            refine d_dictSet (X := X.blk s3 H3 sc ce fp) Ii hDi hzi rh ri fun sj Ij => ?_
            obtain ⟨m', hm, w'⟩ := hNy _ nx
            have pin : ∀ b ∈ fp1, ∀ o, sf.heap.get? b = some o → sj.heap.get? b = some o ∧ (upd Hi D (.dK (putK kvs key yv))) b = none := fun b hb o e =>
              let z := Ij.pin (b, o) (List.mem_append_right _ (List.mem_append_right _ (mem_pinsAt hb e)))
              ⟨z.1, z.2.1⟩
            refine ⟨m', hm, j + 1, _, Ij.unpinned.weak (by rw [← hwg, wipe_length]) (fun j v e => by rw [← hwg] at e; exact (wipe_some e).1), T1.keep _ _ _ stf fun b hb o e => (pin b hb o e).1, fun b hb => ?_, w'⟩
            obtain ⟨o, e, _⟩ := T1.obj _ _ stf b hb
            exact (pin b hb o e).2
        exact dcStart1 loop1 (T1.self X.A 0 _ _ _ stb loop1)
    exact codeAny_compStart_dict loop (T.self X.A 0 _ _ _ st4 loop)
  exact goal
theorem pe_dc2 {kx vx t0 i0 t1 i1 : Expr} {sc : Scope} {own : List (Str × Nat)} {us : List Nat} {ps : Pos} {wi wi1 : TI} {g g1 : TG} {tk tv : TE} (hc : X.calm = true) (hN : X.N.Nodup) (hi : PI X t0 i0 wi) (ok : BlkOk X.N X.env.scope sc own) (hv : ∀ i ∈ us, i ∈ own.map (·.2))
    (hg : ∀ (s : Shared) (H : Hp) (C : Addr) (cl : List (Str × Addr)) (fp : List Addr), PG (X.blk s H sc (compEnvC sc cl C X.env) fp) t0 g)
    (hi1 : ∀ (s : Shared) (H : Hp) (C : Addr) (cl : List (Str × Addr)) (fp : List Addr), PI (X.blk s H sc (compEnvC sc cl C X.env) fp) t1 i1 wi1)
    (hg1 : ∀ (s : Shared) (H : Hp) (C : Addr) (cl : List (Str × Addr)) (fp : List Addr), PG (X.blk s H sc (compEnvC sc cl C X.env) fp) t1 g1)
    (hk : ∀ (s : Shared) (H : Hp) (C : Addr) (cl : List (Str × Addr)) (fp : List Addr), PE (X.blk s H sc (compEnvC sc cl C X.env) fp) kx tk)
    (he : ∀ (s : Shared) (H : Hp) (C : Addr) (cl : List (Str × Addr)) (fp : List Addr), PE (X.blk s H sc (compEnvC sc cl C X.env) fp) vx tv)
    (hs : ∀ x, foldedSetIterable i0 X.env x = pure x := by intro _; rfl) (hs1 : ∀ env x, foldedSetIterable i1 env x = pure x := by intro _ _; rfl) :
    PE X (dc2 kx vx t0 i0 t1 i1 sc ps) (tDc2 wi g wi1 g1 tk tv (own.map (·.2)) us) := by
  refine ⟨fun pins s σ H Q I h => ?_⟩
  unfold dc2
  rw [arm_eval_DictComp]
  refine dc2_core hc hN I hi ok hv hg hi1 hg1 hk he hs hs1 h fun D C s' m H' I' q hn f => ⟨m, hn, fun h'' sb => ?_⟩
  obtain ⟨g0, g1, g2, g3, g4, g5⟩ := f
  exact ⟨.ref D, H', I'.turned (t' := s'.toks) (fun b o hb e => (sb.2 b hb).trans e) g0 g1 g3 g4 g5, rfl, q⟩
/-- y = {..} -/
theorem ps_setDc2 {i : Nat} {y : Str} {py : Pos} {kx vx t0 i0 t1 i1 : Expr} {sc : Scope} {own : List (Str × Nat)} {us : List Nat} {ps sp : Pos} {wi wi1 : TI} {g g1 : TG} {tk tv : TE} (hc : X.calm = true) (hN : X.N.Nodup) (hy : X.N[i]? = some y) (hyl : X.env.scope.names.lookup y = some .local)
    (hsw : swapsWith (dc2 kx vx t0 i0 t1 i1 sc ps) (some (.Name y py)) sp.line X.env = pure true) (hi : PI X t0 i0 wi) (ok : BlkOk X.N X.env.scope sc own) (hv : ∀ i ∈ us, i ∈ own.map (·.2))
    (hg : ∀ (s : Shared) (H : Hp) (C : Addr) (cl : List (Str × Addr)) (fp : List Addr), PG (X.blk s H sc (compEnvC sc cl C X.env) fp) t0 g)
    (hi1 : ∀ (s : Shared) (H : Hp) (C : Addr) (cl : List (Str × Addr)) (fp : List Addr), PI (X.blk s H sc (compEnvC sc cl C X.env) fp) t1 i1 wi1)
    (hg1 : ∀ (s : Shared) (H : Hp) (C : Addr) (cl : List (Str × Addr)) (fp : List Addr), PG (X.blk s H sc (compEnvC sc cl C X.env) fp) t1 g1)
    (hk : ∀ (s : Shared) (H : Hp) (C : Addr) (cl : List (Str × Addr)) (fp : List Addr), PE (X.blk s H sc (compEnvC sc cl C X.env) fp) kx tk)
    (he : ∀ (s : Shared) (H : Hp) (C : Addr) (cl : List (Str × Addr)) (fp : List Addr), PE (X.blk s H sc (compEnvC sc cl C X.env) fp) vx tv)
    (hs : ∀ x, foldedSetIterable i0 X.env x = pure x := by intro _; rfl) (hs1 : ∀ env x, foldedSetIterable i1 env x = pure x := by intro _ _; rfl) :
    PS X (.Assign [.Name y py] (dc2 kx vx t0 i0 t1 i1 sc ps) sp) (tAsg (tDc2 wi g wi1 g1 tk tv (own.map (·.2)) us) (gName i)) := by
  refine ⟨fun pins s σ H D I h => ?_⟩
  rw [exec_Assign_Name_used _ _ _ _ hsw]
  refine wpAny_bind (wpAny_standAt (wpAny_bind ?_))
  show wpAny _ X.A (do let _ ← comprehension (dc2 kx vx t0 i0 t1 i1 sc ps) sc X.env (firstIterPos [⟨t0, i0, [], 0⟩, ⟨t1, i1, [], 0⟩] ps) newDict false (eval i0 X.env) (some (assign (.Name y py) X.env))) _ _ s
  have h : tDc2 wi g wi1 g1 tk tv (own.map (·.2)) us σ H (fun x H1 => gName i x σ H1 D.nx) := h
  refine wpAny_bind (thn (dc2_core (Qf := fun _ s' => SP X pins D .next s') hc hN I hi ok hv hg hi1 hg1 hk he hs hs1 h fun L C s' m H' I' q hn f => ?_) fun _ s' hq => wpAny_pure (wpAny_pure hq))
  show wpAny _ _ (assign (.Name y py) X.env (.ref L)) _ _ _
  refine wpAny_assign_Name (store_ok2 (v := V.ref L) I' hN hy (.inl hyl) rfl (fun s2 I2 ⟨a, sb, ha⟩ => ?_) (.inr hyl))
  obtain ⟨f0, f1, f2, f3, f4, f5⟩ := f
  have hne : C ≠ a := ha.elim (fun z => by rw [z]; exact f1) fun z e => f4 y a z e.symm
  refine ⟨m, hn.sameBut sb hne, fun h3 sb3 => ?_⟩
  exact ⟨_, H', I2.turned (t' := s2.toks) (fun b o hb e => (sb3.2 b hb).trans e) f0 f1 f3 f4 f5, q⟩
/-! ### {**a, **b, **c} -/
theorem merge_step {pins : List (Addr × Obj)} {σ : L2.St} {H : Hp} {s : Shared} {p d : Addr} {kvs acc : List (Key × V)} {Q : Unit → Shared → Prop} {E : Value → Shared → Prop} (I : L2.Inv X pins σ H s) (ed : H d = some (.dK kvs)) (ep : H p = some (.dK acc)) (hne : p ≠ d)
    (hz : acc.length + kvs.length ≤ sizeLine) (q : ∀ s', L2.Inv X pins σ (upd H p (.dK (mergeK acc kvs))) s' → Q () s') : wpAny (model X.prog X.w) X.A (mergeMapping p (.ref d) false) Q E s := by
  obtain ⟨z, hd, vs, rel, dd⟩ := dk_of I.hok ed
  obtain ⟨_, hp, vs0, r0, pp⟩ := dk_of I.hok ep
  have l1 := rel.length
  have l2 := r0.length
  refine BkD.mergeK_pairs (knd := mixKind X.prog X.w) hne hd pp dd (fun h' dd' hs => q _ ?_) (by omega)
  have he : ∃ q, h'.get? p = some q := let ⟨q, _, _, hq, _⟩ := dd'; ⟨q, hq⟩
  exact d_write I (by rw [ep]; exact True.intro) hs he (dk_new (Nat.le_trans (length_mergeK kvs acc) hz) hp (KV.merge rel r0) dd')
/-- into p, one behind another -/
def tStars (p : Addr) : List TE → TE
  | [] => fun _ H Q => Q (.ref p) H
  | t :: ts => fun σ H Q => t σ H fun x H1 => ∃ d kvs acc, x = .ref d ∧ H1 d = some (.dK kvs) ∧ H1 p = some (.dK acc) ∧ p ≠ d ∧ acc.length + kvs.length ≤ sizeLine ∧ tStars p ts σ (upd H1 p (.dK (mergeK acc kvs))) Q
theorem pe_star3 {m1 m2 m3 : Expr} {pos : Pos} {ta tb tc : TE} (h1 : PE X m1 ta) (h2 : PE X m2 tb) (h3 : PE X m3 tc) : PE X (.Dict [none, none, none] [m1, m2, m3] pos) (fun σ H Q => ∀ p, H p = none → tStars p [ta, tb, tc] σ (upd H p (.dK [])) Q) := by
  refine ⟨fun pins s σ H Q I h => ?_⟩
  have hq := h _ (I.hok.fresh (Nat.le_refl s.heap.objs.size))
  have I1 := I.laid (a := s.heap.objs.size) (o := .dK []) (h' := s.heap.push { cls := .type "dict", data := .dict #[] }) (t' := s.toks) (fun _ _ q => Heap.get?_push_of_some _ q) (Nat.le_refl _) (dk_empty s.heap I.big)
  rw [arm_eval_Dict]
  refine wpAny_bind (wpAny_standAt ?_)
  show wpAny _ _ (dictDisplay [(none, do let x ← eval m1 X.env; standAt pos; pure x), (none, do let x ← eval m2 X.env; standAt pos; pure x), (none, do let x ← eval m3 X.env; standAt pos; pure x)]) _ _ _
  unfold dictDisplay
  dsimp only
  refine wpAny_bind ?_
  rw [List.forIn_cons]
  refine wpAny_bind ?_
  dsimp only
  refine wpAny_bind ?_
  rw [if_pos List.isEmpty_nil]
  refine wpAny_pure ?_
  dsimp only
  refine wpAny_bind (wpAny_alloc ?_)
  refine wpAny_bind (wpAny_holding (wpAny_bind (thn (h1.run pins _ σ _ _ I1 hq) fun u s1 ⟨x, H1, I2, rx, d, kvs, acc, ex, ed, ep, hne, hz, q⟩ => wpAny_bind (wpAny_standAt (wpAny_pure ?_)))))
  subst ex
  obtain rfl : u = Value.ref d := rx
  refine wpAny_bind (wpAny_onRaise (wpAny_tryCatch (wpAny_onRaise (wpAny_holding (merge_step I2 ed ep hne hz fun s2 I3 => ?_)))))
  refine wpAny_pure ?_
  dsimp only
  clear ed ep hne hz
  rw [List.forIn_cons]
  refine wpAny_bind ?_
  dsimp only
  refine wpAny_bind ?_
  rw [if_pos List.isEmpty_nil]
  refine wpAny_pure ?_
  dsimp only
  refine wpAny_bind (wpAny_pure ?_)
  refine wpAny_bind (wpAny_holding (wpAny_bind (thn (h2.run pins _ σ _ _ I3 q) fun u s3 ⟨x, H3, I4, rx, d', kvs', acc', ex, ed, ep, hne, hz, q⟩ => wpAny_bind (wpAny_standAt (wpAny_pure ?_)))))
  subst ex
  obtain rfl : u = Value.ref d' := rx
  refine wpAny_bind (wpAny_onRaise (wpAny_tryCatch (wpAny_onRaise (wpAny_holding (merge_step I4 ed ep hne hz fun s4 I5 => ?_)))))
  refine wpAny_pure ?_
  dsimp only
  clear ed ep hne hz
  rw [List.forIn_cons]
  refine wpAny_bind ?_
  dsimp only
  refine wpAny_bind ?_
  rw [if_pos List.isEmpty_nil]
  refine wpAny_pure ?_
  dsimp only
  refine wpAny_bind (wpAny_pure ?_)
  refine wpAny_bind (wpAny_holding (wpAny_bind (thn (h3.run pins _ σ _ _ I5 q) fun u s5 ⟨x, H5, I6, rx, d'', kvs'', acc'', ex, ed, ep, hne, hz, q⟩ => wpAny_bind (wpAny_standAt (wpAny_pure ?_)))))
  subst ex
  obtain rfl : u = Value.ref d'' := rx
  refine wpAny_bind (wpAny_onRaise (wpAny_tryCatch (wpAny_onRaise (wpAny_holding (merge_step I6 ed ep hne hz fun s6 I7 => ?_)))))
  refine wpAny_pure ?_
  dsimp only
  rw [List.forIn_nil]
  refine wpAny_pure ?_
  dsimp only
  refine wpAny_bind ?_
  rw [if_pos List.isEmpty_nil]
  refine wpAny_pure ?_
  dsimp only
  exact wpAny_pure ⟨.ref s.heap.objs.size, _, I7, rfl, q⟩
end
/-! ### calls by keywords alone -/
/-- as Ok; called with all parameters named, in the order ks -/
structure OkK (P : Program) (w : World) (K : PySem.W.Frag) (mg : Str → Option Value) (base : Heap) (k : Nat) (f : Addr) (ps ks : List Str) (g : {α : Type} → List α → List α) (sp : Sp) : Prop where
  ex : ∃ fd, FnOk P w K mg base CX0 k f fd ps sp ∧ Binds K fd ps [] ∧ PySem.W.keepIn K (.ref f) = true ∧ PySem.W.fnIn K f = true ∧ KBn K fd ps 0 ks (fun _ ws => g ws) (fun _ zs => g zs)
theorem OkK.ok {P : Program} {w : World} {K : PySem.W.Frag} {mg : Str → Option Value} {base : Heap} {k : Nat} {f : Addr} {ps ks : List Str} {g : {α : Type} → List α → List α} {sp : Sp} (o : OkK P w K mg base k f ps ks g sp) : Ok P w K mg base k f ps sp :=
  let ⟨fd, a, b, c, d, _⟩ := o.ex
  ⟨fd, a, b, c, d⟩
def swap2 {α : Type} : List α → List α
  | [a, b] => [b, a]
  | l => l
theorem swap2_rel {vs : List V} {us : List Value} (h : Vals vs us) : Vals (swap2 vs) (swap2 us) := by
  cases h with
  | nil => exact .nil
  | cons h1 t => cases t with
    | nil => exact .cons h1 .nil
    | cons h2 t => cases t with
      | nil => exact .cons h2 (.cons h1 .nil)
      | cons h3 t => exact .cons h1 (.cons h2 (.cons h3 t))
theorem fd_okK {P : Program} {w : World} {K : PySem.W.Frag} {mg : Str → Option Value} {base : Heap} {x qual : Str} {params : Arguments} {body : List Stmt} {scope : Scope} {f : Addr} {N ps ks : List Str} {g : {α : Type} → List α → List α} {k : Nat} {sp : Sp}
    (F : ∃ fd, FunD K x qual params body scope [] [] f fd) (S : FnScope N ps scope) (len : ∀ vs H Q E, sp vs H Q E → vs.length = ps.length)
    (hb : ∀ (kV doc pm : Value) (an : Option Addr) (cdv ct : Value) (us : List Value), us.length = ps.length → bindArgs (PySem.W.fnOf x qual params body scope .none kV doc pm an cdv ct) ⟨us, []⟩ = pure (ps.zip us))
    (hrel : ∀ {vs : List V} {us : List Value}, Vals vs us → Vals (g vs) (g us))
    (hbk : ∀ (kV doc pm : Value) (an : Option Addr) (cdv ct : Value) (us : List Value), us.length = ks.length → bindArgs (PySem.W.fnOf x qual params body scope .none kV doc pm an cdv ct) ⟨[], ks.zip us⟩ = pure (ps.zip (g us)))
    (hbody : ∀ (cdv : Value) (A : Around) (outer : List Env) (s : Shared) (H : Hp) (vs : List V) (Q : VK) (E : XK), Room k (A.deeper (envOfC qual scope s.heap.objs.size f cdv)) → sp vs H Q E →
      ∃ t, PSs (cxOf CX0 P w K mg base N qual scope f cdv A outer s H E).nox body t ∧ t { nx := fun _ H' => Q .non H', rt := Q } (start N vs) H) : OkK P w K mg base (k + 1) f ps ks g sp := by
  obtain ⟨fd, F⟩ := F
  refine ⟨fd, F.ok S len fun cdv A outer s H vs Q E hr h => let ⟨t, a, b⟩ := hbody cdv A outer s H vs Q E hr h; ⟨t, a.nox, b⟩, F.bindsN hb, F.kp, fnIn_of F, ⟨fun s us ws X l1 l2 => ?_, fun _ r => hrel r⟩⟩
  obtain ⟨oc, od, dV, kV, doc, pm, an, cdv, ct, osl, rfl, lk, hcd, hD, hK⟩ := F.ex
  obtain rfl : us = [] := List.length_eq_zero_iff.mp l1
  rcases hD with ⟨_, rfl⟩ | ⟨e, _⟩
  · exact .of_eq (hbk kV doc pm an cdv ct ws l2)
  · exact absurd rfl e
/-- f(k = v, ..) -/
def tCallKw (m : Nat) (sp : Sp) (g : List V → List V) (tk : TA) : TE := fun σ H Q => tk σ H fun zs H2 => zs.length = m ∧ sp (g zs) H2 Q E0
theorem pe_callKw {X : Cx} {k : Nat} {f : Addr} {ps ks : List Str} {g : {α : Type} → List α → List α} {sp : Sp} {x : Str} {p pos : Pos} {kws : List Keyword} {tk : TA} (F : OkK X.prog X.w X.K X.mg X.base k f ps ks g sp) (hr : Room k X.A) (hg : Gl X x) (hm : X.mg x = some (.ref f))
    (hkw : PK X kws tk) (hall : (backToKw pos (keywordEach kws X.env)).all (·.1.isSome) = true := by rfl) (hks : (backToKw pos (keywordEach kws X.env)).filterMap (·.1) = ks := by rfl)
    (hdb : (x == ("__debug__" : Str)) = false := by decide) (hpl : ((backTo pos (starEach [] X.env)).any (·.1) || (backToKw pos (keywordEach kws X.env)).any (·.1.isNone)) = false := by rfl) :
    PE X (.Call (.Name x p) [] kws pos) (tCallKw ks.length sp g tk) := by
  obtain ⟨fd, F, _, hk, _, hb⟩ := F.ex
  refine ⟨fun pins s σ H Q I h => ?_⟩
  refine wpAny_Call_Name_kw (ld_glob I hg hm ?_ hdb)
  refine PySem.W.callWith_KW0 (h₀ := X.base) I.ok.mod.kin hk hall (thn (hkw.run pos pins s σ H _ I h) fun ws s2 ⟨zs, H2, I2, rz, l2, q2⟩ => ⟨I2.kIn, ?_⟩) hpl
  rw [hks]
  exact run_fnN (us := []) (vs := []) F hr hb pass0 I2 .nil rz rfl l2 q2
end Bk

set_option Elab.async false
set_option linter.all false
set_option maxRecDepth 100000
set_option maxHeartbeats 4000000
/-! Own layer 13: loops over whatever walks a row of values; a dict just made and walked. -/
namespace Bk
open PySem PySem.Spec PyProof.Rows L2
/-- J walks xs wherever G holds, and changes nothing -/
structure ItSeq (J : It) (xs : List V) (G : Hp → Prop) : Prop where
  stop : ∀ H, G H → J.stop xs.length H
  go : ∀ (i : Nat) H, G H → i < xs.length → J.go i H
  yld : ∀ (i : Nat) H x H', G H → J.yld i H x H' → H' = H ∧ xs[i]? = some x
theorem itseq_l {K : PySem.W.Frag} {a : Addr} {xs : List V} : ItSeq (Itl K a) xs (fun H => SqL K H a xs) :=
  ⟨fun H q => ⟨xs, q, Nat.le_refl _⟩, fun i H q h => ⟨xs, xs[i], q, by simp [h]⟩, fun i H x H' q ⟨e, y⟩ => ⟨e, y xs q⟩⟩
theorem itseq_t {K : PySem.W.Frag} {a : Addr} {xs : List V} : ItSeq (Itt K a) xs (fun H => SqT K H a xs) :=
  ⟨fun H q => ⟨xs, q, Nat.le_refl _⟩, fun i H q h => ⟨xs, xs[i], q, by simp [h]⟩, fun i H x H' q ⟨e, y⟩ => ⟨e, y xs q⟩⟩
theorem itseq_k {d : Addr} {o : Obj} {kvs : List (Key × V)} : ItSeq (Itk d o kvs) (kvs.map fun kv => kV kv.1) (fun H => H d = some (.frz o (.dK kvs))) :=
  ⟨fun H q => ⟨q, by rw [List.length_map]; exact Nat.le_refl _⟩, fun i H q h => ⟨q, by rwa [List.length_map] at h⟩, fun i H x H' q ⟨e, k, v, h, hx⟩ => ⟨e, by rw [List.getElem?_map, h, hx]; rfl⟩⟩
theorem itseq_d {d : Addr} {o : Obj} {kvs : List (Key × V)} : ItSeq (Itd d o kvs) (kvs.map fun kv => kv.2) (fun H => H d = some (.frz o (.dK kvs))) :=
  ⟨fun H q => ⟨q, by rw [List.length_map]; exact Nat.le_refl _⟩, fun i H q h => ⟨q, by rwa [List.length_map] at h⟩, fun i H x H' q ⟨e, k, h⟩ => ⟨e, by rw [List.getElem?_map, h]; rfl⟩⟩
/-- a for over it -/
theorem for_seq {J : It} {xs : List V} {G : Hp → Prop} (S : ItSeq J xs G) {g : TG} {tb : TS} {D : Ends} {σ : L2.St} {H : Hp} (Pv : Nat → L2.St → Hp → Prop) (h0 : Pv 0 σ H) (hl : ∀ i σ H, i ≤ xs.length → Pv i σ H → G H)
    (hs : ∀ i x σ H, xs[i]? = some x → Pv i σ H → g x σ H fun σ2 H2 => tb { D with nx := Pv (i + 1), ct := Pv (i + 1), bk := D.nx } σ2 H2) (hd : ∀ σ H, Pv xs.length σ H → D.nx σ H) :
    ∃ W : Nat → Nat → L2.St → Hp → Prop, (∃ m, W 0 m σ H) ∧ ∀ i m σ H, W i m σ H →
      (J.stop i H ∧ D.nx σ H) ∨ (J.go i H ∧ ∃ N : L2.St → Hp → Prop, (∀ σ' H', N σ' H' → ∃ m', m' < m ∧ W (i + 1) m' σ' H') ∧ ∀ x H', J.yld i H x H' → g x σ H' fun σ2 H2 => tb { D with nx := N, ct := N, bk := D.nx } σ2 H2) := by
  refine ⟨fun i m σ H => m = xs.length - i ∧ i ≤ xs.length ∧ Pv i σ H, ⟨xs.length, by simp, Nat.zero_le _, h0⟩, ?_⟩
  rintro i m σ H ⟨rfl, hi, p⟩
  have q := hl i σ H hi p
  by_cases hlt : i < xs.length
  · refine .inr ⟨S.go i H q hlt, Pv (i + 1), fun σ' H' p' => ⟨xs.length - (i + 1), by omega, rfl, hlt, p'⟩, fun x H' y => ?_⟩
    obtain ⟨e, yy⟩ := S.yld i H x H' q y
    subst e
    exact hs i x σ _ yy p
  · obtain rfl : i = xs.length := by omega
    exact .inl ⟨S.stop H q, hd σ H p⟩
/-- a list comprehension over it -/
theorem lc_seq {J : It} {xs : List V} {G : Hp → Prop} (S : ItSeq J xs G) {g : TG} {tt : TT} {te : TE} {vs : List Nat} {σ : L2.St} {H1 : Hp} {D : Addr} {Qd : Hp → Prop} (Pv : Nat → Hp → Prop) (h0 : Pv 0 (upd H1 D (.lst []))) (hl : ∀ i H, i ≤ xs.length → Pv i H → G H)
    (hs : ∀ i x H, xs[i]? = some x → Pv i H → g x (wipe σ vs) H fun σ2 H2 => wipe σ2 vs = wipe σ vs ∧ tt σ2 H2 fun b H3 =>
      if b = true then te σ2 H3 fun y H4 => ∃ acc, H4 D = some (.lst acc) ∧ acc.length < sizeLine ∧ Pv (i + 1) (upd H4 D (.lst (acc ++ [y]))) else Pv (i + 1) H3) (hd : ∀ H, Pv xs.length H → Qd H) :
    ∃ W : Nat → Nat → Hp → Prop, (∃ m, W 0 m (upd H1 D (.lst []))) ∧ ∀ i m H, W i m H →
      (J.stop i H ∧ Qd H) ∨ (J.go i H ∧ ∃ Nx : Hp → Prop, (∀ H', Nx H' → ∃ m', m' < m ∧ W (i + 1) m' H') ∧ ∀ x H', J.yld i H x H' → g x (wipe σ vs) H' fun σ2 H2 => wipe σ2 vs = wipe σ vs ∧ tt σ2 H2 fun b H3 =>
        if b = true then te σ2 H3 fun y H4 => ∃ acc, H4 D = some (.lst acc) ∧ acc.length < sizeLine ∧ Nx (upd H4 D (.lst (acc ++ [y]))) else Nx H3) := by
  refine ⟨fun i m H => m = xs.length - i ∧ i ≤ xs.length ∧ Pv i H, ⟨xs.length, by simp, Nat.zero_le _, h0⟩, ?_⟩
  rintro i m H ⟨rfl, hi, p⟩
  have q := hl i H hi p
  by_cases hlt : i < xs.length
  · refine .inr ⟨S.go i H q hlt, Pv (i + 1), fun H' p' => ⟨xs.length - (i + 1), by omega, rfl, hlt, p'⟩, fun x H' y => ?_⟩
    obtain ⟨e, yy⟩ := S.yld i H x H' q y
    subst e
    exact hs i x _ yy p
  · obtain rfl : i = xs.length := by omega
    exact .inl ⟨S.stop H q, hd H p⟩
/-- {k: v for x in xs for y in ys} -/
theorem dc2_seq {J : It} {xs : List V} {G : Hp → Prop} (S : ItSeq J xs G) {g g1 : TG} {wi1 : TI} {tk tv : TE} {vs us : List Nat} {σ : L2.St} {H1 : Hp} {D : Addr} {Qd : Hp → Prop} (Pv : Nat → Hp → Prop) (h0 : Pv 0 (upd H1 D (.dK []))) (hl : ∀ i H, i ≤ xs.length → Pv i H → G H)
    (hs : ∀ i x H, xs[i]? = some x → Pv i H → g x (wipe σ vs) H fun σ2 H3 => wipe σ2 vs = wipe σ vs ∧ wi1 σ2 H3 fun J1 H4 => ∃ (ys : List V) (G1 : Hp → Prop) (Pw : Nat → Hp → Prop), ItSeq J1 ys G1 ∧ Pw 0 H4 ∧ (∀ j H, j ≤ ys.length → Pw j H → G1 H) ∧
      (∀ j y H, ys[j]? = some y → Pw j H → g1 y (wipe σ2 us) H fun σ3 H5 => wipe σ3 us = wipe σ2 us ∧ tk σ3 H5 fun y H6 => tv σ3 H6 fun z H7 => ∃ kvs k, y = kV k ∧ H7 D = some (.dK kvs) ∧ kvs.length < sizeLine ∧ Pw (j + 1) (upd H7 D (.dK (putK kvs k z)))) ∧
      ∀ H, Pw ys.length H → Pv (i + 1) H) (hd : ∀ H, Pv xs.length H → Qd H)
    (mono : ∀ {σ H} {R R' : It → Hp → Prop}, wi1 σ H R → (∀ J H', R J H' → R' J H') → wi1 σ H R') (gmono : ∀ {x σ H} {Q Q' : L2.St → Hp → Prop}, g x σ H Q → (∀ σ' H', Q σ' H' → Q' σ' H') → g x σ H Q') :
    ∃ W : Nat → Nat → Hp → Prop, (∃ m, W 0 m (upd H1 D (.dK []))) ∧ ∀ i m H, W i m H →
      (J.stop i H ∧ Qd H) ∨ (J.go i H ∧ ∃ Nx : Hp → Prop, (∀ H', Nx H' → ∃ m', m' < m ∧ W (i + 1) m' H') ∧ ∀ x H', J.yld i H x H' → g x (wipe σ vs) H' fun σ2 H3 => wipe σ2 vs = wipe σ vs ∧
        wi1 σ2 H3 fun J1 H4 => ∃ V1 : Nat → Nat → Hp → Prop, (∃ m, V1 0 m H4) ∧ ∀ j k H, V1 j k H →
          (J1.stop j H ∧ Nx H) ∨ (J1.go j H ∧ ∃ Ny : Hp → Prop, (∀ H', Ny H' → ∃ k', k' < k ∧ V1 (j + 1) k' H') ∧ ∀ x H', J1.yld j H x H' → g1 x (wipe σ2 us) H' fun σ3 H5 => wipe σ3 us = wipe σ2 us ∧
            tk σ3 H5 fun y H6 => tv σ3 H6 fun z H7 => ∃ kvs k, y = kV k ∧ H7 D = some (.dK kvs) ∧ kvs.length < sizeLine ∧ Ny (upd H7 D (.dK (putK kvs k z))))) := by
  refine ⟨fun i m H => m = xs.length - i ∧ i ≤ xs.length ∧ Pv i H, ⟨xs.length, by simp, Nat.zero_le _, h0⟩, ?_⟩
  rintro i m H ⟨rfl, hi, p⟩
  have q := hl i H hi p
  by_cases hlt : i < xs.length
  · refine .inr ⟨S.go i H q hlt, Pv (i + 1), fun H' p' => ⟨xs.length - (i + 1), by omega, rfl, hlt, p'⟩, fun x H' y => ?_⟩
    obtain ⟨e, yy⟩ := S.yld i H x H' q y
    subst e
    refine gmono (hs i x _ yy p) fun σ2 H3 ⟨w, h⟩ => ⟨w, mono h fun J1 H4 ⟨ys, G1, Pw, S1, p0, pl, ps, pe⟩ => ?_⟩
    refine ⟨fun j k H => k = ys.length - j ∧ j ≤ ys.length ∧ Pw j H, ⟨ys.length, by simp, Nat.zero_le _, p0⟩, ?_⟩
    rintro j k H5 ⟨rfl, hj, pw⟩
    have q1 := pl j H5 hj pw
    by_cases hlt1 : j < ys.length
    · refine .inr ⟨S1.go j H5 q1 hlt1, Pw (j + 1), fun H' p' => ⟨ys.length - (j + 1), by omega, rfl, hlt1, p'⟩, fun x H' y => ?_⟩
      obtain ⟨e, yy⟩ := S1.yld j H5 x H' q1 y
      subst e
      exact ps j x _ yy pw
    · obtain rfl : j = ys.length := by omega
      exact .inl ⟨S1.stop H5 q1, pe H5 pw⟩
  · obtain rfl : i = xs.length := by omega
    exact .inl ⟨S.stop H q, hd H p⟩
theorem gName_mono {i : Nat} {x : V} {σ : L2.St} {H : Hp} {Q Q' : L2.St → Hp → Prop} (h : gName i x σ H Q) (k : ∀ σ' H', Q σ' H' → Q' σ' H') : gName i x σ H Q' := k _ _ h
section
variable {X : Cx}
/-- over a list or a tuple -/
def iLT (K : PySem.W.Frag) (tl : TE) : TI := fun σ H R => tl σ H fun x H1 => ∃ a xs, x = .ref a ∧ ((SqL K H1 a xs ∧ R (Itl K a) H1) ∨ (SqT K H1 a xs ∧ R (Itt K a) H1))
theorem pi_lt {tg l : Expr} {tl : TE} (hl : PE X l tl) : PI X tg l (iLT X.K tl) := by
  refine ⟨fun pins s σ H R I h => ?_⟩
  refine thn (hl.run pins s σ H _ I h) fun v s1 ⟨x, H1, I1, r1, a, xs, ex, q⟩ => ?_
  subst ex
  cases r1
  have fin : ∀ b ∈ [s1.heap.objs.size], FpOk X pins H1 b := fun b hb => by
    have e : b = s1.heap.objs.size := by simpa using hb
    subst e
    exact I1.fpOk (Nat.le_refl _) (I1.hok.fresh (Nat.le_refl _))
  rcases q with ⟨hq, q⟩ | ⟨hq, q⟩
  · obtain ⟨its, rv, p, hz⟩ := I1.list hq
    exact wpAny_pyIter_list p.isList ⟨s1.heap.objs.size, [s1.heap.objs.size], _, _, H1, rfl, I1.kept (t' := s1.toks) fun b o e => Heap.get?_push_of_some _ e, turn_list a _, ⟨_, Heap.get?_push_size _ rfl, rfl, rfl⟩, fin, q⟩
  · obtain ⟨its, rv, p, hz⟩ := I1.tuple hq
    exact wpAny_pyIter_tuple (show s1.heap.IsTuple a its.toArray from p) ⟨s1.heap.objs.size, [s1.heap.objs.size], _, _, H1, rfl, I1.kept (t' := s1.toks) fun b o e => Heap.get?_push_of_some _ e, turn_tuple a _, ⟨_, Heap.get?_push_size _ rfl, rfl, rfl⟩, fin, q⟩
/-- what was just made is locked for good -/
def tFrz (t : TE) : TE := fun σ H Q => t σ H fun x H1 => ∃ d u, x = .ref d ∧ H1 d = some u ∧ Mut (some u) ∧ ∀ od, Q x (upd H1 d (.frz od u))
theorem pe_frz {e : Expr} {t : TE} (h : PE X e t) : PE X e (tFrz t) := by
  refine ⟨fun pins s σ H Q I hw => ?_⟩
  refine thn (h.run pins s σ H _ I hw) fun v s1 ⟨x, H1, I1, r, d, u, ex, hd, mu, q⟩ => ?_
  obtain ⟨od, I2⟩ := I1.lock hd mu
  exact ⟨x, _, I2, r, q od⟩
/-- for k, v in d.items(): the target takes a new pair -/
theorem for_items {d : Addr} {o : Obj} {kvs : List (Key × V)} {g : TG} {tb : TS} {D : Ends} {σ : L2.St} {H : Hp} (Pv : Nat → L2.St → Hp → Prop) (h0 : Pv 0 σ H) (hl : ∀ i σ H, i ≤ kvs.length → Pv i σ H → H d = some (.frz o (.dK kvs)))
    (hs : ∀ i k v T σ H, kvs[i]? = some (k, v) → Pv i σ H → H T = none → g (.ref T) σ (upd H T (.tup [kV k, v])) fun σ2 H2 => tb { D with nx := Pv (i + 1), ct := Pv (i + 1), bk := D.nx } σ2 H2) (hd : ∀ σ H, Pv kvs.length σ H → D.nx σ H) :
    ∃ W : Nat → Nat → L2.St → Hp → Prop, (∃ m, W 0 m σ H) ∧ ∀ i m σ H, W i m σ H →
      ((Iti d o kvs).stop i H ∧ D.nx σ H) ∨ ((Iti d o kvs).go i H ∧ ∃ N : L2.St → Hp → Prop, (∀ σ' H', N σ' H' → ∃ m', m' < m ∧ W (i + 1) m' σ' H') ∧ ∀ x H', (Iti d o kvs).yld i H x H' → g x σ H' fun σ2 H2 => tb { D with nx := N, ct := N, bk := D.nx } σ2 H2) := by
  refine ⟨fun i m σ H => m = kvs.length - i ∧ i ≤ kvs.length ∧ Pv i σ H, ⟨kvs.length, by simp, Nat.zero_le _, h0⟩, ?_⟩
  rintro i m σ H ⟨rfl, hi, p⟩
  have q := hl i σ H hi p
  by_cases hlt : i < kvs.length
  · refine .inr ⟨⟨q, hlt⟩, Pv (i + 1), fun σ' H' p' => ⟨kvs.length - (i + 1), by omega, rfl, hlt, p'⟩, fun x H' y => ?_⟩
    obtain ⟨T, k, v, hk, rfl, hT, rfl⟩ := y
    exact hs i k v T σ H hk p hT
  · obtain rfl : i = kvs.length := by omega
    exact .inl ⟨⟨q, Nat.le_refl _⟩, hd σ H p⟩
end
/-! ### within a comprehension's block: the rules say K itself -/
section
variable {X : Cx} {K0 : PySem.W.Frag}
theorem opK {f : Value → Value → Sem Value} {r : PySem.W.Frag → R2} (h : OpR X f (r X.K)) (hK : X.K = K0 := by rfl) : OpR X f (r K0) := hK ▸ h
theorem callK {f : Value} {r : PySem.W.Frag → List V → Hp → VK → Prop} (h : CallR X f (r X.K)) (hK : X.K = K0 := by rfl) : CallR X f (r K0) := hK ▸ h
theorem ixK {r : PySem.W.Frag → R2} (h : IxR X (r X.K)) (hK : X.K = K0 := by rfl) : IxR X (r K0) := hK ▸ h
theorem slK {r : PySem.W.Frag → V → Option Int → Option Int → Hp → VK → Prop} (h : SlR X (r X.K)) (hK : X.K = K0 := by rfl) : SlR X (r K0) := hK ▸ h
theorem fldK {e : Expr} {ta : TE} {f : Str} {pos : Pos} (he : PE X e ta) (hb : attributeBase e f X.env (eval e X.env) = eval e X.env) (hK : X.K = K0 := by rfl) : PE X (.Attribute e f pos) (tFld K0 ta f) := hK ▸ pe_fld he hb
theorem piListK {tg l : Expr} {tl : TE} (hl : PE X l tl) (hK : X.K = K0 := by rfl) : PI X tg l (iList K0 tl) := hK ▸ pi_list hl
theorem piTupK {tg l : Expr} {tl : TE} (hl : PE X l tl) (hK : X.K = K0 := by rfl) : PI X tg l (iTup K0 tl) := hK ▸ pi_tup hl
theorem piLtK {tg l : Expr} {tl : TE} (hl : PE X l tl) (hK : X.K = K0 := by rfl) : PI X tg l (iLT K0 tl) := hK ▸ pi_lt hl
def rLenQ (K : PySem.W.Frag) : List V → Hp → VK → Prop := fun xs H Q => ∃ p ys, xs = [.ref p] ∧ (SqL K H p ys ∨ SqT K H p ys) ∧ Q (.int ys.length) H
theorem call_lenS : CallR X (.builtin "len") (rLenQ X.K) := call_len_seq
end
theorem sw_trueD {kx vx : Expr} {gs : List Comprehension} {scope : Scope} {pos py : Pos} {y : Str} {l : Nat} {env : Env} (hk : env.scope.kind = .function) (hy : env.scope.names.lookup y = some .local) (hl : (py.line == pos.line) = true)
    (ha : (scope.names.any fun (n, k) => n == y && (k == .local || k == .cell)) = false) : swapsWith (.DictComp kx vx gs scope pos) (some (.Name y py)) l env = pure true := by
  have ky : env.kindOf y = some .local := hy
  have hb : env.blockKind = .function := by unfold Env.blockKind; rw [hk]; rfl
  unfold swapsWith
  simp only [hb, ky, ha, Expr.pos, hl]
  rfl
end Bk

set_option Elab.async false
set_option linter.all false
set_option maxRecDepth 100000
set_option maxHeartbeats 4000000
/-! Own layer 14: get of a written dict with text keys; data of any depth, what it is. -/
namespace Bk
open PySem PySem.Spec PyProof.Rows L2
/-- the value under a text key of a written dict, or none -/
def KVal (K : PySem.W.Frag) (a : Addr) (x : Str) (o : Option V) : Prop := ∃ r, PySem.W.nsIn K a x = some r ∧ ((r = none ∧ o = none) ∨ ∃ u v, r = some u ∧ o = some v ∧ RelV v u)
def tDGetK (K : PySem.W.Frag) (w : World) (td ty tx : TE) : TE := fun σ H Q => td σ H fun x H1 => ∃ a, x = .ref a ∧ (∃ es n, KDict K w a es n) ∧ ty σ H1 fun y H2 => tx σ H2 fun z H3 => ∃ t o, y = .str t ∧ KVal K a t o ∧ Q (o.getD z) H3
section
variable {X : Cx} {o e f : Expr} {apos cpos : Pos} {td ty tx : TE}
theorem pe_dgetK (ho : PE X o td) (he : PE X e ty) (hf : PE X f tx) (m : M2 X o "get" apos e f cpos) : PE X (.Call (.Attribute o "get" apos) [e, f] [] cpos) (tDGetK X.K X.w td ty tx) := by
  refine ⟨fun pins s σ H Q I h => ?_⟩
  refine wpAny_Call_method m.base m.few m.line PySem.F.plainAttrs_dict PySem.F.slot_dict_get PySem.F.type_dict_get (thn (ho.run pins s σ H _ I h) fun u s1 ⟨x, H1, I1, rx, a, ex, ⟨es, n, D⟩, q1⟩ => ?_)
  subst ex
  obtain rfl : u = Value.ref a := rx
  have hm1 := PySem.W.mapOf_K (prog := X.prog) (w := X.w) I1.kIn D.at_ D.lit
  refine ⟨hm1.typeIs, fun b q => ?_, ?_⟩
  · cases q
    obtain ⟨ob, _, _, h1, h2, _⟩ := hm1
    exact ⟨ob, h1, h2.2.1⟩
  rw [m.trees]
  refine Calls.callWith_builtin rfl (Calls.evalArgs_plain (Calls.spliced_cons (thn (he.run pins s1 σ H1 _ I1 q1) fun iv s2 ⟨y, H2, I2, ry, q2⟩ =>
    Calls.spliced_cons (thn (hf.run pins s2 σ H2 _ I2 q2) fun fv s3 ⟨z, H3, I3, rz, t, ov, ey, ⟨r, hr, hv⟩, q3⟩ => Calls.spliced_nil ?_))))
  subst ey
  obtain ⟨tt, rfl⟩ := (show ∃ t', iv = Value.str t t' from ry)
  have hm := PySem.W.mapOf_K (prog := X.prog) (w := X.w) I3.kIn D.at_ D.lit
  refine call_meetsIn PySem.F.slot_dict_get hm.typeIs PySem.F.entry_dict_get (PySem.F.args_dict_get_3 _ _ _) (meets_dict_get_default (strKind X.prog X.w) a (strKind_is X.prog X.w t tt) D.low fv) ⟨_, hm, ?_⟩
  rw [PySem.W.find_K D.at_ hr]
  rcases hv with ⟨rfl, rfl⟩ | ⟨u, v, rfl, rfl, rv⟩
  · exact ⟨z, H3, I3.tok _, rz, q3⟩
  · exact ⟨v, H3, I3.tok _, rv, q3⟩
end
end Bk

set_option Elab.async false
set_option linter.all false
set_option maxRecDepth 100000
set_option maxHeartbeats 4000000
/-! Own layer 15: [e for x in xs for y in ys], no tests. -/
namespace Bk
open PySem PySem.Spec PyProof.Rows L2
theorem lc2_seq {J : It} {xs : List V} {G : Hp → Prop} (S : ItSeq J xs G) {g g1 : TG} {wi1 : TI} {te : TE} {vs us : List Nat} {σ : L2.St} {H1 : Hp} {D : Addr} {Qd : Hp → Prop} (Pv : Nat → Hp → Prop) (h0 : Pv 0 (upd H1 D (.lst []))) (hl : ∀ i H, i ≤ xs.length → Pv i H → G H)
    (hs : ∀ i x H, xs[i]? = some x → Pv i H → g x (wipe σ vs) H fun σ2 H3 => wipe σ2 vs = wipe σ vs ∧ wi1 σ2 H3 fun J1 H4 => ∃ (ys : List V) (G1 : Hp → Prop) (Pw : Nat → Hp → Prop), ItSeq J1 ys G1 ∧ Pw 0 H4 ∧ (∀ j H, j ≤ ys.length → Pw j H → G1 H) ∧
      (∀ j y H, ys[j]? = some y → Pw j H → g1 y (wipe σ2 us) H fun σ3 H5 => wipe σ3 us = wipe σ2 us ∧ te σ3 H5 fun y H7 => ∃ acc, H7 D = some (.lst acc) ∧ acc.length < sizeLine ∧ Pw (j + 1) (upd H7 D (.lst (acc ++ [y])))) ∧
      ∀ H, Pw ys.length H → Pv (i + 1) H) (hd : ∀ H, Pv xs.length H → Qd H)
    (mono : ∀ {σ H} {R R' : It → Hp → Prop}, wi1 σ H R → (∀ J H', R J H' → R' J H') → wi1 σ H R') (gmono : ∀ {x σ H} {Q Q' : L2.St → Hp → Prop}, g x σ H Q → (∀ σ' H', Q σ' H' → Q' σ' H') → g x σ H Q')
    (gmono1 : ∀ {x σ H} {Q Q' : L2.St → Hp → Prop}, g1 x σ H Q → (∀ σ' H', Q σ' H' → Q' σ' H') → g1 x σ H Q') :
    ∃ W : Nat → Nat → Hp → Prop, (∃ m, W 0 m (upd H1 D (.lst []))) ∧ ∀ i m H, W i m H →
      (J.stop i H ∧ Qd H) ∨ (J.go i H ∧ ∃ Nx : Hp → Prop, (∀ H', Nx H' → ∃ m', m' < m ∧ W (i + 1) m' H') ∧ ∀ x H', J.yld i H x H' → g x (wipe σ vs) H' fun σ2 H2 => wipe σ2 vs = wipe σ vs ∧ tYes σ2 H2 fun b H3 =>
        if b = true then wi1 σ2 H3 fun J1 H4 => ∃ W1 : Nat → Nat → Hp → Prop, (∃ m, W1 0 m H4) ∧ ∀ j k H, W1 j k H →
          (J1.stop j H ∧ Nx H) ∨ (J1.go j H ∧ ∃ Nx1 : Hp → Prop, (∀ H', Nx1 H' → ∃ k', k' < k ∧ W1 (j + 1) k' H') ∧ ∀ x H', J1.yld j H x H' → g1 x (wipe σ2 us) H' fun σ3 H5 => wipe σ3 us = wipe σ2 us ∧ tYes σ3 H5 fun b H6 =>
            if b = true then te σ3 H6 fun y H7 => ∃ acc, H7 D = some (.lst acc) ∧ acc.length < sizeLine ∧ Nx1 (upd H7 D (.lst (acc ++ [y]))) else Nx1 H6)
        else Nx H3) := by
  refine ⟨fun i m H => m = xs.length - i ∧ i ≤ xs.length ∧ Pv i H, ⟨xs.length, by simp, Nat.zero_le _, h0⟩, ?_⟩
  rintro i m H ⟨rfl, hi, p⟩
  have q := hl i H hi p
  by_cases hlt : i < xs.length
  · refine .inr ⟨S.go i H q hlt, Pv (i + 1), fun H' p' => ⟨xs.length - (i + 1), by omega, rfl, hlt, p'⟩, fun x H' y => ?_⟩
    obtain ⟨e, yy⟩ := S.yld i H x H' q y
    subst e
    refine gmono (hs i x _ yy p) fun σ2 H3 ⟨w, h⟩ => ⟨w, ?_⟩
    unfold tYes
    dsimp only
    rw [if_pos rfl]
    refine mono h fun J1 H4 ⟨ys, G1, Pw, S1, p0, pl, ps, pe⟩ => ?_
    refine ⟨fun j k H => k = ys.length - j ∧ j ≤ ys.length ∧ Pw j H, ⟨ys.length, by simp, Nat.zero_le _, p0⟩, ?_⟩
    rintro j k H5 ⟨rfl, hj, pw⟩
    have q1 := pl j H5 hj pw
    by_cases hlt1 : j < ys.length
    · refine .inr ⟨S1.go j H5 q1 hlt1, Pw (j + 1), fun H' p' => ⟨ys.length - (j + 1), by omega, rfl, hlt1, p'⟩, fun x H' y => ?_⟩
      obtain ⟨e, yy⟩ := S1.yld j H5 x H' q1 y
      subst e
      refine gmono1 (ps j x _ yy pw) fun σ3 H6 ⟨w, h⟩ => ⟨w, ?_⟩
      rw [if_pos rfl]
      exact h
    · obtain rfl : j = ys.length := by omega
      exact .inl ⟨S1.stop H5 q1, pe H5 pw⟩
  · obtain rfl : i = xs.length := by omega
    exact .inl ⟨S.stop H q, hd H p⟩
theorem iTup_mono {K : PySem.W.Frag} {n : Nat} {σ : L2.St} {H : Hp} {R R' : It → Hp → Prop} (h : iTup K (tVar n) σ H R) (k : ∀ J H', R J H' → R' J H') : iTup K (tVar n) σ H R' := by
  obtain ⟨v, hv, a, e, xs, r⟩ := h
  exact ⟨v, hv, a, e, xs, k _ _ r⟩
end Bk

set_option Elab.async false
set_option linter.all false
set_option maxRecDepth 100000
set_option maxHeartbeats 4000000
/-! Own layer 16: set of a list or a tuple of ints, as a value (the walk is the library's for a tuple, turned to lists). -/
namespace Bk
open PySem PySem.Spec PyProof.Rows L2
section
variable {P : Program} {w : World} {A : Around} {E : Value → Shared → Prop} {s : Shared}
set_option maxHeartbeats 3200000 in
theorem call_set_lstI {l : Addr} {items : Array Value} (ns : List Int) {Q : Value → Shared → Prop} (hh : A.handled = none) (hl : s.heap.IsList l items) (hit : IntsAre items.toList ns) (hb : ns.length + 1 < scanBound)
    (h : ∀ (h' : Heap) (tk c : Nat), SetR w h' s.heap.objs.size (fun j => decide (j ∈ ns)) c → c ≤ ns.length → (∀ b o, s.heap.get? b = some o → h'.get? b = some o) → Q (.ref s.heap.objs.size) { s with heap := h', toks := tk }) :
    wpAny (model P w) A (call (.type "set") [.ref l]) Q E s := by
  have hisz : items.size = ns.length := by
    have q := IntsAre.length hit
    rw [Array.length_toList] at q
    exact q
  obtain ⟨c, tl, hmro⟩ := F.called_set.mro
  have hmade := F.called_set.made
  have hsub := F.called_set.sub
  refine wpAny_call (codeAny_of_tree ?_)
  show wpAny _ _ (callAny (.type "set") _) _ _ _
  refine wpAny_pure ⟨Code.quiet_builtin _ (by decide +kernel), codeAny_builtin F.entry_type_call ?_⟩
  rw [Around.under_plain (weight_type_call_type "set" [.ref l] []) rfl]
  have h1 := F.called_set.notType
  have h2 := F.called_set.canCreate
  have hct := F.typeCall_set_1 (.ref l)
  repeat (any_goals (first | assumption | wp_step))

  refine codeAny_mono (code_set_led1 (.ref l) (E := E) (Q₁ := fun obj s₁ => obj = .ref s.heap.objs.size ∧ s₁ = { s with heap := s.heap.push { cls := .type "set", dict := none, data := .set #[] 0 (.fresh 0 0 (!w.params.followText "set-order")) } }) ⟨rfl, rfl⟩) fun r s₁ hr => ?_
  cases r with
  | error e => exact hr
  | ok fl =>
    cases fl with
    | ret obj =>
      obtain ⟨rfl, rfl⟩ := hr
      have hS : (s.heap.push { cls := .type "set", dict := none, data := .set #[] 0 (.fresh 0 0 (!w.params.followText "set-order")) }).get? s.heap.objs.size = some { cls := .type "set", dict := none, data := .set #[] 0 (.fresh 0 0 (!w.params.followText "set-order")) } := Heap.get?_push_size _ rfl
      have hT : Shared.TypeIs { s with heap := s.heap.push { cls := .type "set", dict := none, data := .set #[] 0 (.fresh 0 0 (!w.params.followText "set-order")) } } (.ref s.heap.objs.size) "set" := ⟨_, hS, rfl⟩
      have hli := F.called_set.init.lookup
      have hbi := F.called_set.init.bind (.ref s.heap.objs.size)
      repeat (any_goals (first | assumption | wp_step))

      refine codeAny_mono (codeAny_call_builtin (R := wants (fun r s₂ => r = .none ∧ ∃ h' tk c, s₂ = { s with heap := h', toks := tk } ∧ SetR w h' s.heap.objs.size (fun j => decide (j ∈ ns)) c ∧ c ≤ ns.length ∧
          (∀ b o, s.heap.get? b = some o → h'.get? b = some o)) E) F.called_set.init.plain F.entry_set_init (check_set_init_1 hT ?_)) fun r₂ s₂ hr₂ => ?_
      · obtain ⟨ol, hol, hcl, nl, hdl⟩ := hl
        obtain ⟨ocls, odict, odata, oslots⟩ := ol
        simp only at hcl hdl
        subst hcl; subst hdl
        have hol' : (s.heap.push { cls := .type "set", dict := none, data := .set #[] 0 (.fresh 0 0 (!w.params.followText "set-order")) }).get? l = some { cls := .type "list", dict := odict, data := .seq items nl, slots := oslots } := Heap.get?_push_of_some _ hol
        have hsls := F.sub_list_set
        have hslf := F.sub_list_frozenset
        have hne : (Value.type "list" == Value.type "dict") = false := by decide
        have hl1 : (s.heap.push { cls := .type "set", dict := none, data := .set #[] 0 (.fresh 0 0 (!w.params.followText "set-order")) }).IsList l items := ⟨_, hol', rfl, nl, rfl⟩
        unfold Builtin.«set.__init__» noKeywords Builtin.Frozenset.updateFrom
        generalize hPI : pyIter = PI
        wp_walk
        subst hPI

        refine wpAny_pyIter_list hl1 ?_
        refine wpAny_bind (wpAny_runValue ?_)
        have hlS : l < s.heap.objs.size := Heap.lt_size hol
        have hh3 : A.in1.in1.in1.handled = none := by simp [hh]
        have hz1 : (s.heap.push { cls := .type "set", dict := none, data := .set #[] 0 (.fresh 0 0 (!w.params.followText "set-order")) }).objs.size = s.heap.objs.size + 1 := Heap.size_push ..
        have hneI : l ≠ (s.heap.push { cls := .type "set", dict := none, data := .set #[] 0 (.fresh 0 0 (!w.params.followText "set-order")) }).objs.size := by
          rw [Heap.size_push]; exact Nat.ne_of_lt (Nat.lt_succ_of_lt hlS)
        have hSf : s.heap.objs.size ∉ [(s.heap.push { cls := .type "set", dict := none, data := .set #[] 0 (.fresh 0 0 (!w.params.followText "set-order")) }).objs.size, l] := by
          rw [Heap.size_push]; simp only [List.mem_cons, List.mem_singleton, List.not_mem_nil, or_false, not_or]
          exact ⟨Nat.ne_of_lt (Nat.lt_succ_self _), Nat.ne_of_gt hlS⟩
        have hval : ∀ (i : Nat) (v : Value), items[i]? = some v → ∃ k t, ns[i]? = some k ∧ v = .int k t := fun i v hv => by
          have hi : i < ns.length := by rw [← hisz]; exact (Array.getElem?_eq_some_iff.mp hv).1
          obtain ⟨t, e⟩ := PyProof.Rows.IntsAre.int_at hit i v (by rw [Array.getElem?_toList]; exact hv)
          refine ⟨ns[i], t, List.getElem?_eq_getElem hi, ?_⟩
          rw [e, List.getD_eq_getElem?_getD, List.getElem?_eq_getElem hi] <;> rfl
        refine set_update_ints ((Walks.list hh3 _ l hneI items).toS) s.heap.objs.size
          hSf ns hisz hb hval (items.size - 0) 0 _ (by omega) (Nat.zero_le _)
          ⟨⟨_, Heap.get?_push_size _ rfl, rfl, rfl⟩, (hl1.push _)⟩ ?hS0 ?hR
        case hS0 =>
          have hget : ((s.heap.push { cls := .type "set", dict := none, data := .set #[] 0 (.fresh 0 0 (!w.params.followText "set-order")) }).push { cls := .type "list_iterator", data := .fields #[.ref l, .int 0 0] }).get? s.heap.objs.size
              = some { cls := .type "set", dict := none, data := .set #[] 0 (.fresh 0 0 (!w.params.followText "set-order")) } := Heap.get?_push_of_some _ hS
          exact ⟨0, Nat.le_refl 0, setR_new_at hget⟩
        case hR =>
          intro s' c' hm hc' hS'
          obtain ⟨h', g2, d', tk', os'⟩ := s'
          have eg : g2 = s.gens := hm.gens
          have ed : d' = s.drawn := hm.drawn
          have eo : os' = s.os := hm.os
          subst eg; subst ed; subst eo
          show wpAny _ _ _ _ _ _
          refine wpAny_pure ?_
          show wpAny _ _ (ret Value.none) _ _ _
          rw [hisz] at hc'
          refine wpAny_pure ⟨rfl, h', tk', c', rfl, hS', hc', fun b o e => ?_⟩
          have hb0 : b < s.heap.objs.size := Heap.lt_size e
          have hb1 : b ≠ s.heap.objs.size := Nat.ne_of_lt hb0
          have hb2 : b ≠ (s.heap.push { cls := .type "set", dict := none, data := .set #[] 0 (.fresh 0 0 (!w.params.followText "set-order")) }).objs.size := by
            rw [Heap.size_push]; exact Nat.ne_of_lt (Nat.lt_succ_of_lt hb0)
          exact hm.heap b o (by simp only [List.mem_cons, List.mem_singleton, List.not_mem_nil, or_false, not_or]; exact ⟨hb1, hb2⟩) (Heap.get?_push_of_some _ (Heap.get?_push_of_some _ e))

      · cases r₂ with
        | error e => exact hr₂
        | ok fl₂ =>
          cases fl₂ with
          | ret r =>
            obtain ⟨rfl, h', tk, c', rfl, hS', hc', hk'⟩ := hr₂
            repeat (any_goals (first | assumption | wp_step))
            exact h _ _ _ hS' hc' hk'
          | _ => exact hr₂.elim
    | _ => exact hr.elim

end
/-- set(xs): its members are those of xs -/
def rSetI (K : PySem.W.Frag) (w : World) : List V → Hp → VK → Prop := fun vs H Q => ∃ (p : Addr) (ns : List Int), vs = [.ref p] ∧ (SqL K H p (ns.map V.int) ∨ SqT K H p (ns.map V.int)) ∧ ns.length ≤ 1000 ∧
  ∀ (q : Addr) (n : Nat), n ≤ ns.length → (∀ B : List Int, (∀ x ∈ ns, x ∈ B) → n ≤ B.length) → H q = none → Q (.ref q) (upd H q (SetO w q (fun j => decide (j ∈ ns)) n))
theorem setR_few {w : World} {h : Heap} {a : Addr} {ns : List Int} {n : Nat} (R : SetR w h a (fun j => decide (j ∈ ns)) n) (B : List Int) (hB : ∀ x ∈ ns, x ∈ B) : n ≤ B.length := by
  obtain ⟨o, es, ep, t, _, _, _, _, nd, hm, _, _, hn, _⟩ := R
  have h1 := List.Nodup.length_le_of_subset nd (l₂ := B) fun k hk => hB k (of_decide_eq_true ((hm k).mpr hk))
  rw [List.length_map, Array.length_toList, hn] at h1
  exact h1
section
variable {X : Cx}
theorem cr_setI (hc : X.calm = true) : CallR X (.type "set") (rSetI X.K X.w) := by
  intro pins s σ H vs us Q I r h
  obtain ⟨p, ns, rfl, hq, hl, q⟩ := h
  rw [Vals.ref1 r]
  have hd := I.ok.hd hc
  rcases hq with hq | hq
  · obtain ⟨its, rv, pt, hz⟩ := I.list hq
    have hi : IntsAre its.toArray.toList ns := ints_of_vals rv
    refine call_set_lstI ns hd pt.isList hi (by unfold scanBound; omega) fun h' tk c R1 hcn k => ?_
    exact ⟨.ref _, upd H s.heap.objs.size (SetO X.w s.heap.objs.size (fun j => decide (j ∈ ns)) c), I.laid (t' := tk) k (Nat.le_refl _) (setO_new R1), rfl, q _ c hcn (setR_few R1) (I.hok.fresh (Nat.le_refl _))⟩
  · obtain ⟨its, rv, pt, hz⟩ := I.tuple hq
    have hi : IntsAre its.toArray.toList ns := ints_of_vals rv
    refine call_set_tupI ns hd (show s.heap.IsTuple p its.toArray from pt) hi (by unfold scanBound; omega) fun h' tk c R1 hcn k => ?_
    exact ⟨.ref _, upd H s.heap.objs.size (SetO X.w s.heap.objs.size (fun j => decide (j ∈ ns)) c), I.laid (t' := tk) k (Nat.le_refl _) (setO_new R1), rfl, q _ c hcn (setR_few R1) (I.hok.fresh (Nat.le_refl _))⟩
end
end Bk

set_option Elab.async false
set_option linter.all false
set_option maxRecDepth 100000
set_option maxHeartbeats 4000000
/-! Own layer 17: sorted(t) of a tuple of ints (the library's rule for a list, turned to tuples). -/
namespace Bk
open PySem PySem.Spec PyProof.Rows L2
namespace SoT
open SrtO
section
variable {prog : Program} {w : World} {A : Around} {E : Value → Shared → Prop} {s : Shared}
theorem collect_tup {l : Addr} {vs : List Value} {Q : List Value → Shared → Prop} (hl : s.heap.IsTuple l vs.toArray)
    (h : Q vs { s with heap := (s.heap.push (seqObj "list" #[] 0)).update s.heap.objs.size (Obj.mapSeq (· ++ vs.toArray)) }) (hsz : vs.length ≤ sizeLine := by size_fits) :
    wpAny (model prog w) A (collect (.ref l)) Q E s := by
  obtain ⟨o, ho, hc, n, hd⟩ := id hl
  unfold collect
  refine wpAny_bind (wpAny_runValue (codeAny_builtin entry_proto_collect' ?_))
  show wpAny _ _ (do again (.builtin "list.__iadd__" ⟨[← newList [], .ref l], []⟩)) _ _ s
  refine wpAny_bind (wpAny_newList (wpAny_pure ⟨Code.quiet_builtin _ (by decide +kernel), codeAny_builtin entry_list_iadd' ?_⟩))
  show wpAny _ _ (Builtin.List.listExtendWith (.ref s.heap.objs.size) (.ref l) (.ref s.heap.objs.size)) _ _ { s with heap := s.heap.push (seqObj "list" #[] 0) }
  unfold Builtin.List.listExtendWith
  have ho' : (s.heap.push (seqObj "list" #[] 0)).get? l = some o := Heap.get?_push_of_some _ ho
  refine wpAny_bind (wpAny_typeOf (T := "tuple") ⟨o, ho', hc⟩ ?_)
  have ht : (Value.type "tuple" == Value.type "tuple") = true := by rfl
  rw [if_pos (by rw [ht]; simp)]
  refine wpAny_bind (listItems_at ho' hd ?_)
  refine wpAny_bind (listItems_at (xs := #[]) (n := 0) (Heap.get?_push_size _ rfl) rfl ?_)
  rw [if_neg (by simp)]
  refine wpAny_bind (listUpdate_at (xs := #[]) (n := 0) (Heap.get?_push_size _ rfl) rfl ?_ (Nat.zero_le _) (by show (#[] ++ vs.toArray).size ≤ sizeLine + 1; simp only [Array.size_append, List.size_toArray, List.length_nil]; omega))
  refine wpAny_pure ?_
  show wpAny (model prog w) A (do
      let o ← load s.heap.objs.size
      match o.data with
      | .seq xs _ => pure xs.toList
      | _ => unsupported "internal:collect") Q E { s with heap := (s.heap.push (seqObj "list" #[] 0)).update s.heap.objs.size (Obj.mapSeq (· ++ vs.toArray)) }
  refine wpAny_bind (wpAny_load (get?_update_seq (Heap.get?_push_size _ rfl) _) ?_)
  show wpAny _ _ (pure ((#[] : Array Value) ++ vs.toArray).toList) Q E _
  rw [show ((#[] : Array Value) ++ vs.toArray).toList = vs by simp]
  exact wpAny_pure h

theorem sorted_ordT {l : Addr} {vs : List Value} {ltv : Value → Value → Bool} {Q : Value → Shared → Prop} (O : Swo ltv) (hl : s.heap.IsTuple l vs.toArray) (hz : vs.length ≤ sizeLine)
    (hS : 2 ≤ vs.length → ∀ (h₁ : Heap) (a : Addr), h₁.get? a = some (seqObj "list" vs.toArray 0) → (∀ b o, s.heap.get? b = some o → b ≠ a ∧ h₁.get? b = some o) → SortableO prog w A.in1.in1 { s with heap := h₁ } a vs ltv)
    (h : ∀ out : List Value, Srtd ltv out → Stb ltv out vs → Q (.ref (s.heap.objs.size + 1)) { s with heap := sortedAll s.heap vs out.toArray }) :
    wpAny (model prog w) A (call (.builtin "sorted") [.ref l]) Q E s := by
  refine Calls.call_function_entry kind_sorted plain_sorted entry_sorted (args_sorted1 _) ?_
  unfold Builtin.«sorted»
  refine wpAny_bind (m := checkCount "sorted" 1 1 _) (wpAny_pure ?_)
  refine wpAny_bind (collect_tup hl ?_ hz)
  refine wpAny_bind (wpAny_newList ?_ hz)
  have hsz : ((s.heap.push (seqObj "list" #[] 0)).update s.heap.objs.size (Obj.mapSeq (· ++ vs.toArray))).objs.size = s.heap.objs.size + 1 := by
    rw [Heap.size_update, size_push']
  have hoL : (((s.heap.push (seqObj "list" #[] 0)).update s.heap.objs.size (Obj.mapSeq (· ++ vs.toArray))).push (seqObj "list" vs.toArray 0)).get? (s.heap.objs.size + 1) = some (seqObj "list" vs.toArray 0) := by
    rw [← hsz]; exact Heap.get?_push_size _ rfl
  have keep : ∀ b o, s.heap.get? b = some o → b ≠ s.heap.objs.size + 1 ∧ (((s.heap.push (seqObj "list" #[] 0)).update s.heap.objs.size (Obj.mapSeq (· ++ vs.toArray))).push (seqObj "list" vs.toArray 0)).get? b = some o := fun b o q => by
    have hlt : b < s.heap.objs.size := Heap.lt_size q
    refine ⟨Nat.ne_of_lt (Nat.lt_succ_of_lt hlt), Heap.get?_push_of_some _ ?_⟩
    rw [Heap.get?_update_ne _ _ _ _ (Nat.ne_of_lt hlt)]
    exact Heap.get?_push_of_some _ q
  show wpAny _ _ _ _ _ { s with heap := ((s.heap.push (seqObj "list" #[] 0)).update s.heap.objs.size (Obj.mapSeq (· ++ vs.toArray))).push (seqObj "list" vs.toArray 0) }
  rw [hsz]
  refine wpAny_bind (wpAny_holding (wpAny_call_entry slot_list_sort ⟨_, hoL, rfl⟩ entry_list_sort (list_sort_ord O hoL hz (fun h2 => hS h2 _ _ hoL keep) fun out hs hb => ⟨_, rfl, ?_⟩) (args_list_sort _)))
  exact wpAny_pure ⟨_, rfl, h out hs hb⟩

end
end SoT
def rSortedIT (K : PySem.W.Frag) : List V → Hp → VK → Prop := fun vs H Q => ∃ (a : Addr) (ns : List Int), vs = [V.ref a] ∧ SqT K H a (ns.map V.int) ∧
  ∀ (ns' : List Int) (p : Addr), ns'.Perm ns → ns'.Pairwise (· ≤ ·) → H p = none → Q (.ref p) (upd H p (.lst (ns'.map V.int)))
section
variable {X : Cx}
theorem cr_sortedIT : CallR X (.builtin "sorted") (rSortedIT X.K) := by
  intro pins s σ H vs us Q I r h
  obtain ⟨a, ns, rfl, hs, q⟩ := h
  obtain ⟨its, rv, hl, hz⟩ := I.tuple hs
  rw [Vals.ref1 r]
  have hi := rv.ints
  refine SoT.sorted_ordT SrtO.swo_int (show s.heap.IsTuple a its.toArray from hl) (by rw [← rv.length]; exact hz) (fun h2 h₁ a' _ _ => SrtO.ints_sortable hi h2) fun out h1 h2 => ?_
  obtain ⟨k1, k2, k3⟩ := SrtO.ints_out hi h1 h2
  obtain ⟨ep, he'⟩ := PyProof.Rows.sortedAll_at s.heap its out.toArray
  have hlen : ((out.map SrtO.iv).map V.int).length ≤ sizeLine := by
    rw [List.length_map, k2.length_eq]
    rw [List.length_map] at hz
    exact hz
  exact ⟨.ref _, upd H (s.heap.objs.size + 1) (.lst ((out.map SrtO.iv).map V.int)), I.laid (t' := s.toks) (fun _ _ => PyProof.Rows.sortedAll_old) (Nat.le_succ _) ⟨hlen, out, ep, vals_of_ints k1, he'⟩, rfl, q _ _ k2 k3 (I.hok.fresh (Nat.le_succ _))⟩
end
end Bk

set_option Elab.async false
set_option linter.all false
set_option maxRecDepth 100000
set_option maxHeartbeats 4000000
/-! Own layer 18: t[::-1] of a tuple. -/
namespace HTR
open PySem PySem.Spec PyProof.Rows L2 HT
section
variable {prog : Program} {w : World} {A : Around} {E : Value → Shared → Prop} {s : Shared}
theorem applied_rev {sl : Addr} {vl vu vs : Value} {n : Nat} {Q : Int × Int × Nat → Shared → Prop} (hs : s.heap.IsSliceOf sl vl vu vs) (pl : IsPart vl none) (pu : IsPart vu none) (ps : IsPart vs (some (-1)))
    (h : Q ((n : Int) - 1, -1, n) s) : wpAny (model prog w) A (Builtin.Slice.sliceApplied (.ref sl) (pure (n : Int))) Q E s := by
  obtain ⟨os, hos, hcs, hds⟩ := id hs
  unfold Builtin.Slice.sliceApplied Builtin.Slice.sliceFields
  refine wpAny_bind (wpAny_bind (wpAny_field hos hds (x := vl) rfl (wpAny_bind (wpAny_field hos hds (x := vu) rfl (wpAny_bind (wpAny_field hos hds (x := vs) rfl (wpAny_pure ?_)))))))
  refine wpAny_bind (slicePart_ ps ?_)
  show wpAny _ _ (if ((-1 : Int) == 0) = true then _ else _) _ _ s
  rw [if_neg (by decide)]
  refine wpAny_bind (slicePart_ pl (wpAny_bind (slicePart_ pu (wpAny_bind (wpAny_pure ?_)))))
  show wpAny _ _ (pure ((n : Int) - 1, (-1 : Int), Builtin.Slice.slicePlaces ((n : Int) - 1) (-1) (-1))) _ _ s
  have e : Builtin.Slice.slicePlaces ((n : Int) - 1) (-1) (-1) = n := by
    unfold Builtin.Slice.slicePlaces
    rw [if_neg (by decide)]
    by_cases h0 : n = 0
    · subst h0
      decide
    · rw [if_pos (by omega), show (- (-1) : Int) = 1 by decide, Int.ediv_one]
      omega
  rw [e]
  exact wpAny_pure h
theorem fm_congr {α β : Type} {f g : α → Option β} : ∀ l : List α, (∀ x ∈ l, f x = g x) → l.filterMap f = l.filterMap g
  | [], _ => rfl
  | a :: l, h => by
    rw [List.filterMap_cons, List.filterMap_cons, h a List.mem_cons_self, fm_congr l fun x hx => h x (List.mem_cons_of_mem _ hx)]
theorem pick_rev (xs : Array Value) : ((List.range xs.size).filterMap fun (m : Nat) => xs[(((xs.size : Nat) : Int) - 1 + (m : Int) * (-1)).toNat]?).toArray = xs.toList.reverse.toArray := by
  have e : (List.range xs.size).filterMap (fun (m : Nat) => xs[(((xs.size : Nat) : Int) - 1 + (m : Int) * (-1)).toNat]?) = ((List.range xs.size).map fun k => xs.size - 1 - k).filterMap (xs[·]?) := by
    rw [List.filterMap_map]
    refine fm_congr _ fun k hk => ?_
    have := List.mem_range.mp hk
    show xs[(((xs.size : Nat) : Int) - 1 + (k : Int) * (-1)).toNat]? = xs[xs.size - 1 - k]?
    congr 1
    omega
  rw [e, PySem.W.krv_range, List.filterMap_reverse, PySem.W.krv_all]
theorem getItem_tuple_rev {t sl : Addr} {items : Array Value} {vl vu vs : Value} {Q : Value → Shared → Prop} (ht : IsTup s.heap t items) (hs : s.heap.IsSliceOf sl vl vu vs) (pl : IsPart vl none) (pu : IsPart vu none) (ps : IsPart vs (some (-1)))
    (h : Q (.ref s.heap.objs.size) { s with heap := s.heap.push { cls := .type "tuple", data := .seq items.toList.reverse.toArray } }) (hsz : items.size ≤ sizeLine) : wpAny (model prog w) A (getItem (.ref t) (.ref sl)) Q E s := by
  have htake : sizeOk (.seq items.toList.reverse.toArray) := by
    show items.toList.reverse.toArray.size ≤ sizeLine
    rw [List.size_toArray, List.length_reverse, Array.length_toList]
    exact hsz
  obtain ⟨os, hos, hcs, hds⟩ := id hs
  have hTs : s.TypeIs (.ref sl) "slice" := ⟨os, hos, hcs⟩
  unfold getItem
  try with_reducible refine wpAny_holding ?_
  first | refine wpAny_bind (wpAny_pure ?_) | skip
  refine wpAny_bind (wpAny_sequenceKey ht.typeIs (by decide) ?_)
  refine wpAny_bind (wpAny_callSpecial?_slot (name := Str.ofString "__getitem__") ht.typeIs PyProof.Rows.slot_tuple_getitem
    (wpAny_call_entry PyProof.Rows.slot_tuple_getitem ht.typeIs entry_tuple_getitem ?_ (args_tuple_getitem _ _)))
  show wpAny _ _ (Builtin.Tuple.tupleItemsOf (.ref t) >>= _) _ _ s
  refine wpAny_bind (tupleItemsOf_ ht ?_)
  refine wpAny_bind (wpAny_typeOf hTs ?_)
  rw [if_pos (by decide)]
  refine wpAny_bind (applied_rev hs pl pu ps ?_)
  show wpAny _ _ (if ((((items.size : Nat) : Int) - 1) == 0 && (-1 : Int) == 1 && items.size == items.size) = true then _ else _) _ _ s
  rw [if_neg (by rw [show ((-1 : Int) == 1) = false by decide, Bool.and_false, Bool.false_and]; exact Bool.false_ne_true), pick_rev]
  first
    | exact wpAny_bind (m := Builtin.Tuple.tupleExact _) (wpAny_newObj_type (wpAny_pure ⟨_, rfl, wpAny_pure h⟩) htake)
    | exact wpAny_bind (m := Builtin.Tuple.tupleExact _) (wpAny_newObj_type (wpAny_bind (wpAny_pure (wpAny_pure ⟨_, rfl, wpAny_pure h⟩))) htake)
    | exact wpAny_bind (wpAny_bind (m := Builtin.Tuple.tupleExact _) (wpAny_newObj_type (wpAny_pure (wpAny_pure ⟨_, rfl, wpAny_pure h⟩)) htake))
    | exact wpAny_bind (wpAny_bind (m := Builtin.Tuple.tupleExact _) (wpAny_newObj_type (wpAny_pure ⟨_, rfl, wpAny_pure h⟩) htake))
end
end HTR
namespace Bk
open PySem PySem.Spec PyProof.Rows L2
/-- t[::-1] -/
def tRevT (K : PySem.W.Frag) (te : TE) : TE := fun σ H Q => te σ H fun x H1 => ∃ a xs, x = .ref a ∧ SqT K H1 a xs ∧ ∀ p, H1 p = none → Q (.ref p) (upd H1 p (.tup xs.reverse))
section
variable {X : Cx}
theorem pe_revT {e : Expr} {te : TE} {k : Nat} {p1 p2 p3 pos : Pos} (he : PE X e te) : PE X (.Subscript e (.Slice none none (some (.UnaryOp .USub (.Constant (.int 1) k p1) p2)) p3) pos) (tRevT X.K te) := by
  refine ⟨fun pins s σ H Q I h => ?_⟩
  refine Subscript_ (thn (he.run pins s σ H _ I h) fun v s1 ⟨x, H1, I1, r1, q1⟩ => ?_)
  obtain ⟨a, xs, ex, hx, q⟩ := q1
  subst ex
  cases r1
  have hst : PO X (some (.UnaryOp .USub (.Constant (.int 1) k p1) p2)) (tPart (tUn (rU fun i => .int (-i)) (tC (.int 1)))) := po_some (pe_un un_neg pe_int)
  refine wpAny_Slice (thn (po_none.run pins s1 σ H1 (fun o H2 => o = none ∧ H2 = H1) I1 ⟨rfl, rfl⟩) fun vl s2 ⟨l, H2, I2, pl, el, e2⟩ => ?_)
  subst el e2
  refine thn (po_none.run pins s2 σ H2 (fun o H3 => o = none ∧ H3 = H2) I2 ⟨rfl, rfl⟩) fun vu s3 ⟨u, H3, I3, pu, eu, e3⟩ => ?_
  subst eu e3
  refine thn (hst.run pins s3 σ H3 (fun o H4 => o = some (-1) ∧ H4 = H3) I3 ⟨1, rfl, -1, rfl, rfl, rfl⟩) fun vs s4 ⟨o, H4, I4, ps, eo, e4⟩ => ?_
  subst eo e4
  have I5 : L2.Inv X pins σ H4 { s4 with heap := s4.heap.push { cls := .type "slice", data := .fields #[vl, vu, vs] } } := I4.kept (t' := s4.toks) fun b ob q => Heap.get?_push_of_some _ q
  obtain ⟨its, r, ht, hz⟩ := I5.tuple hx
  have hlen := r.length
  show wpAny (model X.prog X.w) X.A (subscriptTail e (.Slice none none (some (.UnaryOp .USub (.Constant (.int 1) k p1) p2)) p3) (.ref a) (.ref s4.heap.objs.size)) (EP X pins σ Q) X.xe { s4 with heap := s4.heap.push { cls := .type "slice", data := .fields #[vl, vu, vs] } }
  refine tail_any (ops := [.ref a, .ref s4.heap.objs.size]) ht.typeIs (PyProof.Rows.slot_tuple_getitem.lookup) ?_ (by with_unfolding_all rfl)
  refine HTR.getItem_tuple_rev ht (Heap.IsSliceOf.new _ vl vu vs) pl pu ps ?_ (by rw [List.size_toArray]; omega)
  refine ⟨.ref _, _, I5.laid (t' := s4.toks) (o := .tup xs.reverse) (fun b ob q => Heap.get?_push_of_some _ q) (Nat.le_refl _) ?_, rfl, q _ (I5.hok.fresh (Nat.le_refl _))⟩
  exact ⟨by rw [List.length_reverse]; exact hz, _, r.reverse, IsTup.new _ _⟩
end
end Bk

set_option Elab.async false
set_option linter.all false
set_option maxRecDepth 100000
set_option maxHeartbeats 4000000
/-! Own layer 19: == of a dict and a tuple; a starred element of a tuple in a comprehension's block. -/
namespace BkD
open PySem PySem.Spec PyProof.Rows L2 PySem.W
open PySem.SeqAt PySem.AutoSeq1 PySem.MeetsSeq
theorem tuple_declines_dict (l b : Addr) (items : Array Value) (n : Nat) (dd : Option Addr) (sl : Array (Option Value)) (es : Array DictEntry) (m : Nat) (dd2 : Option Addr) (sl2 : Array (Option Value)) :
    Meets (Builtin.«tuple.__eq__» ⟨[.ref l, .ref b], []⟩) (fun _ R s => s.heap.get? l = some { cls := .type "tuple", dict := dd, data := .seq items n, slots := sl } ∧ s.heap.get? b = some { cls := .type "dict", dict := dd2, data := .dict es m, slots := sl2 } ∧ R (.ok (.ret .notImplemented)) s) :=
  .of_wp fun prog w A R s h => by
    obtain ⟨hp, g, d, tk, os⟩ := s; obtain ⟨hl, hb, h⟩ := h; have f1 := F.sub_dict_tuple
    wp_walk using wpAny_loadPart' hl, wpAny_loadPart' hb
    exact ⟨_, rfl, h⟩
section
variable {prog : Program} {w : World} {A : Around} {E : Value → Shared → Prop} {s : Shared} {N : Type} [DecidableEq N] {knd : KeyKind prog w N}
theorem eq_dict_tuple {a b : Addr} {ka : List (N × Value)} {items : Array Value} {Q : Value → Shared → Prop} (da : s.heap.DictOf knd a ka) (tb : s.heap.IsTuple b items) (hu : A.units < cLine) (h : Q (.bool false) s) :
    wpAny (model prog w) A (compareOp .Eq (.ref a) (.ref b)) Q E s := by
  obtain ⟨⟨cls, dd, data, sl⟩, ho, hc, n, hd⟩ := id tb
  simp only at hc hd
  subst hc hd
  have ta := da.typeIs
  obtain ⟨⟨cls2, dd2, data2, sl2⟩, es, ep, hoa, ⟨hca, _, _⟩, hda, _⟩ := da
  simp only at hca hda
  subst hca hda
  have hab : a ≠ b := fun z => by
    rw [z, ho] at hoa
    injection hoa with hoa
    injection hoa with h1
    injection h1 with h1
    exact absurd h1 (by decide)
  exact rc_eq_decline_or (k := false) ta ⟨_, ho, rfl⟩ (by decide) F.sub_tuple_dict F.slot_dict_eq F.slot_tuple_eq_refl
    (fun Q' hq => by
      refine wpAny_call_entry PySem.F.slot_dict_eq ta PySem.F.entry_dict_eq ?_ (PySem.F.args_dict_eq_2 _ _)
      show wpAny _ _ (Builtin.Dict.dictSlotArgs "__eq__" ⟨[.ref a, .ref b], []⟩ >>= _) _ _ s
      refine wpAny_bind ?_
      unfold Builtin.Dict.dictSlotArgs
      refine wpAny_bind (wpAny_notOrdered_dict ta ?_)
      show wpAny _ _ (pure (Value.ref a, Value.ref b)) _ _ s
      refine wpAny_pure ?_
      refine wpAny_bind (wpAny_isInstance (T := "tuple") ⟨_, ho, rfl⟩ PySem.F.sub_tuple_dict ?_)
      simp only [Bool.not_false, if_true]
      exact wpAny_bind (wpAny_rule (wpAny_pure ⟨_, rfl, hq⟩)))
    (fun _ hq => call_meets F.slot_tuple_eq_refl ⟨_, ho, rfl⟩ F.entry_tuple_eq (F.args_tuple_eq_2 _ _) (tuple_declines_dict b a items n dd sl es ep dd2 sl2) ⟨ho, hoa, hq⟩)
    (fun _ hq => wpAny_isSame_ref_other hab hoa ho (by intro z; injection z with z; exact absurd z (by decide)) hq) (.inr hu) h
end
end BkD
namespace Bk
open PySem PySem.Spec PyProof.Rows L2
section
variable {X : Cx} {K0 : PySem.W.Frag}
/-- *e in an argument list, in a comprehension's block -/
theorem starK {e : Expr} {es : List Expr} {te : TE} {t : TA} {p : Pos} (he : PE X e te) (hr : PA X es t) (hs : starEach (.Starred e p :: es) X.env = (true, eval e X.env) :: starEach es X.env := by rfl) (hK : X.K = K0 := by rfl) : PA X (.Starred e p :: es) (StX.tStar K0 te t) := hK ▸ StX.pa_star he hr hs
/-- == of data, or of an empty dict and a tuple -/
def rEqX (K : PySem.W.Frag) : R2 := fun x y H Q => rEqD K x y H Q ∨ ∃ a b kvs xs, x = .ref a ∧ y = .ref b ∧ H a = some (.dK kvs) ∧ SqT K H b xs ∧ Q (.bl false) H
theorem op_eqX (hu : X.A.units + 64 < cLine) : OpR X (compareOp .Eq) (rEqX X.K) := by
  intro pins s σ H x y v u Q I rx ry h
  rcases h with h | ⟨a, b, kvs, xs, rfl, rfl, ha, hb, q⟩
  · exact op_eqD hu pins s σ H x y v u Q I rx ry h
  · cases (show v = Value.ref a from rx)
    cases (show u = Value.ref b from ry)
    obtain ⟨_, _, vs, _, da⟩ := dk_of I.hok ha
    obtain ⟨its, _, tb, _⟩ := I.tuple hb
    exact BkD.eq_dict_tuple (items := its.toArray) da tb (by omega) ⟨.bl false, H, I, rfl, q⟩
end
end Bk
namespace Bk
open PySem PySem.Spec PyProof.Rows L2
/-- {k: v for x in xs} over whatever walks a row of values -/
theorem dc_seq {J : It} {xs : List V} {G : Hp → Prop} (S : ItSeq J xs G) {g : TG} {tt : TT} {tk tv : TE} {vs : List Nat} {σ : L2.St} {H1 : Hp} {D : Addr} {Qd : Hp → Prop} (Pv : Nat → Hp → Prop) (h0 : Pv 0 (upd H1 D (.dK []))) (hl : ∀ i H, i ≤ xs.length → Pv i H → G H)
    (hs : ∀ i x H, xs[i]? = some x → Pv i H → g x (wipe σ vs) H fun σ2 H2 => wipe σ2 vs = wipe σ vs ∧ tt σ2 H2 fun b H3 =>
      if b = true then tk σ2 H3 fun y H4 => tv σ2 H4 fun z H5 => ∃ kvs k, y = kV k ∧ H5 D = some (.dK kvs) ∧ kvs.length < sizeLine ∧ Pv (i + 1) (upd H5 D (.dK (putK kvs k z)))
      else Pv (i + 1) H3) (hd : ∀ H, Pv xs.length H → Qd H) :
    ∃ W : Nat → Nat → Hp → Prop, (∃ m, W 0 m (upd H1 D (.dK []))) ∧ ∀ i m H, W i m H →
      (J.stop i H ∧ Qd H) ∨ (J.go i H ∧ ∃ Nx : Hp → Prop, (∀ H', Nx H' → ∃ m', m' < m ∧ W (i + 1) m' H') ∧ ∀ x H', J.yld i H x H' → g x (wipe σ vs) H' fun σ2 H2 => wipe σ2 vs = wipe σ vs ∧ tt σ2 H2 fun b H3 =>
        if b = true then tk σ2 H3 fun y H4 => tv σ2 H4 fun z H5 => ∃ kvs k, y = kV k ∧ H5 D = some (.dK kvs) ∧ kvs.length < sizeLine ∧ Nx (upd H5 D (.dK (putK kvs k z)))
        else Nx H3) := by
  refine ⟨fun i m H => m = xs.length - i ∧ i ≤ xs.length ∧ Pv i H, ⟨xs.length, by simp, Nat.zero_le _, h0⟩, ?_⟩
  rintro i m H ⟨rfl, hi, p⟩
  have q := hl i H hi p
  by_cases hlt : i < xs.length
  · refine .inr ⟨S.go i H q hlt, Pv (i + 1), fun H' p' => ⟨xs.length - (i + 1), by omega, rfl, hlt, p'⟩, fun x H' y => ?_⟩
    obtain ⟨e, yy⟩ := S.yld i H x H' q y
    subst e
    exact hs i x _ yy p
  · obtain rfl : i = xs.length := by omega
    exact .inl ⟨S.stop H q, hd H p⟩
end Bk
namespace Bk
open PySem PySem.Spec PyProof.Rows L2
section
variable {X : Cx}
/-- y = {k: v for target in xs if ..} -/
theorem ps_setDc {i : Nat} {y : Str} {py : Pos} {kx vx tg it : Expr} {fs : List Expr} {sc : Scope} {own : List (Str × Nat)} {ps sp : Pos} {wi : TI} {g : TG} {tt : TT} {tk tv : TE} (hc : X.calm = true) (hN : X.N.Nodup) (hy : X.N[i]? = some y) (hyl : X.env.scope.names.lookup y = some .local)
    (hsw : swapsWith (.DictComp kx vx [⟨tg, it, fs, 0⟩] sc ps) (some (.Name y py)) sp.line X.env = pure true) (hi : PI X tg it wi) (ok : BlkOk X.N X.env.scope sc own)
    (hg : ∀ (s : Shared) (H : Hp) (C : Addr) (cl : List (Str × Addr)) (fp : List Addr), PG (X.blk s H sc (compEnvC sc cl C X.env) fp) tg g)
    (ht : ∀ (s : Shared) (H : Hp) (C : Addr) (cl : List (Str × Addr)) (fp : List Addr), PTs (X.blk s H sc (compEnvC sc cl C X.env) fp) fs tt)
    (hk : ∀ (s : Shared) (H : Hp) (C : Addr) (cl : List (Str × Addr)) (fp : List Addr), PE (X.blk s H sc (compEnvC sc cl C X.env) fp) kx tk)
    (he : ∀ (s : Shared) (H : Hp) (C : Addr) (cl : List (Str × Addr)) (fp : List Addr), PE (X.blk s H sc (compEnvC sc cl C X.env) fp) vx tv)
    (hs : ∀ x, foldedSetIterable it X.env x = pure x := by intro _; rfl) :
    PS X (.Assign [.Name y py] (.DictComp kx vx [⟨tg, it, fs, 0⟩] sc ps) sp) (tAsg (tDc wi g tt tk tv (own.map (·.2))) (gName i)) := by
  refine ⟨fun pins s σ H D I h => ?_⟩
  rw [exec_Assign_Name_used _ _ _ _ hsw]
  refine wpAny_bind (wpAny_standAt (wpAny_bind ?_))
  show wpAny _ X.A (do let _ ← comprehension (.DictComp kx vx [⟨tg, it, fs, 0⟩] sc ps) sc X.env (firstIterPos [⟨tg, it, fs, 0⟩] ps) newDict false (eval it X.env) (some (assign (.Name y py) X.env))) _ _ s
  have h : tDc wi g tt tk tv (own.map (·.2)) σ H (fun x H1 => gName i x σ H1 D.nx) := h
  refine wpAny_bind (thn (dc_core (Qf := fun _ s' => SP X pins D .next s') hc hN I hi ok hg ht hk he hs h fun L C s' m H' I' q hn f => ?_) fun _ s' hq => wpAny_pure (wpAny_pure hq))
  show wpAny _ _ (assign (.Name y py) X.env (.ref L)) _ _ _
  refine wpAny_assign_Name (store_ok2 (v := V.ref L) I' hN hy (.inl hyl) rfl (fun s2 I2 ⟨a, sb, ha⟩ => ?_) (.inr hyl))
  obtain ⟨f0, f1, f2, f3, f4, f5⟩ := f
  have hne : C ≠ a := ha.elim (fun z => by rw [z]; exact f1) fun z e => f4 y a z e.symm
  refine ⟨m, hn.sameBut sb hne, fun h3 sb3 => ?_⟩
  exact ⟨_, H', I2.turned (t' := s2.toks) (fun b o hb e => (sb3.2 b hb).trans e) f0 f1 f3 f4 f5, q⟩
end
end Bk

set_option Elab.async false
set_option linter.all false
set_option maxRecDepth 100000
set_option maxHeartbeats 4000000
/-! Own layer 20: sorted of ints, from a list or a tuple. -/
namespace Bk
open PySem PySem.Spec PyProof.Rows L2
def rSortedLT (K : PySem.W.Frag) : List V → Hp → VK → Prop := fun vs H Q => ∃ (a : Addr) (ns : List Int), vs = [V.ref a] ∧ (SqL K H a (ns.map V.int) ∨ SqT K H a (ns.map V.int)) ∧
  ∀ (ns' : List Int) (p : Addr), ns'.Perm ns → ns'.Pairwise (· ≤ ·) → H p = none → Q (.ref p) (upd H p (.lst (ns'.map V.int)))
theorem cr_sortedLT {X : Cx} : CallR X (.builtin "sorted") (rSortedLT X.K) := by
  intro pins s σ H vs us Q I r h
  obtain ⟨a, ns, e, hs, q⟩ := h
  rcases hs with hs | hs
  · exact cr_sortedI pins s σ H vs us Q I r ⟨a, ns, e, hs, q⟩
  · exact cr_sortedIT pins s σ H vs us Q I r ⟨a, ns, e, hs, q⟩
end Bk

set_option Elab.async false
set_option linter.all false
set_option maxRecDepth 100000
set_option maxHeartbeats 0
namespace K75
open PySem PySem.Spec PyProof.Rows L2
def top (i : Nat) : Stmt := PySem.Challenge.pw_unitpairs_k75_papers_of_rules_apart_judg.main.body.getD i (.Pass ⟨0, 0, 0, 0⟩)
abbrev s_is_integer : Stmt := top 16
abbrev s_is_between : Stmt := top 17
abbrev s_check_number : Stmt := top 18
abbrev s_gcd : Stmt := top 20
abbrev s_is_prime : Stmt := top 25
abbrev s_factors_of : Stmt := top 26
abbrev s_is_factor : Stmt := top 27
abbrev s_check_factors : Stmt := top 28
abbrev s_value_of : Stmt := top 29
abbrev s_read_factor : Stmt := top 32
abbrev s_number_of : Stmt := top 33
abbrev s_number_with : Stmt := top 34
abbrev s_check_value : Stmt := top 35
abbrev s_is_share : Stmt := top 38
abbrev s_units : Stmt := top 43
abbrev s_powers : Stmt := top 44
abbrev s_power_rest_cores : Stmt := top 45
abbrev s_added : Stmt := top 47
abbrev s_counts_of : Stmt := top 48
abbrev s_spares : Stmt := top 49
abbrev s_core_factors : Stmt := top 50
abbrev s_check_pair : Stmt := top 52
abbrev s_powers_of : Stmt := top 55
abbrev s_spread : Stmt := top 56
abbrev s_key_of : Stmt := top 59
abbrev s_key : Stmt := top 60
abbrev s_rest_of : Stmt := top 61
abbrev s_wrong_step : Stmt := top 62
abbrev s_is_key : Stmt := top 63
abbrev s_decimal : Stmt := top 19
abbrev s_rule_of : Stmt := top 40
abbrev s_check_rule : Stmt := top 41
abbrev s_is_rests : Stmt := top 69
abbrev s_are_rows : Stmt := top 70
abbrev s_are_failing : Stmt := top 71
abbrev s_accepts_apart : Stmt := top 83
abbrev s_accepts_number : Stmt := top 84
abbrev s_accepts : Stmt := top 85
abbrev s_ulaw_mill : Stmt := top 87
abbrev s_ulaw_grain : Stmt := top 88
abbrev s_ulaw_measure : Stmt := top 89
abbrev s_ulaw_spec : Stmt := top 90
abbrev s_ulaw_made : Stmt := top 91
abbrev s_ulaw_split : Stmt := top 92
abbrev s_ulaw_great : Stmt := top 93
abbrev s_ulaw_shared : Stmt := top 94
abbrev s_ulaw_core : Stmt := top 95
abbrev s_ulaw_spans : Stmt := top 96
abbrev s_ulaw_power : Stmt := top 97
abbrev s_ulaw_is_step : Stmt := top 98
abbrev s_ulaw_leaves : Stmt := top 99
abbrev s_ulaw_text : Stmt := top 100
abbrev s_ulaw_number_text : Stmt := top 101
abbrev s_ulaw_asked : Stmt := top 102
abbrev s_ulaw_rows : Stmt := top 103
abbrev s_ulaw_are_rows : Stmt := top 104
abbrev s_ulaw_bent_rows : Stmt := top 105
abbrev s_ulaw_bent_key : Stmt := top 106
abbrev s_ulaw_two : Stmt := top 107
abbrev s_ulaw_due : Stmt := top 108
abbrev s_ulaw_right : Stmt := top 109
abbrev s_law : Stmt := top 110
abbrev s_Rule_uuinit__ : Stmt := inClass (top 39) 0
abbrev s_Number_uuinit__ : Stmt := inClass (top 36) 0
abbrev s_Number_shared : Stmt := inClass (top 36) 6
abbrev s_Number_times : Stmt := inClass (top 36) 7
abbrev s_Core_uuinit__ : Stmt := inClass (top 51) 0
/-! facts by name -/
def fa0 : List He.Fa := [.glo "is_integer", .glo "is_between", .glo "check_number", .glo "gcd", .glo "is_prime", .glo "factors_of", .glo "is_factor", .glo "check_factors", .glo "value_of", .glo "read_factor", .glo "number_of", .glo "number_with", .glo "check_value", .glo "is_share", .glo "units", .glo "powers", .glo "power_rest_cores", .glo "added", .glo "counts_of", .glo "spares", .glo "core_factors", .glo "check_pair", .glo "powers_of", .glo "spread", .glo "key_of", .glo "key", .glo "rest_of", .glo "wrong_step", .glo "is_key", .glo "decimal"]
def fa1 : List He.Fa := [.glo "rule_of", .glo "check_rule", .glo "is_rests", .glo "are_rows", .glo "are_failing", .glo "accepts_apart", .glo "accepts_number", .glo "accepts", .glo "_law_mill", .glo "_law_grain", .glo "_law_measure", .glo "_law_spec", .glo "_law_made", .glo "_law_split", .glo "_law_great", .glo "_law_shared", .glo "_law_core", .glo "_law_spans", .glo "_law_power", .glo "_law_is_step", .glo "_law_leaves", .glo "_law_text", .glo "_law_number_text", .glo "_law_asked", .glo "_law_rows", .glo "_law_are_rows", .glo "_law_bent_rows", .glo "_law_bent_key", .glo "_law_two", .glo "_law_due"]
def fa2 : List He.Fa := [.glo "_law_right", .glo "law", .glo "LENGTHS", .glo "Rule", .cls "Rule", .noat "Rule" "parts", .noat "Rule" "first", .noat "Rule" "second", .noat "Rule" "moduli", .mkr "Rule", .glo "Number", .cls "Number", .noat "Number" "factors", .noat "Number" "value", .mkr "Number", .meth "Number" "shared", .meth "Number" "times", .glo "Core", .cls "Core", .noat "Core" "rule", .noat "Core" "modulus", .noat "Core" "factors", .noat "Core" "spans", .mkr "Core", .free "isinstance", .free "int", .free "bool", .free "str", .free "len", .free "range"]
def fa3 : List He.Fa := [.free "tuple", .free "sorted", .free "enumerate", .free "abs", .free "min", .free "max", .free "divmod", .free "repr", .free "all", .free "any", .free "dict", .free "list", .free "set", .int "MOST_PARTS" (12), .int "MOST_SHARE" (12), .int "MOST_PRIME" (1000000), .int "MOST_PRIMES" (12), .int "MOST_EXPONENT" (1000000000000000000000000000000), .int "MOST_VALUE" (1000000000000000000000000000000), .int "MOST_SMALL" (1000000), .int "LONG_EXPONENT" (100), .int "MOST_COUNT" (100000000000000000000000000000000), .str "FIGURES" "0123456789"]
def fa : List He.Fa := fa0 ++ fa1 ++ fa2 ++ fa3
def d_is_integer : He.DefD := ⟨("is_integer", none), "is_integer", "is_integer", defArgs s_is_integer, defBody s_is_integer, defScope s_is_integer, [], []⟩
def d_is_between : He.DefD := ⟨("is_between", none), "is_between", "is_between", defArgs s_is_between, defBody s_is_between, defScope s_is_between, [], []⟩
def d_check_number : He.DefD := ⟨("check_number", none), "check_number", "check_number", defArgs s_check_number, defBody s_check_number, defScope s_check_number, [], []⟩
def d_gcd : He.DefD := ⟨("gcd", none), "gcd", "gcd", defArgs s_gcd, defBody s_gcd, defScope s_gcd, [], []⟩
def d_is_prime : He.DefD := ⟨("is_prime", none), "is_prime", "is_prime", defArgs s_is_prime, defBody s_is_prime, defScope s_is_prime, [], []⟩
def d_factors_of : He.DefD := ⟨("factors_of", none), "factors_of", "factors_of", defArgs s_factors_of, defBody s_factors_of, defScope s_factors_of, [], []⟩
def d_is_factor : He.DefD := ⟨("is_factor", none), "is_factor", "is_factor", defArgs s_is_factor, defBody s_is_factor, defScope s_is_factor, [], []⟩
def d_check_factors : He.DefD := ⟨("check_factors", none), "check_factors", "check_factors", defArgs s_check_factors, defBody s_check_factors, defScope s_check_factors, [], []⟩
def d_value_of : He.DefD := ⟨("value_of", none), "value_of", "value_of", defArgs s_value_of, defBody s_value_of, defScope s_value_of, [], []⟩
def d_read_factor : He.DefD := ⟨("read_factor", none), "read_factor", "read_factor", defArgs s_read_factor, defBody s_read_factor, defScope s_read_factor, [], []⟩
def d_number_of : He.DefD := ⟨("number_of", none), "number_of", "number_of", defArgs s_number_of, defBody s_number_of, defScope s_number_of, [], []⟩
def d_number_with : He.DefD := ⟨("number_with", none), "number_with", "number_with", defArgs s_number_with, defBody s_number_with, defScope s_number_with, [], []⟩
def d_check_value : He.DefD := ⟨("check_value", none), "check_value", "check_value", defArgs s_check_value, defBody s_check_value, defScope s_check_value, [], []⟩
def d_is_share : He.DefD := ⟨("is_share", none), "is_share", "is_share", defArgs s_is_share, defBody s_is_share, defScope s_is_share, [], []⟩
def d_units : He.DefD := ⟨("units", none), "units", "units", defArgs s_units, defBody s_units, defScope s_units, [], []⟩
def d_powers : He.DefD := ⟨("powers", none), "powers", "powers", defArgs s_powers, defBody s_powers, defScope s_powers, [], []⟩
def d_power_rest_cores : He.DefD := ⟨("power_rest_cores", none), "power_rest", "power_rest", defArgs s_power_rest_cores, defBody s_power_rest_cores, defScope s_power_rest_cores, [], []⟩
def d_added : He.DefD := ⟨("added", none), "added", "added", defArgs s_added, defBody s_added, defScope s_added, [], []⟩
def d_counts_of : He.DefD := ⟨("counts_of", none), "counts_of", "counts_of", defArgs s_counts_of, defBody s_counts_of, defScope s_counts_of, [], []⟩
def d_spares : He.DefD := ⟨("spares", none), "spares", "spares", defArgs s_spares, defBody s_spares, defScope s_spares, [], []⟩
def d_core_factors : He.DefD := ⟨("core_factors", none), "core_factors", "core_factors", defArgs s_core_factors, defBody s_core_factors, defScope s_core_factors, [], []⟩
def d_check_pair : He.DefD := ⟨("check_pair", none), "check_pair", "check_pair", defArgs s_check_pair, defBody s_check_pair, defScope s_check_pair, [], []⟩
def d_powers_of : He.DefD := ⟨("powers_of", none), "powers_of", "powers_of", defArgs s_powers_of, defBody s_powers_of, defScope s_powers_of, [], []⟩
def d_spread : He.DefD := ⟨("spread", none), "spread", "spread", defArgs s_spread, defBody s_spread, defScope s_spread, [], []⟩
def d_key_of : He.DefD := ⟨("key_of", none), "key_of", "key_of", defArgs s_key_of, defBody s_key_of, defScope s_key_of, [], []⟩
def d_key : He.DefD := ⟨("key", none), "key", "key", defArgs s_key, defBody s_key, defScope s_key, [], []⟩
def d_rest_of : He.DefD := ⟨("rest_of", none), "rest_of", "rest_of", defArgs s_rest_of, defBody s_rest_of, defScope s_rest_of, [], []⟩
def d_wrong_step : He.DefD := ⟨("wrong_step", none), "wrong_step", "wrong_step", defArgs s_wrong_step, defBody s_wrong_step, defScope s_wrong_step, [], []⟩
def d_is_key : He.DefD := ⟨("is_key", none), "is_key", "is_key", defArgs s_is_key, defBody s_is_key, defScope s_is_key, [], []⟩
def d_decimal : He.DefD := ⟨("decimal", none), "decimal", "decimal", defArgs s_decimal, defBody s_decimal, defScope s_decimal, [], []⟩
def d_rule_of : He.DefD := ⟨("rule_of", none), "rule_of", "rule_of", defArgs s_rule_of, defBody s_rule_of, defScope s_rule_of, [], []⟩
def d_check_rule : He.DefD := ⟨("check_rule", none), "check_rule", "check_rule", defArgs s_check_rule, defBody s_check_rule, defScope s_check_rule, [], []⟩
def d_is_rests : He.DefD := ⟨("is_rests", none), "is_rests", "is_rests", defArgs s_is_rests, defBody s_is_rests, defScope s_is_rests, [], []⟩
def d_are_rows : He.DefD := ⟨("are_rows", none), "are_rows", "are_rows", defArgs s_are_rows, defBody s_are_rows, defScope s_are_rows, [], []⟩
def d_are_failing : He.DefD := ⟨("are_failing", none), "are_failing", "are_failing", defArgs s_are_failing, defBody s_are_failing, defScope s_are_failing, [], []⟩
def d_accepts_apart : He.DefD := ⟨("accepts_apart", none), "accepts_apart", "accepts_apart", defArgs s_accepts_apart, defBody s_accepts_apart, defScope s_accepts_apart, [], []⟩
def d_accepts_number : He.DefD := ⟨("accepts_number", none), "accepts_number", "accepts_number", defArgs s_accepts_number, defBody s_accepts_number, defScope s_accepts_number, [], []⟩
def d_accepts : He.DefD := ⟨("accepts", none), "accepts", "accepts", defArgs s_accepts, defBody s_accepts, defScope s_accepts, [], []⟩
def d_ulaw_mill : He.DefD := ⟨("_law_mill", none), "_law_mill", "_law_mill", defArgs s_ulaw_mill, defBody s_ulaw_mill, defScope s_ulaw_mill, [], []⟩
def d_ulaw_grain : He.DefD := ⟨("_law_grain", none), "_law_grain", "_law_grain", defArgs s_ulaw_grain, defBody s_ulaw_grain, defScope s_ulaw_grain, [], []⟩
def d_ulaw_measure : He.DefD := ⟨("_law_measure", none), "_law_measure", "_law_measure", defArgs s_ulaw_measure, defBody s_ulaw_measure, defScope s_ulaw_measure, [], []⟩
def d_ulaw_spec : He.DefD := ⟨("_law_spec", none), "_law_spec", "_law_spec", defArgs s_ulaw_spec, defBody s_ulaw_spec, defScope s_ulaw_spec, [], []⟩
def d_ulaw_made : He.DefD := ⟨("_law_made", none), "_law_made", "_law_made", defArgs s_ulaw_made, defBody s_ulaw_made, defScope s_ulaw_made, [], []⟩
def d_ulaw_split : He.DefD := ⟨("_law_split", none), "_law_split", "_law_split", defArgs s_ulaw_split, defBody s_ulaw_split, defScope s_ulaw_split, [], []⟩
def d_ulaw_great : He.DefD := ⟨("_law_great", none), "_law_great", "_law_great", defArgs s_ulaw_great, defBody s_ulaw_great, defScope s_ulaw_great, [], []⟩
def d_ulaw_shared : He.DefD := ⟨("_law_shared", none), "_law_shared", "_law_shared", defArgs s_ulaw_shared, defBody s_ulaw_shared, defScope s_ulaw_shared, [], []⟩
def d_ulaw_core : He.DefD := ⟨("_law_core", none), "_law_core", "_law_core", defArgs s_ulaw_core, defBody s_ulaw_core, defScope s_ulaw_core, [], []⟩
def d_ulaw_spans : He.DefD := ⟨("_law_spans", none), "_law_spans", "_law_spans", defArgs s_ulaw_spans, defBody s_ulaw_spans, defScope s_ulaw_spans, [], []⟩
def d_ulaw_power : He.DefD := ⟨("_law_power", none), "_law_power", "_law_power", defArgs s_ulaw_power, defBody s_ulaw_power, defScope s_ulaw_power, [], []⟩
def d_ulaw_is_step : He.DefD := ⟨("_law_is_step", none), "_law_is_step", "_law_is_step", defArgs s_ulaw_is_step, defBody s_ulaw_is_step, defScope s_ulaw_is_step, [], []⟩
def d_ulaw_leaves : He.DefD := ⟨("_law_leaves", none), "_law_leaves", "_law_leaves", defArgs s_ulaw_leaves, defBody s_ulaw_leaves, defScope s_ulaw_leaves, [], []⟩
def d_ulaw_text : He.DefD := ⟨("_law_text", none), "_law_text", "_law_text", defArgs s_ulaw_text, defBody s_ulaw_text, defScope s_ulaw_text, [], []⟩
def d_ulaw_number_text : He.DefD := ⟨("_law_number_text", none), "_law_number_text", "_law_number_text", defArgs s_ulaw_number_text, defBody s_ulaw_number_text, defScope s_ulaw_number_text, [], []⟩
def d_ulaw_asked : He.DefD := ⟨("_law_asked", none), "_law_asked", "_law_asked", defArgs s_ulaw_asked, defBody s_ulaw_asked, defScope s_ulaw_asked, [], []⟩
def d_ulaw_rows : He.DefD := ⟨("_law_rows", none), "_law_rows", "_law_rows", defArgs s_ulaw_rows, defBody s_ulaw_rows, defScope s_ulaw_rows, [], []⟩
def d_ulaw_are_rows : He.DefD := ⟨("_law_are_rows", none), "_law_are_rows", "_law_are_rows", defArgs s_ulaw_are_rows, defBody s_ulaw_are_rows, defScope s_ulaw_are_rows, [], []⟩
def d_ulaw_bent_rows : He.DefD := ⟨("_law_bent_rows", none), "_law_bent_rows", "_law_bent_rows", defArgs s_ulaw_bent_rows, defBody s_ulaw_bent_rows, defScope s_ulaw_bent_rows, [], []⟩
def d_ulaw_bent_key : He.DefD := ⟨("_law_bent_key", none), "_law_bent_key", "_law_bent_key", defArgs s_ulaw_bent_key, defBody s_ulaw_bent_key, defScope s_ulaw_bent_key, [], []⟩
def d_ulaw_two : He.DefD := ⟨("_law_two", none), "_law_two", "_law_two", defArgs s_ulaw_two, defBody s_ulaw_two, defScope s_ulaw_two, [], []⟩
def d_ulaw_due : He.DefD := ⟨("_law_due", none), "_law_due", "_law_due", defArgs s_ulaw_due, defBody s_ulaw_due, defScope s_ulaw_due, [], []⟩
def d_ulaw_right : He.DefD := ⟨("_law_right", none), "_law_right", "_law_right", defArgs s_ulaw_right, defBody s_ulaw_right, defScope s_ulaw_right, [], []⟩
def d_law : He.DefD := ⟨("law", none), "law", "law", defArgs s_law, defBody s_law, defScope s_law, [], []⟩
def d_Rule_uuinit__ : He.DefD := ⟨("Rule", some "__init__"), "__init__", "Rule.__init__", defArgs s_Rule_uuinit__, defBody s_Rule_uuinit__, defScope s_Rule_uuinit__, [.int (1), .int (1)], []⟩
def d_Number_uuinit__ : He.DefD := ⟨("Number", some "__init__"), "__init__", "Number.__init__", defArgs s_Number_uuinit__, defBody s_Number_uuinit__, defScope s_Number_uuinit__, [.adr (He.dflAt ("Number", some "__init__") 0)], []⟩
def d_Number_shared : He.DefD := ⟨("Number", some "shared"), "shared", "Number.shared", defArgs s_Number_shared, defBody s_Number_shared, defScope s_Number_shared, [], []⟩
def d_Number_times : He.DefD := ⟨("Number", some "times"), "times", "Number.times", defArgs s_Number_times, defBody s_Number_times, defScope s_Number_times, [], []⟩
def d_Core_uuinit__ : He.DefD := ⟨("Core", some "__init__"), "__init__", "Core.__init__", defArgs s_Core_uuinit__, defBody s_Core_uuinit__, defScope s_Core_uuinit__, [], []⟩
def fn0 : List He.DefD := [d_is_integer, d_is_between, d_check_number, d_gcd, d_is_prime, d_factors_of, d_is_factor, d_check_factors, d_value_of, d_read_factor, d_number_of, d_number_with, d_check_value, d_is_share, d_units, d_powers, d_power_rest_cores, d_added, d_counts_of, d_spares, d_core_factors, d_check_pair, d_powers_of, d_spread, d_key_of, d_key, d_rest_of, d_wrong_step, d_is_key, d_decimal]
def fn1 : List He.DefD := [d_rule_of, d_check_rule, d_is_rests, d_are_rows, d_are_failing, d_accepts_apart, d_accepts_number, d_accepts, d_ulaw_mill, d_ulaw_grain, d_ulaw_measure, d_ulaw_spec, d_ulaw_made, d_ulaw_split, d_ulaw_great, d_ulaw_shared, d_ulaw_core, d_ulaw_spans, d_ulaw_power, d_ulaw_is_step, d_ulaw_leaves, d_ulaw_text, d_ulaw_number_text, d_ulaw_asked, d_ulaw_rows, d_ulaw_are_rows, d_ulaw_bent_rows, d_ulaw_bent_key, d_ulaw_two, d_ulaw_due]
def fn2 : List He.DefD := [d_ulaw_right, d_law, d_Rule_uuinit__, d_Number_uuinit__, d_Number_shared, d_Number_times, d_Core_uuinit__]
def fn : List He.DefD := fn0 ++ fn1 ++ fn2
/-! a property's getter: found by the class's name for it -/
structure PropD where
  cls : Str
  attr : Str
  qual : Str
  st : Stmt
def getr (K : PySem.W.Frag) (C m : Str) : Addr := match PySem.W.recIn K (He.ma K (He.ga K C) m) "property" with
  | some (.ref g :: _) => g
  | _ => 0
def fnA (K : PySem.W.Frag) (a : Addr) : He.FnW := match K.lookup a with
  | some ⟨_, _, .func fd, _⟩ => some (fd.name, fd.qualname, fd.params, fd.body, fd.scope, fd.globals, fd.closure, fd.builtins)
  | _ => none
def PropD.val (d : PropD) : He.FnW := some (d.attr, d.qual, defArgs d.st, .stmts (defBody d.st), defScope d.st, mainGlobals, [], builtinsNs)
def propRec (K : PySem.W.Frag) (C m : Str) : Bool := match PySem.W.recIn K (He.ma K (He.ga K C) m) "property" with
  | some (.ref g :: _) => decide (g = getr K C m)
  | _ => false
def PropD.ok (K : PySem.W.Frag) (d : PropD) : Bool := He.eqO (PySem.W.findIn K (.ref (He.ga K d.cls)) d.attr) (some (some (.ref (He.ma K (He.ga K d.cls) d.attr)))) &&
  (He.eqO (PySem.W.specialIn K (.ref (He.ma K (He.ga K d.cls) d.attr)) "__get__") (some (some (.builtin "property.__get__"))) && (decide (PySem.W.takesIn K (.ref (He.ma K (He.ga K d.cls) d.attr)) = some true) &&
  (propRec K d.cls d.attr && (match K.lookup (getr K d.cls d.attr) with
    | some ⟨_, _, .func fd, _⟩ => PySem.W.codeIn K fd.code d.qual && decide (fd.defaults = .none)
    | _ => false))))
structure PropF (K : PySem.W.Frag) (C m qual : Str) (st : Stmt) : Prop where
  p : L2.PropOf K (He.ga K C) m (He.ma K (He.ga K C) m) (getr K C m)
  f : ∃ oc od osl kV doc pm an cdv ct, K.lookup (getr K C m) = some ⟨oc, od, .func (PySem.W.fnOf m qual (defArgs st) (defBody st) (defScope st) .none kV doc pm an cdv ct), osl⟩ ∧ PySem.W.codeIn K cdv qual = true
theorem propRec_ok {K : PySem.W.Frag} {C m : Str} (h : propRec K C m = true) : ∃ rest, PySem.W.recIn K (He.ma K (He.ga K C) m) "property" = some (.ref (getr K C m) :: rest) := by
  unfold propRec at h
  cases q : PySem.W.recIn K (He.ma K (He.ga K C) m) "property" with
  | none => rw [q] at h; cases h
  | some l =>
    rw [q] at h
    cases l with
    | nil => cases h
    | cons a r =>
      cases a with
      | ref g => exact ⟨r, by rw [show g = getr K C m from of_decide_eq_true h]⟩
      | _ => cases h
theorem PropD.prop {K : PySem.W.Frag} {d : PropD} (e : fnA K (getr K d.cls d.attr) = d.val) (c : d.ok K = true) : PropF K d.cls d.attr d.qual d.st := by
  obtain ⟨c1, c⟩ := He.ba c
  obtain ⟨c2, c⟩ := He.ba c
  obtain ⟨c3, c⟩ := He.ba c
  obtain ⟨c4, c5⟩ := He.ba c
  refine ⟨⟨He.eqO_ok c1, He.eqO_ok c2, of_decide_eq_true c3, propRec_ok c4⟩, ?_⟩
  unfold fnA at e
  cases q : K.lookup (getr K d.cls d.attr) with
  | none => rw [q] at c5; cases c5
  | some o =>
    obtain ⟨oc, od, dt, osl⟩ := o
    rw [q] at c5 e
    cases dt with
    | func fd =>
      obtain ⟨n1, n2, n3, n4, n5, n6, n7, n8, n9, n10, n11, n12, n13, n14, n15⟩ := fd
      have e2 : (some (n1, n2, n3, n4, n5, n6, n7, n15) : He.FnW) = some (d.attr, d.qual, defArgs d.st, .stmts (defBody d.st), defScope d.st, mainGlobals, [], builtinsNs) := e
      simp only [Option.some.injEq, Prod.mk.injEq] at e2
      obtain ⟨h1, h2, h3, h4, h5, h6, h7, h8⟩ := e2
      subst h1 h2 h3 h4 h5 h6 h7 h8
      obtain ⟨k1, k2⟩ := He.ba c5
      have k3 : n8 = Value.none := of_decide_eq_true k2
      subst k3
      exact ⟨oc, od, osl, n9, n10, n11, n12, n13, n14, rfl, k1⟩
    | _ => cases c5
def nms0 : List Str := ["is_integer", "is_between", "check_number", "gcd", "is_prime", "factors_of", "is_factor", "check_factors", "value_of", "read_factor", "number_of", "number_with", "check_value", "is_share", "units", "powers", "power_rest_cores", "added", "counts_of", "spares", "core_factors", "check_pair", "powers_of", "spread", "key_of", "key", "rest_of", "wrong_step", "is_key", "decimal"]
def nms1 : List Str := ["rule_of", "check_rule", "is_rests", "are_rows", "are_failing", "accepts_apart", "accepts_number", "accepts", "_law_mill", "_law_grain", "_law_measure", "_law_spec", "_law_made", "_law_split", "_law_great", "_law_shared", "_law_core", "_law_spans", "_law_power", "_law_is_step", "_law_leaves", "_law_text", "_law_number_text", "_law_asked", "_law_rows", "_law_are_rows", "_law_bent_rows", "_law_bent_key", "_law_two", "_law_due"]
def nms2 : List Str := ["_law_right", "law", "Rule", "Number", "Core", "LENGTHS"]
def nms : List Str := nms0 ++ nms1 ++ nms2
def pr : List PropD := []
def e_isi_Rule (K : PySem.W.Frag) : Bool := He.eqO (PySem.W.findIn K (.ref (He.ga K "Rule")) "__class__") (some (some (.builtin "object.__class__"))) && (He.eqO (PySem.W.specialIn K (.builtin "object.__class__") "__get__") (some (some (.builtin "getset_descriptor.__get__"))) && (decide (PySem.W.takesIn K (.builtin "object.__class__") = some true) && decide (PySem.W.mroIn K (He.ga K "Rule") (.type "object") = some true)))
def e_isi_Number (K : PySem.W.Frag) : Bool := He.eqO (PySem.W.findIn K (.ref (He.ga K "Number")) "__class__") (some (some (.builtin "object.__class__"))) && (He.eqO (PySem.W.specialIn K (.builtin "object.__class__") "__get__") (some (some (.builtin "getset_descriptor.__get__"))) && (decide (PySem.W.takesIn K (.builtin "object.__class__") = some true) && decide (PySem.W.mroIn K (He.ga K "Number") (.type "object") = some true)))
def e_tup0_Number (K : PySem.W.Frag) : Bool := match K.lookup (He.dflAt ("Number", some "__init__") 0 K) with
  | some ⟨.type "tuple", none, .seq its _, _⟩ => decide (its = #[])
  | _ => false
def e_vals_LENGTHS (K : PySem.W.Frag) : Bool := He.valsB K (He.ga K "LENGTHS") [("goes", .int (3)), ("fails", .int (3)), ("pattern goes", .int (4)), ("pattern fails", .int (4)), ("bars", .int (4)), ("always", .int (4)), ("not always", .int (4)), ("apart", .int (3))]
def ex : List (PySem.W.Frag → Bool) := [e_isi_Rule, e_isi_Number, e_tup0_Number, e_vals_LENGTHS]
def tbs : List He.Tab := [((fun K => He.ga K "LENGTHS"), ["goes", "fails", "pattern goes", "pattern fails", "bars", "always", "not always", "apart"])]
abbrev AlP : Type := He.AlD × Bool × List He.FnW
def obsP (K : PySem.W.Frag) : AlP := (He.obsD fa fn K, (pr.all fun d => d.ok K) && ex.all fun f => f K, pr.map fun d => fnA K (getr K d.cls d.attr))
def valP : AlP := (He.valD fn, true, pr.map PropD.val)
def SaysP (K : PySem.W.Frag) : Prop := obsP K = valP
def dflR (g : Addr → Option Obj) (v : Value) : List Addr := (He.refV v).flatMap fun t => t :: (match g t with
  | some ⟨_, _, .seq its _, _⟩ => its.toList.flatMap He.refV
  | _ => [])
def fnR (g : Addr → Option Obj) (a : Addr) : List Addr := match g a with
  | some ⟨_, _, .func fd, _⟩ => a :: (He.refV fd.code ++ dflR g fd.defaults)
  | _ => [a]
def memR (g : Addr → Option Obj) (a : Addr) : List Addr := match g a with
  | some ⟨_, _, .func fd, _⟩ => a :: (He.refV fd.code ++ dflR g fd.defaults)
  | some ⟨_, _, .fields vs, _⟩ => a :: (vs.toList.flatMap He.refV).flatMap (fnR g)
  | _ => [a]
def clsR (g : Addr → Option Obj) (a : Addr) : List Addr := match g a with
  | some ⟨_, _, .func fd, _⟩ => a :: (He.refV fd.code ++ dflR g fd.defaults)
  | some ⟨_, _, .cls cd, _⟩ => a :: cd.ns :: (match g cd.ns with
    | some ⟨_, _, .dict es _, _⟩ => (es.toList.flatMap fun e => He.refV e.val).flatMap (memR g)
    | _ => [])
  | _ => [a]
def asP (g : Addr → Option Obj) : List Addr := mainGlobals :: nms.flatMap fun x => match PySem.W.nsIn (He.frG g [mainGlobals]) mainGlobals x with
  | some (some (.ref a)) => clsR g a
  | _ => []
abbrev AlQ : Type := AlP × List (Option (List (Option (Str × Int))))
def obsQ (K : PySem.W.Frag) : AlQ := (obsP K, tbs.map fun t => He.dicW K (t.1 K))
def valQ (w : World) : AlQ := (valP, tbs.map fun t => some (He.keysIn w.params t.2))
/-- the tables of the top -/
structure TabT (K : PySem.W.Frag) (w : World) : Prop where
  says : (tbs.map fun t => He.dicW K (t.1 K)) = tbs.map fun t => some (He.keysIn w.params t.2)
def obsPG (_n : Nat) (g : Addr → Option Obj) : AlQ := obsQ (He.frG g (asP g))
def hookP (n : Nat) : PySem.W.Hook where
  α := AlQ
  obs := fun s => obsPG n s.heap.get?
  val := fun w => valQ w
  says := fun w h => ∃ K : PySem.W.Frag, K.In h ∧ SaysP K ∧ TabT K w
  of := fun _ _ e => ⟨_, He.frG_in, congrArg (fun z : AlQ => z.1) e, ⟨congrArg (fun z : AlQ => z.2) e⟩⟩
  keeps := fun _ _ _ ⟨K, hK, c⟩ k => ⟨K, PySem.W.Frag.In.keeps hK k, c⟩
theorem obsPG_eq {n : Nat} {g : Addr → Option Obj} {s : Shared} (h : ∀ a, g a = s.heap.get? a) : obsPG n g = (hookP n).obs s := by
  have e : g = s.heap.get? := funext h
  rw [e] <;> rfl
section
variable {K : PySem.W.Frag}
theorem SaysP.d (c : SaysP K) : He.SaysD fa fn K := congrArg (fun z : AlP => z.1) c
theorem SaysP.fact (c : SaysP K) (i : Nat) {f : He.Fa} (h : fa[i]? = some f := by rfl) : f.ok K = true := c.d.fact i h
theorem SaysP.def_ (c : SaysP K) (i : Nat) {d : He.DefD} (h : fn[i]? = some d := by rfl) : ∃ fd, FunD K d.name d.qual d.params d.body d.scope (d.dvs K) (d.kws K) (He.fAd K d.at_) fd := c.d.def_ i h
theorem SaysP.prop (c : SaysP K) (i : Nat) {d : PropD} (h : pr[i]? = some d := by rfl) : PropF K d.cls d.attr d.qual d.st := by
  have c0 : ((pr.all fun d => d.ok K) && ex.all fun f => f K) = true := congrArg (fun z : AlP => z.2.1) c
  have c1 : pr.all (fun d => d.ok K) = true := (He.ba c0).1
  have e : pr.map (fun d => fnA K (getr K d.cls d.attr)) = pr.map PropD.val := congrArg (fun z : AlP => z.2.2) c
  have e2 : (pr.map fun d => fnA K (getr K d.cls d.attr))[i]? = (pr.map PropD.val)[i]? := by rw [e]
  rw [List.getElem?_map, List.getElem?_map, h] at e2
  exact PropD.prop (Option.some.inj e2) (List.all_eq_true.mp c1 d (List.mem_of_getElem? h))
theorem SaysP.more (c : SaysP K) (i : Nat) {f : PySem.W.Frag → Bool} (h : ex[i]? = some f := by rfl) : f K = true := by
  have c0 : ((pr.all fun d => d.ok K) && ex.all fun f => f K) = true := congrArg (fun z : AlP => z.2.1) c
  exact List.all_eq_true.mp (He.ba c0).2 f (List.mem_of_getElem? h)
end
/-- what the walk asks of the top -/
structure Txt (K : PySem.W.Frag) (mg : Str → Option Value) : Prop where
  says : SaysP K
  glo : ∀ x : Str, (He.Fa.glo x).ok K = true → mg x = some (.ref (He.ga K x))
  free : ∀ x : Str, (He.Fa.free x).ok K = true → mg x = none
  int : ∀ (x : Str) (i : Int), (He.Fa.int x i).ok K = true → ∃ t, mg x = some (.int i t)
  str : ∀ x z : Str, (He.Fa.str x z).ok K = true → ∃ t, mg x = some (.str z t)
theorem Txt.of {K : PySem.W.Frag} {h : Heap} {mg : Str → Option Value} (X : K.In h) (G : h.Ns mainGlobals mg) (c : SaysP K) : Txt K mg :=
  ⟨c, fun _ q => He.glo_ok X G q, fun _ q => He.free_ok X G q, fun _ _ q => He.int_ok X G q, fun _ _ q => He.str_ok X G q⟩
theorem TabT.LENGTHS {K : PySem.W.Frag} {w : World} (W : TabT K w) : ∃ es n, KDict K w (He.ga K "LENGTHS") es n := by
  have e2 : (tbs.map fun t => He.dicW K (t.1 K))[0]? = (tbs.map fun t => some (He.keysIn w.params t.2))[0]? := by rw [W.says]
  exact He.dicW_ok (Option.some.inj e2)
section
variable {K : PySem.W.Frag} {mg : Str → Option Value}
theorem Txt.g_is_integer (T : Txt K mg) : mg "is_integer" = some (.ref (He.ga K "is_integer")) := T.glo _ (T.says.fact (f := .glo "is_integer") 0)
theorem Txt.g_is_between (T : Txt K mg) : mg "is_between" = some (.ref (He.ga K "is_between")) := T.glo _ (T.says.fact (f := .glo "is_between") 1)
theorem Txt.g_check_number (T : Txt K mg) : mg "check_number" = some (.ref (He.ga K "check_number")) := T.glo _ (T.says.fact (f := .glo "check_number") 2)
theorem Txt.g_gcd (T : Txt K mg) : mg "gcd" = some (.ref (He.ga K "gcd")) := T.glo _ (T.says.fact (f := .glo "gcd") 3)
theorem Txt.g_is_prime (T : Txt K mg) : mg "is_prime" = some (.ref (He.ga K "is_prime")) := T.glo _ (T.says.fact (f := .glo "is_prime") 4)
theorem Txt.g_factors_of (T : Txt K mg) : mg "factors_of" = some (.ref (He.ga K "factors_of")) := T.glo _ (T.says.fact (f := .glo "factors_of") 5)
theorem Txt.g_is_factor (T : Txt K mg) : mg "is_factor" = some (.ref (He.ga K "is_factor")) := T.glo _ (T.says.fact (f := .glo "is_factor") 6)
theorem Txt.g_check_factors (T : Txt K mg) : mg "check_factors" = some (.ref (He.ga K "check_factors")) := T.glo _ (T.says.fact (f := .glo "check_factors") 7)
theorem Txt.g_value_of (T : Txt K mg) : mg "value_of" = some (.ref (He.ga K "value_of")) := T.glo _ (T.says.fact (f := .glo "value_of") 8)
theorem Txt.g_read_factor (T : Txt K mg) : mg "read_factor" = some (.ref (He.ga K "read_factor")) := T.glo _ (T.says.fact (f := .glo "read_factor") 9)
theorem Txt.g_number_of (T : Txt K mg) : mg "number_of" = some (.ref (He.ga K "number_of")) := T.glo _ (T.says.fact (f := .glo "number_of") 10)
theorem Txt.g_number_with (T : Txt K mg) : mg "number_with" = some (.ref (He.ga K "number_with")) := T.glo _ (T.says.fact (f := .glo "number_with") 11)
theorem Txt.g_check_value (T : Txt K mg) : mg "check_value" = some (.ref (He.ga K "check_value")) := T.glo _ (T.says.fact (f := .glo "check_value") 12)
theorem Txt.g_is_share (T : Txt K mg) : mg "is_share" = some (.ref (He.ga K "is_share")) := T.glo _ (T.says.fact (f := .glo "is_share") 13)
theorem Txt.g_units (T : Txt K mg) : mg "units" = some (.ref (He.ga K "units")) := T.glo _ (T.says.fact (f := .glo "units") 14)
theorem Txt.g_powers (T : Txt K mg) : mg "powers" = some (.ref (He.ga K "powers")) := T.glo _ (T.says.fact (f := .glo "powers") 15)
theorem Txt.g_power_rest_cores (T : Txt K mg) : mg "power_rest_cores" = some (.ref (He.ga K "power_rest_cores")) := T.glo _ (T.says.fact (f := .glo "power_rest_cores") 16)
theorem Txt.g_added (T : Txt K mg) : mg "added" = some (.ref (He.ga K "added")) := T.glo _ (T.says.fact (f := .glo "added") 17)
theorem Txt.g_counts_of (T : Txt K mg) : mg "counts_of" = some (.ref (He.ga K "counts_of")) := T.glo _ (T.says.fact (f := .glo "counts_of") 18)
theorem Txt.g_spares (T : Txt K mg) : mg "spares" = some (.ref (He.ga K "spares")) := T.glo _ (T.says.fact (f := .glo "spares") 19)
theorem Txt.g_core_factors (T : Txt K mg) : mg "core_factors" = some (.ref (He.ga K "core_factors")) := T.glo _ (T.says.fact (f := .glo "core_factors") 20)
theorem Txt.g_check_pair (T : Txt K mg) : mg "check_pair" = some (.ref (He.ga K "check_pair")) := T.glo _ (T.says.fact (f := .glo "check_pair") 21)
theorem Txt.g_powers_of (T : Txt K mg) : mg "powers_of" = some (.ref (He.ga K "powers_of")) := T.glo _ (T.says.fact (f := .glo "powers_of") 22)
theorem Txt.g_spread (T : Txt K mg) : mg "spread" = some (.ref (He.ga K "spread")) := T.glo _ (T.says.fact (f := .glo "spread") 23)
theorem Txt.g_key_of (T : Txt K mg) : mg "key_of" = some (.ref (He.ga K "key_of")) := T.glo _ (T.says.fact (f := .glo "key_of") 24)
theorem Txt.g_key (T : Txt K mg) : mg "key" = some (.ref (He.ga K "key")) := T.glo _ (T.says.fact (f := .glo "key") 25)
theorem Txt.g_rest_of (T : Txt K mg) : mg "rest_of" = some (.ref (He.ga K "rest_of")) := T.glo _ (T.says.fact (f := .glo "rest_of") 26)
theorem Txt.g_wrong_step (T : Txt K mg) : mg "wrong_step" = some (.ref (He.ga K "wrong_step")) := T.glo _ (T.says.fact (f := .glo "wrong_step") 27)
theorem Txt.g_is_key (T : Txt K mg) : mg "is_key" = some (.ref (He.ga K "is_key")) := T.glo _ (T.says.fact (f := .glo "is_key") 28)
theorem Txt.g_decimal (T : Txt K mg) : mg "decimal" = some (.ref (He.ga K "decimal")) := T.glo _ (T.says.fact (f := .glo "decimal") 29)
theorem Txt.g_rule_of (T : Txt K mg) : mg "rule_of" = some (.ref (He.ga K "rule_of")) := T.glo _ (T.says.fact (f := .glo "rule_of") 30)
theorem Txt.g_check_rule (T : Txt K mg) : mg "check_rule" = some (.ref (He.ga K "check_rule")) := T.glo _ (T.says.fact (f := .glo "check_rule") 31)
theorem Txt.g_is_rests (T : Txt K mg) : mg "is_rests" = some (.ref (He.ga K "is_rests")) := T.glo _ (T.says.fact (f := .glo "is_rests") 32)
theorem Txt.g_are_rows (T : Txt K mg) : mg "are_rows" = some (.ref (He.ga K "are_rows")) := T.glo _ (T.says.fact (f := .glo "are_rows") 33)
theorem Txt.g_are_failing (T : Txt K mg) : mg "are_failing" = some (.ref (He.ga K "are_failing")) := T.glo _ (T.says.fact (f := .glo "are_failing") 34)
theorem Txt.g_accepts_apart (T : Txt K mg) : mg "accepts_apart" = some (.ref (He.ga K "accepts_apart")) := T.glo _ (T.says.fact (f := .glo "accepts_apart") 35)
theorem Txt.g_accepts_number (T : Txt K mg) : mg "accepts_number" = some (.ref (He.ga K "accepts_number")) := T.glo _ (T.says.fact (f := .glo "accepts_number") 36)
theorem Txt.g_accepts (T : Txt K mg) : mg "accepts" = some (.ref (He.ga K "accepts")) := T.glo _ (T.says.fact (f := .glo "accepts") 37)
theorem Txt.g_ulaw_mill (T : Txt K mg) : mg "_law_mill" = some (.ref (He.ga K "_law_mill")) := T.glo _ (T.says.fact (f := .glo "_law_mill") 38)
theorem Txt.g_ulaw_grain (T : Txt K mg) : mg "_law_grain" = some (.ref (He.ga K "_law_grain")) := T.glo _ (T.says.fact (f := .glo "_law_grain") 39)
theorem Txt.g_ulaw_measure (T : Txt K mg) : mg "_law_measure" = some (.ref (He.ga K "_law_measure")) := T.glo _ (T.says.fact (f := .glo "_law_measure") 40)
theorem Txt.g_ulaw_spec (T : Txt K mg) : mg "_law_spec" = some (.ref (He.ga K "_law_spec")) := T.glo _ (T.says.fact (f := .glo "_law_spec") 41)
theorem Txt.g_ulaw_made (T : Txt K mg) : mg "_law_made" = some (.ref (He.ga K "_law_made")) := T.glo _ (T.says.fact (f := .glo "_law_made") 42)
theorem Txt.g_ulaw_split (T : Txt K mg) : mg "_law_split" = some (.ref (He.ga K "_law_split")) := T.glo _ (T.says.fact (f := .glo "_law_split") 43)
theorem Txt.g_ulaw_great (T : Txt K mg) : mg "_law_great" = some (.ref (He.ga K "_law_great")) := T.glo _ (T.says.fact (f := .glo "_law_great") 44)
theorem Txt.g_ulaw_shared (T : Txt K mg) : mg "_law_shared" = some (.ref (He.ga K "_law_shared")) := T.glo _ (T.says.fact (f := .glo "_law_shared") 45)
theorem Txt.g_ulaw_core (T : Txt K mg) : mg "_law_core" = some (.ref (He.ga K "_law_core")) := T.glo _ (T.says.fact (f := .glo "_law_core") 46)
theorem Txt.g_ulaw_spans (T : Txt K mg) : mg "_law_spans" = some (.ref (He.ga K "_law_spans")) := T.glo _ (T.says.fact (f := .glo "_law_spans") 47)
theorem Txt.g_ulaw_power (T : Txt K mg) : mg "_law_power" = some (.ref (He.ga K "_law_power")) := T.glo _ (T.says.fact (f := .glo "_law_power") 48)
theorem Txt.g_ulaw_is_step (T : Txt K mg) : mg "_law_is_step" = some (.ref (He.ga K "_law_is_step")) := T.glo _ (T.says.fact (f := .glo "_law_is_step") 49)
theorem Txt.g_ulaw_leaves (T : Txt K mg) : mg "_law_leaves" = some (.ref (He.ga K "_law_leaves")) := T.glo _ (T.says.fact (f := .glo "_law_leaves") 50)
theorem Txt.g_ulaw_text (T : Txt K mg) : mg "_law_text" = some (.ref (He.ga K "_law_text")) := T.glo _ (T.says.fact (f := .glo "_law_text") 51)
theorem Txt.g_ulaw_number_text (T : Txt K mg) : mg "_law_number_text" = some (.ref (He.ga K "_law_number_text")) := T.glo _ (T.says.fact (f := .glo "_law_number_text") 52)
theorem Txt.g_ulaw_asked (T : Txt K mg) : mg "_law_asked" = some (.ref (He.ga K "_law_asked")) := T.glo _ (T.says.fact (f := .glo "_law_asked") 53)
theorem Txt.g_ulaw_rows (T : Txt K mg) : mg "_law_rows" = some (.ref (He.ga K "_law_rows")) := T.glo _ (T.says.fact (f := .glo "_law_rows") 54)
theorem Txt.g_ulaw_are_rows (T : Txt K mg) : mg "_law_are_rows" = some (.ref (He.ga K "_law_are_rows")) := T.glo _ (T.says.fact (f := .glo "_law_are_rows") 55)
theorem Txt.g_ulaw_bent_rows (T : Txt K mg) : mg "_law_bent_rows" = some (.ref (He.ga K "_law_bent_rows")) := T.glo _ (T.says.fact (f := .glo "_law_bent_rows") 56)
theorem Txt.g_ulaw_bent_key (T : Txt K mg) : mg "_law_bent_key" = some (.ref (He.ga K "_law_bent_key")) := T.glo _ (T.says.fact (f := .glo "_law_bent_key") 57)
theorem Txt.g_ulaw_two (T : Txt K mg) : mg "_law_two" = some (.ref (He.ga K "_law_two")) := T.glo _ (T.says.fact (f := .glo "_law_two") 58)
theorem Txt.g_ulaw_due (T : Txt K mg) : mg "_law_due" = some (.ref (He.ga K "_law_due")) := T.glo _ (T.says.fact (f := .glo "_law_due") 59)
theorem Txt.g_ulaw_right (T : Txt K mg) : mg "_law_right" = some (.ref (He.ga K "_law_right")) := T.glo _ (T.says.fact (f := .glo "_law_right") 60)
theorem Txt.g_law (T : Txt K mg) : mg "law" = some (.ref (He.ga K "law")) := T.glo _ (T.says.fact (f := .glo "law") 61)
theorem Txt.g_LENGTHS (T : Txt K mg) : mg "LENGTHS" = some (.ref (He.ga K "LENGTHS")) := T.glo _ (T.says.fact (f := .glo "LENGTHS") 62)
theorem Txt.g_Rule (T : Txt K mg) : mg "Rule" = some (.ref (He.ga K "Rule")) := T.glo _ (T.says.fact (f := .glo "Rule") 63)
theorem Txt.c_Rule (T : Txt K mg) : Cls K (He.ga K "Rule") := He.cls_ok (T.says.fact (f := .cls "Rule") 64)
theorem Txt.n_Rule_parts (T : Txt K mg) : NoAttr K (He.ga K "Rule") "parts" := He.noat_ok (T.says.fact (f := .noat "Rule" "parts") 65)
theorem Txt.n_Rule_first (T : Txt K mg) : NoAttr K (He.ga K "Rule") "first" := He.noat_ok (T.says.fact (f := .noat "Rule" "first") 66)
theorem Txt.n_Rule_second (T : Txt K mg) : NoAttr K (He.ga K "Rule") "second" := He.noat_ok (T.says.fact (f := .noat "Rule" "second") 67)
theorem Txt.n_Rule_moduli (T : Txt K mg) : NoAttr K (He.ga K "Rule") "moduli" := He.noat_ok (T.says.fact (f := .noat "Rule" "moduli") 68)
theorem Txt.mk_Rule (T : Txt K mg) : Mk K (He.ga K "Rule") (He.ma K (He.ga K "Rule") "__init__") := He.mkr_ok (T.says.fact (f := .mkr "Rule") 69)
theorem Txt.g_Number (T : Txt K mg) : mg "Number" = some (.ref (He.ga K "Number")) := T.glo _ (T.says.fact (f := .glo "Number") 70)
theorem Txt.c_Number (T : Txt K mg) : Cls K (He.ga K "Number") := He.cls_ok (T.says.fact (f := .cls "Number") 71)
theorem Txt.n_Number_factors (T : Txt K mg) : NoAttr K (He.ga K "Number") "factors" := He.noat_ok (T.says.fact (f := .noat "Number" "factors") 72)
theorem Txt.n_Number_value (T : Txt K mg) : NoAttr K (He.ga K "Number") "value" := He.noat_ok (T.says.fact (f := .noat "Number" "value") 73)
theorem Txt.mk_Number (T : Txt K mg) : Mk K (He.ga K "Number") (He.ma K (He.ga K "Number") "__init__") := He.mkr_ok (T.says.fact (f := .mkr "Number") 74)
theorem Txt.m_Number_shared (T : Txt K mg) : Meth K (He.ga K "Number") "shared" (He.ma K (He.ga K "Number") "shared") := He.meth_ok (T.says.fact (f := .meth "Number" "shared") 75)
theorem Txt.m_Number_times (T : Txt K mg) : Meth K (He.ga K "Number") "times" (He.ma K (He.ga K "Number") "times") := He.meth_ok (T.says.fact (f := .meth "Number" "times") 76)
theorem Txt.g_Core (T : Txt K mg) : mg "Core" = some (.ref (He.ga K "Core")) := T.glo _ (T.says.fact (f := .glo "Core") 77)
theorem Txt.c_Core (T : Txt K mg) : Cls K (He.ga K "Core") := He.cls_ok (T.says.fact (f := .cls "Core") 78)
theorem Txt.n_Core_rule (T : Txt K mg) : NoAttr K (He.ga K "Core") "rule" := He.noat_ok (T.says.fact (f := .noat "Core" "rule") 79)
theorem Txt.n_Core_modulus (T : Txt K mg) : NoAttr K (He.ga K "Core") "modulus" := He.noat_ok (T.says.fact (f := .noat "Core" "modulus") 80)
theorem Txt.n_Core_factors (T : Txt K mg) : NoAttr K (He.ga K "Core") "factors" := He.noat_ok (T.says.fact (f := .noat "Core" "factors") 81)
theorem Txt.n_Core_spans (T : Txt K mg) : NoAttr K (He.ga K "Core") "spans" := He.noat_ok (T.says.fact (f := .noat "Core" "spans") 82)
theorem Txt.mk_Core (T : Txt K mg) : Mk K (He.ga K "Core") (He.ma K (He.ga K "Core") "__init__") := He.mkr_ok (T.says.fact (f := .mkr "Core") 83)
theorem Txt.z_isinstance (T : Txt K mg) : mg "isinstance" = none := T.free _ (T.says.fact (f := .free "isinstance") 84)
theorem Txt.z_int (T : Txt K mg) : mg "int" = none := T.free _ (T.says.fact (f := .free "int") 85)
theorem Txt.z_bool (T : Txt K mg) : mg "bool" = none := T.free _ (T.says.fact (f := .free "bool") 86)
theorem Txt.z_str (T : Txt K mg) : mg "str" = none := T.free _ (T.says.fact (f := .free "str") 87)
theorem Txt.z_len (T : Txt K mg) : mg "len" = none := T.free _ (T.says.fact (f := .free "len") 88)
theorem Txt.z_range (T : Txt K mg) : mg "range" = none := T.free _ (T.says.fact (f := .free "range") 89)
theorem Txt.z_tuple (T : Txt K mg) : mg "tuple" = none := T.free _ (T.says.fact (f := .free "tuple") 90)
theorem Txt.z_sorted (T : Txt K mg) : mg "sorted" = none := T.free _ (T.says.fact (f := .free "sorted") 91)
theorem Txt.z_enumerate (T : Txt K mg) : mg "enumerate" = none := T.free _ (T.says.fact (f := .free "enumerate") 92)
theorem Txt.z_abs (T : Txt K mg) : mg "abs" = none := T.free _ (T.says.fact (f := .free "abs") 93)
theorem Txt.z_min (T : Txt K mg) : mg "min" = none := T.free _ (T.says.fact (f := .free "min") 94)
theorem Txt.z_max (T : Txt K mg) : mg "max" = none := T.free _ (T.says.fact (f := .free "max") 95)
theorem Txt.z_divmod (T : Txt K mg) : mg "divmod" = none := T.free _ (T.says.fact (f := .free "divmod") 96)
theorem Txt.z_repr (T : Txt K mg) : mg "repr" = none := T.free _ (T.says.fact (f := .free "repr") 97)
theorem Txt.z_all (T : Txt K mg) : mg "all" = none := T.free _ (T.says.fact (f := .free "all") 98)
theorem Txt.z_any (T : Txt K mg) : mg "any" = none := T.free _ (T.says.fact (f := .free "any") 99)
theorem Txt.z_dict (T : Txt K mg) : mg "dict" = none := T.free _ (T.says.fact (f := .free "dict") 100)
theorem Txt.z_list (T : Txt K mg) : mg "list" = none := T.free _ (T.says.fact (f := .free "list") 101)
theorem Txt.z_set (T : Txt K mg) : mg "set" = none := T.free _ (T.says.fact (f := .free "set") 102)
theorem Txt.i_MOST_PARTS (T : Txt K mg) : ∃ t, mg "MOST_PARTS" = some (.int (12) t) := T.int _ _ (T.says.fact (f := .int "MOST_PARTS" (12)) 103)
theorem Txt.i_MOST_SHARE (T : Txt K mg) : ∃ t, mg "MOST_SHARE" = some (.int (12) t) := T.int _ _ (T.says.fact (f := .int "MOST_SHARE" (12)) 104)
theorem Txt.i_MOST_PRIME (T : Txt K mg) : ∃ t, mg "MOST_PRIME" = some (.int (1000000) t) := T.int _ _ (T.says.fact (f := .int "MOST_PRIME" (1000000)) 105)
theorem Txt.i_MOST_PRIMES (T : Txt K mg) : ∃ t, mg "MOST_PRIMES" = some (.int (12) t) := T.int _ _ (T.says.fact (f := .int "MOST_PRIMES" (12)) 106)
theorem Txt.i_MOST_EXPONENT (T : Txt K mg) : ∃ t, mg "MOST_EXPONENT" = some (.int (1000000000000000000000000000000) t) := T.int _ _ (T.says.fact (f := .int "MOST_EXPONENT" (1000000000000000000000000000000)) 107)
theorem Txt.i_MOST_VALUE (T : Txt K mg) : ∃ t, mg "MOST_VALUE" = some (.int (1000000000000000000000000000000) t) := T.int _ _ (T.says.fact (f := .int "MOST_VALUE" (1000000000000000000000000000000)) 108)
theorem Txt.i_MOST_SMALL (T : Txt K mg) : ∃ t, mg "MOST_SMALL" = some (.int (1000000) t) := T.int _ _ (T.says.fact (f := .int "MOST_SMALL" (1000000)) 109)
theorem Txt.i_LONG_EXPONENT (T : Txt K mg) : ∃ t, mg "LONG_EXPONENT" = some (.int (100) t) := T.int _ _ (T.says.fact (f := .int "LONG_EXPONENT" (100)) 110)
theorem Txt.i_MOST_COUNT (T : Txt K mg) : ∃ t, mg "MOST_COUNT" = some (.int (100000000000000000000000000000000) t) := T.int _ _ (T.says.fact (f := .int "MOST_COUNT" (100000000000000000000000000000000)) 111)
theorem Txt.t_FIGURES (T : Txt K mg) : ∃ t, mg "FIGURES" = some (.str "0123456789" t) := T.str _ _ (T.says.fact (f := .str "FIGURES" "0123456789") 112)
theorem Txt.f_is_integer (T : Txt K mg) : ∃ fd, FunD K "is_integer" "is_integer" (defArgs s_is_integer) (defBody s_is_integer) (defScope s_is_integer) [] [] (He.fAd K ("is_integer", none)) fd := T.says.def_ (d := d_is_integer) 0
theorem Txt.f_is_between (T : Txt K mg) : ∃ fd, FunD K "is_between" "is_between" (defArgs s_is_between) (defBody s_is_between) (defScope s_is_between) [] [] (He.fAd K ("is_between", none)) fd := T.says.def_ (d := d_is_between) 1
theorem Txt.f_check_number (T : Txt K mg) : ∃ fd, FunD K "check_number" "check_number" (defArgs s_check_number) (defBody s_check_number) (defScope s_check_number) [] [] (He.fAd K ("check_number", none)) fd := T.says.def_ (d := d_check_number) 2
theorem Txt.f_gcd (T : Txt K mg) : ∃ fd, FunD K "gcd" "gcd" (defArgs s_gcd) (defBody s_gcd) (defScope s_gcd) [] [] (He.fAd K ("gcd", none)) fd := T.says.def_ (d := d_gcd) 3
theorem Txt.f_is_prime (T : Txt K mg) : ∃ fd, FunD K "is_prime" "is_prime" (defArgs s_is_prime) (defBody s_is_prime) (defScope s_is_prime) [] [] (He.fAd K ("is_prime", none)) fd := T.says.def_ (d := d_is_prime) 4
theorem Txt.f_factors_of (T : Txt K mg) : ∃ fd, FunD K "factors_of" "factors_of" (defArgs s_factors_of) (defBody s_factors_of) (defScope s_factors_of) [] [] (He.fAd K ("factors_of", none)) fd := T.says.def_ (d := d_factors_of) 5
theorem Txt.f_is_factor (T : Txt K mg) : ∃ fd, FunD K "is_factor" "is_factor" (defArgs s_is_factor) (defBody s_is_factor) (defScope s_is_factor) [] [] (He.fAd K ("is_factor", none)) fd := T.says.def_ (d := d_is_factor) 6
theorem Txt.f_check_factors (T : Txt K mg) : ∃ fd, FunD K "check_factors" "check_factors" (defArgs s_check_factors) (defBody s_check_factors) (defScope s_check_factors) [] [] (He.fAd K ("check_factors", none)) fd := T.says.def_ (d := d_check_factors) 7
theorem Txt.f_value_of (T : Txt K mg) : ∃ fd, FunD K "value_of" "value_of" (defArgs s_value_of) (defBody s_value_of) (defScope s_value_of) [] [] (He.fAd K ("value_of", none)) fd := T.says.def_ (d := d_value_of) 8
theorem Txt.f_read_factor (T : Txt K mg) : ∃ fd, FunD K "read_factor" "read_factor" (defArgs s_read_factor) (defBody s_read_factor) (defScope s_read_factor) [] [] (He.fAd K ("read_factor", none)) fd := T.says.def_ (d := d_read_factor) 9
theorem Txt.f_number_of (T : Txt K mg) : ∃ fd, FunD K "number_of" "number_of" (defArgs s_number_of) (defBody s_number_of) (defScope s_number_of) [] [] (He.fAd K ("number_of", none)) fd := T.says.def_ (d := d_number_of) 10
theorem Txt.f_number_with (T : Txt K mg) : ∃ fd, FunD K "number_with" "number_with" (defArgs s_number_with) (defBody s_number_with) (defScope s_number_with) [] [] (He.fAd K ("number_with", none)) fd := T.says.def_ (d := d_number_with) 11
theorem Txt.f_check_value (T : Txt K mg) : ∃ fd, FunD K "check_value" "check_value" (defArgs s_check_value) (defBody s_check_value) (defScope s_check_value) [] [] (He.fAd K ("check_value", none)) fd := T.says.def_ (d := d_check_value) 12
theorem Txt.f_is_share (T : Txt K mg) : ∃ fd, FunD K "is_share" "is_share" (defArgs s_is_share) (defBody s_is_share) (defScope s_is_share) [] [] (He.fAd K ("is_share", none)) fd := T.says.def_ (d := d_is_share) 13
theorem Txt.f_units (T : Txt K mg) : ∃ fd, FunD K "units" "units" (defArgs s_units) (defBody s_units) (defScope s_units) [] [] (He.fAd K ("units", none)) fd := T.says.def_ (d := d_units) 14
theorem Txt.f_powers (T : Txt K mg) : ∃ fd, FunD K "powers" "powers" (defArgs s_powers) (defBody s_powers) (defScope s_powers) [] [] (He.fAd K ("powers", none)) fd := T.says.def_ (d := d_powers) 15
theorem Txt.f_power_rest_cores (T : Txt K mg) : ∃ fd, FunD K "power_rest" "power_rest" (defArgs s_power_rest_cores) (defBody s_power_rest_cores) (defScope s_power_rest_cores) [] [] (He.fAd K ("power_rest_cores", none)) fd := T.says.def_ (d := d_power_rest_cores) 16
theorem Txt.f_added (T : Txt K mg) : ∃ fd, FunD K "added" "added" (defArgs s_added) (defBody s_added) (defScope s_added) [] [] (He.fAd K ("added", none)) fd := T.says.def_ (d := d_added) 17
theorem Txt.f_counts_of (T : Txt K mg) : ∃ fd, FunD K "counts_of" "counts_of" (defArgs s_counts_of) (defBody s_counts_of) (defScope s_counts_of) [] [] (He.fAd K ("counts_of", none)) fd := T.says.def_ (d := d_counts_of) 18
theorem Txt.f_spares (T : Txt K mg) : ∃ fd, FunD K "spares" "spares" (defArgs s_spares) (defBody s_spares) (defScope s_spares) [] [] (He.fAd K ("spares", none)) fd := T.says.def_ (d := d_spares) 19
theorem Txt.f_core_factors (T : Txt K mg) : ∃ fd, FunD K "core_factors" "core_factors" (defArgs s_core_factors) (defBody s_core_factors) (defScope s_core_factors) [] [] (He.fAd K ("core_factors", none)) fd := T.says.def_ (d := d_core_factors) 20
theorem Txt.f_check_pair (T : Txt K mg) : ∃ fd, FunD K "check_pair" "check_pair" (defArgs s_check_pair) (defBody s_check_pair) (defScope s_check_pair) [] [] (He.fAd K ("check_pair", none)) fd := T.says.def_ (d := d_check_pair) 21
theorem Txt.f_powers_of (T : Txt K mg) : ∃ fd, FunD K "powers_of" "powers_of" (defArgs s_powers_of) (defBody s_powers_of) (defScope s_powers_of) [] [] (He.fAd K ("powers_of", none)) fd := T.says.def_ (d := d_powers_of) 22
theorem Txt.f_spread (T : Txt K mg) : ∃ fd, FunD K "spread" "spread" (defArgs s_spread) (defBody s_spread) (defScope s_spread) [] [] (He.fAd K ("spread", none)) fd := T.says.def_ (d := d_spread) 23
theorem Txt.f_key_of (T : Txt K mg) : ∃ fd, FunD K "key_of" "key_of" (defArgs s_key_of) (defBody s_key_of) (defScope s_key_of) [] [] (He.fAd K ("key_of", none)) fd := T.says.def_ (d := d_key_of) 24
theorem Txt.f_key (T : Txt K mg) : ∃ fd, FunD K "key" "key" (defArgs s_key) (defBody s_key) (defScope s_key) [] [] (He.fAd K ("key", none)) fd := T.says.def_ (d := d_key) 25
theorem Txt.f_rest_of (T : Txt K mg) : ∃ fd, FunD K "rest_of" "rest_of" (defArgs s_rest_of) (defBody s_rest_of) (defScope s_rest_of) [] [] (He.fAd K ("rest_of", none)) fd := T.says.def_ (d := d_rest_of) 26
theorem Txt.f_wrong_step (T : Txt K mg) : ∃ fd, FunD K "wrong_step" "wrong_step" (defArgs s_wrong_step) (defBody s_wrong_step) (defScope s_wrong_step) [] [] (He.fAd K ("wrong_step", none)) fd := T.says.def_ (d := d_wrong_step) 27
theorem Txt.f_is_key (T : Txt K mg) : ∃ fd, FunD K "is_key" "is_key" (defArgs s_is_key) (defBody s_is_key) (defScope s_is_key) [] [] (He.fAd K ("is_key", none)) fd := T.says.def_ (d := d_is_key) 28
theorem Txt.f_decimal (T : Txt K mg) : ∃ fd, FunD K "decimal" "decimal" (defArgs s_decimal) (defBody s_decimal) (defScope s_decimal) [] [] (He.fAd K ("decimal", none)) fd := T.says.def_ (d := d_decimal) 29
theorem Txt.f_rule_of (T : Txt K mg) : ∃ fd, FunD K "rule_of" "rule_of" (defArgs s_rule_of) (defBody s_rule_of) (defScope s_rule_of) [] [] (He.fAd K ("rule_of", none)) fd := T.says.def_ (d := d_rule_of) 30
theorem Txt.f_check_rule (T : Txt K mg) : ∃ fd, FunD K "check_rule" "check_rule" (defArgs s_check_rule) (defBody s_check_rule) (defScope s_check_rule) [] [] (He.fAd K ("check_rule", none)) fd := T.says.def_ (d := d_check_rule) 31
theorem Txt.f_is_rests (T : Txt K mg) : ∃ fd, FunD K "is_rests" "is_rests" (defArgs s_is_rests) (defBody s_is_rests) (defScope s_is_rests) [] [] (He.fAd K ("is_rests", none)) fd := T.says.def_ (d := d_is_rests) 32
theorem Txt.f_are_rows (T : Txt K mg) : ∃ fd, FunD K "are_rows" "are_rows" (defArgs s_are_rows) (defBody s_are_rows) (defScope s_are_rows) [] [] (He.fAd K ("are_rows", none)) fd := T.says.def_ (d := d_are_rows) 33
theorem Txt.f_are_failing (T : Txt K mg) : ∃ fd, FunD K "are_failing" "are_failing" (defArgs s_are_failing) (defBody s_are_failing) (defScope s_are_failing) [] [] (He.fAd K ("are_failing", none)) fd := T.says.def_ (d := d_are_failing) 34
theorem Txt.f_accepts_apart (T : Txt K mg) : ∃ fd, FunD K "accepts_apart" "accepts_apart" (defArgs s_accepts_apart) (defBody s_accepts_apart) (defScope s_accepts_apart) [] [] (He.fAd K ("accepts_apart", none)) fd := T.says.def_ (d := d_accepts_apart) 35
theorem Txt.f_accepts_number (T : Txt K mg) : ∃ fd, FunD K "accepts_number" "accepts_number" (defArgs s_accepts_number) (defBody s_accepts_number) (defScope s_accepts_number) [] [] (He.fAd K ("accepts_number", none)) fd := T.says.def_ (d := d_accepts_number) 36
theorem Txt.f_accepts (T : Txt K mg) : ∃ fd, FunD K "accepts" "accepts" (defArgs s_accepts) (defBody s_accepts) (defScope s_accepts) [] [] (He.fAd K ("accepts", none)) fd := T.says.def_ (d := d_accepts) 37
theorem Txt.f_ulaw_mill (T : Txt K mg) : ∃ fd, FunD K "_law_mill" "_law_mill" (defArgs s_ulaw_mill) (defBody s_ulaw_mill) (defScope s_ulaw_mill) [] [] (He.fAd K ("_law_mill", none)) fd := T.says.def_ (d := d_ulaw_mill) 38
theorem Txt.f_ulaw_grain (T : Txt K mg) : ∃ fd, FunD K "_law_grain" "_law_grain" (defArgs s_ulaw_grain) (defBody s_ulaw_grain) (defScope s_ulaw_grain) [] [] (He.fAd K ("_law_grain", none)) fd := T.says.def_ (d := d_ulaw_grain) 39
theorem Txt.f_ulaw_measure (T : Txt K mg) : ∃ fd, FunD K "_law_measure" "_law_measure" (defArgs s_ulaw_measure) (defBody s_ulaw_measure) (defScope s_ulaw_measure) [] [] (He.fAd K ("_law_measure", none)) fd := T.says.def_ (d := d_ulaw_measure) 40
theorem Txt.f_ulaw_spec (T : Txt K mg) : ∃ fd, FunD K "_law_spec" "_law_spec" (defArgs s_ulaw_spec) (defBody s_ulaw_spec) (defScope s_ulaw_spec) [] [] (He.fAd K ("_law_spec", none)) fd := T.says.def_ (d := d_ulaw_spec) 41
theorem Txt.f_ulaw_made (T : Txt K mg) : ∃ fd, FunD K "_law_made" "_law_made" (defArgs s_ulaw_made) (defBody s_ulaw_made) (defScope s_ulaw_made) [] [] (He.fAd K ("_law_made", none)) fd := T.says.def_ (d := d_ulaw_made) 42
theorem Txt.f_ulaw_split (T : Txt K mg) : ∃ fd, FunD K "_law_split" "_law_split" (defArgs s_ulaw_split) (defBody s_ulaw_split) (defScope s_ulaw_split) [] [] (He.fAd K ("_law_split", none)) fd := T.says.def_ (d := d_ulaw_split) 43
theorem Txt.f_ulaw_great (T : Txt K mg) : ∃ fd, FunD K "_law_great" "_law_great" (defArgs s_ulaw_great) (defBody s_ulaw_great) (defScope s_ulaw_great) [] [] (He.fAd K ("_law_great", none)) fd := T.says.def_ (d := d_ulaw_great) 44
theorem Txt.f_ulaw_shared (T : Txt K mg) : ∃ fd, FunD K "_law_shared" "_law_shared" (defArgs s_ulaw_shared) (defBody s_ulaw_shared) (defScope s_ulaw_shared) [] [] (He.fAd K ("_law_shared", none)) fd := T.says.def_ (d := d_ulaw_shared) 45
theorem Txt.f_ulaw_core (T : Txt K mg) : ∃ fd, FunD K "_law_core" "_law_core" (defArgs s_ulaw_core) (defBody s_ulaw_core) (defScope s_ulaw_core) [] [] (He.fAd K ("_law_core", none)) fd := T.says.def_ (d := d_ulaw_core) 46
theorem Txt.f_ulaw_spans (T : Txt K mg) : ∃ fd, FunD K "_law_spans" "_law_spans" (defArgs s_ulaw_spans) (defBody s_ulaw_spans) (defScope s_ulaw_spans) [] [] (He.fAd K ("_law_spans", none)) fd := T.says.def_ (d := d_ulaw_spans) 47
theorem Txt.f_ulaw_power (T : Txt K mg) : ∃ fd, FunD K "_law_power" "_law_power" (defArgs s_ulaw_power) (defBody s_ulaw_power) (defScope s_ulaw_power) [] [] (He.fAd K ("_law_power", none)) fd := T.says.def_ (d := d_ulaw_power) 48
theorem Txt.f_ulaw_is_step (T : Txt K mg) : ∃ fd, FunD K "_law_is_step" "_law_is_step" (defArgs s_ulaw_is_step) (defBody s_ulaw_is_step) (defScope s_ulaw_is_step) [] [] (He.fAd K ("_law_is_step", none)) fd := T.says.def_ (d := d_ulaw_is_step) 49
theorem Txt.f_ulaw_leaves (T : Txt K mg) : ∃ fd, FunD K "_law_leaves" "_law_leaves" (defArgs s_ulaw_leaves) (defBody s_ulaw_leaves) (defScope s_ulaw_leaves) [] [] (He.fAd K ("_law_leaves", none)) fd := T.says.def_ (d := d_ulaw_leaves) 50
theorem Txt.f_ulaw_text (T : Txt K mg) : ∃ fd, FunD K "_law_text" "_law_text" (defArgs s_ulaw_text) (defBody s_ulaw_text) (defScope s_ulaw_text) [] [] (He.fAd K ("_law_text", none)) fd := T.says.def_ (d := d_ulaw_text) 51
theorem Txt.f_ulaw_number_text (T : Txt K mg) : ∃ fd, FunD K "_law_number_text" "_law_number_text" (defArgs s_ulaw_number_text) (defBody s_ulaw_number_text) (defScope s_ulaw_number_text) [] [] (He.fAd K ("_law_number_text", none)) fd := T.says.def_ (d := d_ulaw_number_text) 52
theorem Txt.f_ulaw_asked (T : Txt K mg) : ∃ fd, FunD K "_law_asked" "_law_asked" (defArgs s_ulaw_asked) (defBody s_ulaw_asked) (defScope s_ulaw_asked) [] [] (He.fAd K ("_law_asked", none)) fd := T.says.def_ (d := d_ulaw_asked) 53
theorem Txt.f_ulaw_rows (T : Txt K mg) : ∃ fd, FunD K "_law_rows" "_law_rows" (defArgs s_ulaw_rows) (defBody s_ulaw_rows) (defScope s_ulaw_rows) [] [] (He.fAd K ("_law_rows", none)) fd := T.says.def_ (d := d_ulaw_rows) 54
theorem Txt.f_ulaw_are_rows (T : Txt K mg) : ∃ fd, FunD K "_law_are_rows" "_law_are_rows" (defArgs s_ulaw_are_rows) (defBody s_ulaw_are_rows) (defScope s_ulaw_are_rows) [] [] (He.fAd K ("_law_are_rows", none)) fd := T.says.def_ (d := d_ulaw_are_rows) 55
theorem Txt.f_ulaw_bent_rows (T : Txt K mg) : ∃ fd, FunD K "_law_bent_rows" "_law_bent_rows" (defArgs s_ulaw_bent_rows) (defBody s_ulaw_bent_rows) (defScope s_ulaw_bent_rows) [] [] (He.fAd K ("_law_bent_rows", none)) fd := T.says.def_ (d := d_ulaw_bent_rows) 56
theorem Txt.f_ulaw_bent_key (T : Txt K mg) : ∃ fd, FunD K "_law_bent_key" "_law_bent_key" (defArgs s_ulaw_bent_key) (defBody s_ulaw_bent_key) (defScope s_ulaw_bent_key) [] [] (He.fAd K ("_law_bent_key", none)) fd := T.says.def_ (d := d_ulaw_bent_key) 57
theorem Txt.f_ulaw_two (T : Txt K mg) : ∃ fd, FunD K "_law_two" "_law_two" (defArgs s_ulaw_two) (defBody s_ulaw_two) (defScope s_ulaw_two) [] [] (He.fAd K ("_law_two", none)) fd := T.says.def_ (d := d_ulaw_two) 58
theorem Txt.f_ulaw_due (T : Txt K mg) : ∃ fd, FunD K "_law_due" "_law_due" (defArgs s_ulaw_due) (defBody s_ulaw_due) (defScope s_ulaw_due) [] [] (He.fAd K ("_law_due", none)) fd := T.says.def_ (d := d_ulaw_due) 59
theorem Txt.f_ulaw_right (T : Txt K mg) : ∃ fd, FunD K "_law_right" "_law_right" (defArgs s_ulaw_right) (defBody s_ulaw_right) (defScope s_ulaw_right) [] [] (He.fAd K ("_law_right", none)) fd := T.says.def_ (d := d_ulaw_right) 60
theorem Txt.f_law (T : Txt K mg) : ∃ fd, FunD K "law" "law" (defArgs s_law) (defBody s_law) (defScope s_law) [] [] (He.fAd K ("law", none)) fd := T.says.def_ (d := d_law) 61
theorem Txt.f_Rule_uuinit__ (T : Txt K mg) : ∃ fd, FunD K "__init__" "Rule.__init__" (defArgs s_Rule_uuinit__) (defBody s_Rule_uuinit__) (defScope s_Rule_uuinit__) [.int (1), .int (1)] [] (He.fAd K ("Rule", some "__init__")) fd := T.says.def_ (d := d_Rule_uuinit__) 62
theorem Txt.f_Number_uuinit__ (T : Txt K mg) : ∃ fd, FunD K "__init__" "Number.__init__" (defArgs s_Number_uuinit__) (defBody s_Number_uuinit__) (defScope s_Number_uuinit__) [.ref (He.dflAt ("Number", some "__init__") 0 K)] [] (He.fAd K ("Number", some "__init__")) fd := T.says.def_ (d := d_Number_uuinit__) 63
theorem Txt.f_Number_shared (T : Txt K mg) : ∃ fd, FunD K "shared" "Number.shared" (defArgs s_Number_shared) (defBody s_Number_shared) (defScope s_Number_shared) [] [] (He.fAd K ("Number", some "shared")) fd := T.says.def_ (d := d_Number_shared) 64
theorem Txt.f_Number_times (T : Txt K mg) : ∃ fd, FunD K "times" "Number.times" (defArgs s_Number_times) (defBody s_Number_times) (defScope s_Number_times) [] [] (He.fAd K ("Number", some "times")) fd := T.says.def_ (d := d_Number_times) 65
theorem Txt.f_Core_uuinit__ (T : Txt K mg) : ∃ fd, FunD K "__init__" "Core.__init__" (defArgs s_Core_uuinit__) (defBody s_Core_uuinit__) (defScope s_Core_uuinit__) [] [] (He.fAd K ("Core", some "__init__")) fd := T.says.def_ (d := d_Core_uuinit__) 66
theorem Txt.x_isi_Rule (T : Txt K mg) : e_isi_Rule K = true := T.says.more 0
theorem Txt.x_isi_Number (T : Txt K mg) : e_isi_Number K = true := T.says.more 1
theorem Txt.x_tup0_Number (T : Txt K mg) : e_tup0_Number K = true := T.says.more 2
theorem Txt.x_vals_LENGTHS (T : Txt K mg) : e_vals_LENGTHS K = true := T.says.more 3
theorem Txt.ty_Rule (T : Txt K mg) {H : Hp} {a dx : Addr} {fs : List (Str × V)} (h : H a = some (.ins (He.ga K "Rule") dx fs)) : TyOf K H (.ref a) (.ref (He.ga K "Rule")) := by
  obtain ⟨c1, c⟩ := He.ba T.x_isi_Rule
  obtain ⟨c2, c⟩ := He.ba c
  obtain ⟨c3, c4⟩ := He.ba c
  exact .ins h T.c_Rule (He.eqO_ok c1) (He.eqO_ok c2) (of_decide_eq_true c3) (of_decide_eq_true c4)
theorem Txt.ty_Number (T : Txt K mg) {H : Hp} {a dx : Addr} {fs : List (Str × V)} (h : H a = some (.ins (He.ga K "Number") dx fs)) : TyOf K H (.ref a) (.ref (He.ga K "Number")) := by
  obtain ⟨c1, c⟩ := He.ba T.x_isi_Number
  obtain ⟨c2, c⟩ := He.ba c
  obtain ⟨c3, c4⟩ := He.ba c
  exact .ins h T.c_Number (He.eqO_ok c1) (He.eqO_ok c2) (of_decide_eq_true c3) (of_decide_eq_true c4)
theorem Txt.tup0_Number (T : Txt K mg) : ∃ (o : Obj) (its : Array Value) (n : Nat), K.lookup (He.dflAt ("Number", some "__init__") 0 K) = some o ∧ o.cls = .type "tuple" ∧ o.dict = none ∧ o.data = .seq its n ∧ its.size ≤ sizeLine ∧ Vals [] its.toList := by
  have h := T.x_tup0_Number
  unfold e_tup0_Number at h
  cases e : K.lookup (He.dflAt ("Number", some "__init__") 0 K) with
  | none => rw [e] at h; cases h
  | some o =>
    rw [e] at h
    obtain ⟨oc, od, dt, osl⟩ := o
    split at h
    · rename_i _ its _ _ e2
      obtain rfl := of_decide_eq_true h
      cases e2
      exact ⟨_, #[], _, rfl, rfl, rfl, rfl, Nat.zero_le _, .nil⟩
    · cases h
end
def ls0 : List PySem.Str := ["_wall", "__name__", "BadValue", "InvalidText", "InvalidNumber", "NotARule", "NotANumber", "InvalidFactors", "MOST_PARTS", "MOST_SHARE", "MOST_PRIME", "MOST_PRIMES", "MOST_EXPONENT", "MOST_VALUE", "FIGURES", "is_integer", "is_between", "check_number", "decimal", "gcd", "MOST_SMALL", "MOST_MODULUS", "LONG_EXPONENT", "is_prime", "factors_of", "is_factor", "check_factors", "value_of", "power_rest", "power_rest_numbers"]
def ls1 : List PySem.Str := ["read_factor", "number_of", "number_with", "check_value", "Number", "is_share", "Rule", "rule_of", "check_rule", "units", "powers", "power_rest_cores", "added", "counts_of", "spares", "core_factors", "Core", "check_pair", "MOST_COUNT", "powers_of", "spread", "wrong_pair", "key_of", "key", "rest_of", "wrong_step", "is_key", "class_of", "LENGTHS", "MOST_TIMES"]
def ls2 : List PySem.Str := ["is_rests", "are_rows", "are_failing", "is_pattern", "spans_of", "shows_pattern", "accepts_pattern", "is_group", "accepts_bars", "shows_class", "spans_with", "is_step", "reaches", "accepts_class", "accepts_apart", "accepts_number", "accepts", "_law_mill", "_law_grain", "_law_measure", "_law_spec", "_law_made", "_law_split", "_law_great", "_law_shared", "_law_core", "_law_spans", "_law_power", "_law_is_step", "_law_leaves"]
def ls3 : List PySem.Str := ["_law_text", "_law_number_text", "_law_asked", "_law_rows", "_law_are_rows", "_law_bent_rows", "_law_bent_key", "_law_two", "_law_due", "_law_right"]
def ls : List PySem.Str := ls0 ++ ls1 ++ ls2 ++ ls3
abbrev R : PySem.W.OpenRow := PySem.W.OpenLaw.row PySem.Challenge.rw_unitpairs_k75_papers_of_rules_apart_judg
abbrev hk : PySem.W.Hook := hookP 5
def ob (s : PySem.W.SharedT) : AlQ := obsPG 5 (HandSHeadRun.getT s)
theorem ob_eq (s : PySem.W.SharedT) : ob s = hk.obs s.abs := obsPG_eq (HandSHeadRun.getT_eq s)
theorem run_f (w : World) : HandSHeadRun.RunEq R (PySem.W.view R.prog [110]) hk ob 20000 ls (w.withFollow "special-get-raises" false) := by
  intro os
  kernel_rfl
theorem run_t (w : World) : HandSHeadRun.RunEq R (PySem.W.view R.prog [110]) hk ob 20000 ls (w.withFollow "special-get-raises" true) := by
  intro os
  kernel_rfl
theorem run (w : World) : HandSHeadRun.RunEq R (PySem.W.view R.prog [110]) hk ob 20000 ls w := PySem.W.byRow2 "special-get-raises" (P := fun w => HandSHeadRun.RunEq R (PySem.W.view R.prog [110]) hk ob 20000 ls w) run_f run_t w
end K75

set_option Elab.async false
set_option linter.all false
set_option maxRecDepth 100000
set_option maxHeartbeats 4000000
namespace K75
open PySem PySem.Spec PyProof.Rows L2 Bk
section
variable {P : Program} {w : World} {K : PySem.W.Frag} {mg : Str → Option Value} {base : Heap}

/-! ### is_integer -/
def spIsInt (K : PySem.W.Frag) : Sp := fun vs H Q _ => ∃ x t b1 b2, vs = [x] ∧ TyX K H x t ∧ PySem.W.kitOne K t (.type "int") = some b1 ∧ PySem.W.kitOne K t (.type "bool") = some b2 ∧ Q (.bl (b1 && !b2)) H
theorem sc_is_integer : FnScope ["value"] ["value"] (defScope s_is_integer) := ⟨rfl, rfl, rfl, by decide +kernel, rfl, by decide +kernel, by decide +kernel⟩
theorem ok_is_integer (T : Txt K mg) : Ok P w K mg base 1 (He.ga K "is_integer") ["value"] (spIsInt K) := by
  refine fd_ok T.f_is_integer sc_is_integer (fun vs H Q E h => ?_) (fun _ _ _ _ _ _ us hl => match us, hl with | [_], _ => rfl) (fun cdv A outer s H vs Q E hr h => ?_)
  · obtain ⟨x, t, b1, b2, rfl, _⟩ := h
    rfl
  · obtain ⟨x, t, b1, b2, rfl, ty, k1, k2, q⟩ := h
    refine ⟨_, pss_one (ps_ret (pe_and (pe_callB call_isi rfl T.z_isinstance (by decide +kernel) (pa_cons (pv 0) (pa_cons (pe_bltn rfl T.z_int (by decide +kernel) (v := .ty "int") rfl) pa_nil)))
      (pe_one (pe_not (pe_callB call_isi rfl T.z_isinstance (by decide +kernel) (pa_cons (pv 0) (pa_cons (pe_bltn rfl T.z_bool (by decide +kernel) (v := .ty "bool") rfl) pa_nil))))))), ?_⟩
    refine ⟨_, rfl, _, _, t, _, b1, rfl, .ty _, ty, k1, b1, rfl, ?_⟩
    cases b1 with
    | false => exact iteF q
    | true => exact iteT ⟨_, rfl, _, _, t, _, b2, rfl, .ty _, ty, k2, b2, rfl, q⟩
theorem kit_ii : PySem.W.kitOne K (.type "int") (.type "int") = some true := by rfl
theorem kit_ib : PySem.W.kitOne K (.type "int") (.type "bool") = some false := by rfl
theorem isInt_int (i : Int) (H : Hp) (Q : VK) (E : XK) (q : Q (.bl true) H) : spIsInt K [.int i] H Q E := ⟨_, _, true, false, rfl, .base (.int i), kit_ii, kit_ib, q⟩

/-! ### is_between, of ints -/
def spBetween : Sp := fun vs H Q _ => ∃ i lo hi : Int, vs = [.int i, .int lo, .int hi] ∧ Q (.bl (decide (lo ≤ i) && decide (i ≤ hi))) H
theorem sc_is_between : FnScope ["value", "least", "most"] ["value", "least", "most"] (defScope s_is_between) := ⟨rfl, rfl, rfl, by decide +kernel, rfl, by decide +kernel, by decide +kernel⟩
theorem ok_is_between (T : Txt K mg) : Ok P w K mg base 2 (He.ga K "is_between") ["value", "least", "most"] spBetween := by
  obtain ⟨fd1, F1, b1, k1, _⟩ := (ok_is_integer (P := P) (w := w) (base := base) T).ex
  refine fd_ok T.f_is_between sc_is_between (fun vs H Q E h => ?_) (fun _ _ _ _ _ _ us hl => match us, hl with | [_, _, _], _ => rfl) (fun cdv A outer s H vs Q E hr h => ?_)
  · obtain ⟨i, lo, hi, rfl, _⟩ := h
    rfl
  · obtain ⟨i, lo, hi, rfl, q⟩ := h
    refine ⟨_, pss_one (ps_ret (pe_and (pe_call F1 hr rfl T.g_is_integer k1 b1 .nil pass0 (pa_cons (pv 0) pa_nil)) (pe_one (pe_chain op_le op_le (pv 1) (pv 0) (pv 2))))), ?_⟩
    refine ⟨_, rfl, _, _, true, false, rfl, .base (.int i), kit_ii, kit_ib, true, rfl, iteT ?_⟩
    refine ⟨_, rfl, _, rfl, _, _, rfl, rfl, _, rfl, ?_⟩
    cases e : decide (lo ≤ i) with
    | false =>
      rw [e] at q
      exact iteF q
    | true =>
      rw [e] at q
      exact iteT ⟨_, rfl, _, _, rfl, rfl, q⟩

/-! ### check_number, of an int within the bounds -/
def spCheck : Sp := fun vs H Q _ => ∃ i lo hi : Int, vs = [.int i, .int lo, .int hi] ∧ (lo ≤ i ∧ i ≤ hi) ∧ Q .non H
theorem sc_check_number : FnScope ["value", "least", "most"] ["value", "least", "most"] (defScope s_check_number) := ⟨rfl, rfl, rfl, by decide +kernel, rfl, by decide +kernel, by decide +kernel⟩
theorem ok_check_number (T : Txt K mg) : Ok P w K mg base 3 (He.ga K "check_number") ["value", "least", "most"] spCheck := by
  obtain ⟨fd1, F1, b1, k1, _⟩ := (ok_is_between (P := P) (w := w) (base := base) T).ex
  refine fd_ok T.f_check_number sc_check_number (fun vs H Q E h => ?_) (fun _ _ _ _ _ _ us hl => match us, hl with | [_, _, _], _ => rfl) (fun cdv A outer s H vs Q E hr h => ?_)
  · obtain ⟨i, lo, hi, rfl, _⟩ := h
    rfl
  · obtain ⟨i, lo, hi, rfl, ⟨h1, h2⟩, q⟩ := h
    refine ⟨_, pss_one (ps_if (pt_not (pt_val (pe_call F1 hr rfl T.g_is_between k1 b1 .nil pass0 (pa_cons (pv 0) (pa_cons (pv 1) (pa_cons (pv 2) pa_nil)))))) (pss_one ps_never) pss_nil), ?_⟩
    refine ⟨_, rfl, _, rfl, _, rfl, i, lo, hi, rfl, _, rfl, ?_⟩
    rw [decide_eq_true h1, decide_eq_true h2]
    exact iteF q

/-! ### gcd -/
def spGcd : Sp := fun vs H Q _ => ∃ i j : Nat, vs = [.int i, .int j] ∧ Q (.int (Nat.gcd i j : Nat)) H
theorem sc_gcd : FnScope ["one", "other"] ["one", "other"] (defScope s_gcd) := ⟨rfl, rfl, rfl, by decide +kernel, rfl, by decide +kernel, by decide +kernel⟩
theorem ok_gcd (T : Txt K mg) : Ok P w K mg base 1 (He.ga K "gcd") ["one", "other"] spGcd := by
  refine fd_ok T.f_gcd sc_gcd (fun vs H Q E h => ?_) (fun _ _ _ _ _ _ us hl => match us, hl with | [_, _], _ => rfl) (fun cdv A outer s H vs Q E hr h => ?_)
  · obtain ⟨i, j, rfl, _⟩ := h
    rfl
  · obtain ⟨i, j, rfl, q⟩ := h
    refine ⟨_, pss_cons (ps_while PassesOwn.never (pt_cmpR op_gt (pv 1) pe_int (nomark _))
      (pss_one (ps_par (i := 0) (j := 1) rfl sc_gcd.nd rfl rfl (by decide) rfl rfl (pa_cons (pv 1) (pa_cons (pe_op op_mod (pe_callTy call_int1 rfl T.z_int (by decide +kernel) (pa_cons (pv 0) pa_nil)) (pv 1)) pa_nil)) (by rfl))))
      (pss_one (ps_ret (pv 0))), ?_⟩
    refine ⟨fun m σ H' => ∃ a b : Nat, σ = [some (.int a), some (.int b)] ∧ H' = H ∧ Nat.gcd a b = Nat.gcd i j ∧ m = b, ⟨j, i, j, rfl, rfl, rfl, rfl⟩, ?_⟩
    rintro m σ H1 ⟨a, b, rfl, e1, hg, rfl⟩
    cases e1
    refine ⟨_, rfl, _, _, rfl, rfl, _, rfl, ?_⟩
    refine ite2 (fun hb => ?_) (fun hb => ?_)
    · have hb' : 0 < m := by have := of_decide_eq_true hb; omega
      refine ⟨fun σ H' => ∃ a' b' : Nat, σ = [some (.int a'), some (.int b')] ∧ H' = H ∧ Nat.gcd a' b' = Nat.gcd i j ∧ b' < m, fun σ' H' ⟨a', b', e1, e2, e3, e4⟩ => ⟨b', e4, a', b', e1, e2, e3, rfl⟩, ?_⟩
      refine ⟨_, rfl, _, rfl, .inl ⟨_, rfl, _, rfl, _, _, rfl, rfl, (by omega), ?_⟩⟩
      refine ⟨_, _, rfl, m, a % m, ?_, rfl, ?_, Nat.mod_lt _ hb'⟩
      · show [some (V.int m), some (V.int ((a : Int) % (m : Int)))] = _
        rw [show ((a : Int) % (m : Int)) = ((a % m : Nat) : Int) by omega]
      · rw [← hg, Nat.gcd_comm a m, Nat.gcd_rec m a, Nat.gcd_comm]
    · have hb' : m = 0 := by
        have : ¬ (0 : Int) < (m : Int) := fun z => hb (decide_eq_true z)
        omega
      subst hb'
      refine ⟨_, rfl, ?_⟩
      rw [Nat.gcd_zero_right] at hg
      subst hg
      exact q
end
end K75

set_option Elab.async false
set_option linter.all false
set_option maxRecDepth 100000
set_option maxHeartbeats 4000000
namespace K75
open PySem PySem.Spec PyProof.Rows L2 Bk Evl
section
variable {P : Program} {w : World} {K : PySem.W.Frag} {mg : Str → Option Value} {base : Heap}

/-! ### is_share -/
def shareB (a c : Nat) : Bool := (decide (1 ≤ c) && decide (c ≤ 12)) && decide (Nat.gcd c a = 1)
def spShare : Sp := fun vs H Q _ => ∃ a c : Nat, vs = [.int a, .int c] ∧ Q (.bl (shareB a c)) H
theorem sc_is_share : FnScope ["parts", "value"] ["parts", "value"] (defScope s_is_share) := ⟨rfl, rfl, rfl, by decide +kernel, rfl, by decide +kernel, by decide +kernel⟩
theorem ok_is_share (T : Txt K mg) : Ok P w K mg base 3 (He.ga K "is_share") ["parts", "value"] spShare := by
  obtain ⟨fd1, F1, b1, k1, _⟩ := (ok_is_between (P := P) (w := w) (base := base) T).ex
  obtain ⟨fd2, F2, b2, k2, _⟩ := (ok_gcd (P := P) (w := w) (base := base) T).ex
  obtain ⟨t12, m12⟩ := T.i_MOST_SHARE
  refine fd_ok T.f_is_share sc_is_share (fun vs H Q E h => ?_) (fun _ _ _ _ _ _ us hl => match us, hl with | [_, _], _ => rfl) (fun cdv A outer s H vs Q E hr h => ?_)
  · obtain ⟨a, c, rfl, _⟩ := h
    rfl
  · obtain ⟨a, c, rfl, q⟩ := h
    have hr1 : Room 1 _ := hr.mono (by decide)
    refine ⟨_, pss_one (ps_ret (pe_and (pe_call F1 hr rfl T.g_is_between k1 b1 .nil pass0 (pa_cons (pv 1) (pa_cons pe_int (pa_cons (pe_glob (v := .int 12) rfl m12 ⟨_, rfl⟩) pa_nil))))
      (pe_one (pe_cmpR op_eq (pe_call F2 hr1 rfl T.g_gcd k2 b2 .nil pass0 (pa_cons (pv 1) (pa_cons (pv 0) pa_nil))) pe_int (nomark _))))), ?_⟩
    refine ⟨_, rfl, (c : Int), 1, 12, rfl, _, rfl, ?_⟩
    have e1 : (decide ((1 : Int) ≤ (c : Int)) && decide ((c : Int) ≤ 12)) = (decide (1 ≤ c) && decide (c ≤ 12)) := by
      congr 1 <;> exact decide_eq_decide.mpr (by omega)
    rw [e1]
    unfold shareB at q
    cases e : (decide (1 ≤ c) && decide (c ≤ 12)) with
    | false =>
      rw [e] at q
      exact iteF q
    | true =>
      rw [e] at q
      refine iteT ⟨_, rfl, _, rfl, c, a, rfl, rfl, ?_⟩
      have e2 : decide (V.int ((Nat.gcd c a : Nat) : Int) = V.int 1) = decide (Nat.gcd c a = 1) := decide_eq_decide.mpr ⟨fun z => by injection z with z; omega, fun z => by rw [z]; rfl⟩
      rw [e2]
      exact q

/-! ### a rule -/
def CR (K : PySem.W.Frag) : Addr := He.ga K "Rule"
def rf4 (a b c : Int) (m : Addr) : List (Str × V) := [("parts", V.int a), ("first", V.int b), ("second", V.int c), ("moduli", V.ref m)]
theorem rf4_put (a b c : Int) (m : Addr) : putF "moduli" (.ref m) (putF "second" (.int c) (putF "first" (.int b) (putF "parts" (.int a) []))) = rf4 a b c m := by rfl
theorem rf4_parts (a b c : Int) (m : Addr) : (rf4 a b c m).lookup ("parts" : Str) = some (.int a) := by rfl
theorem rf4_first (a b c : Int) (m : Addr) : (rf4 a b c m).lookup ("first" : Str) = some (.int b) := by rfl
theorem rf4_second (a b c : Int) (m : Addr) : (rf4 a b c m).lookup ("second" : Str) = some (.int c) := by rfl
theorem rf4_moduli (a b c : Int) (m : Addr) : (rf4 a b c m).lookup ("moduli" : Str) = some (.ref m) := by rfl
/-- the divisors of a, ascending -/
def divs (a : Nat) : List V := given a (fun i => decide (a % (i + 1) = 0)) (fun i => V.int (1 + (i : Int)))
structure RuleAt (K : PySem.W.Frag) (H : Hp) (r : Addr) (a b c : Nat) : Prop where
  ex : ∃ dx m, H r = some (.ins (CR K) dx (rf4 a b c m)) ∧ H m = some (.tup (divs a))
def okRule (a b c : Nat) : Prop := (2 ≤ a ∧ a ≤ 12) ∧ shareB a b = true ∧ shareB a c = true
def spRuleInit (K : PySem.W.Frag) : Sp := fun vs H Q _ => ∃ (r dx : Addr) (a b c : Nat), vs = [.ref r, .int a, .int b, .int c] ∧ H r = some (.ins (CR K) dx []) ∧ okRule a b c ∧
  ∀ H', RuleAt K H' r a b c → (∀ x o, H x = some o → x ≠ r → H' x = some o) → Q .non H'
theorem sc_Rule_init : FnScope ["self", "parts", "first", "second", "share", "part"] ["self", "parts", "first", "second"] (defScope s_Rule_uuinit__) := ⟨rfl, rfl, rfl, by decide +kernel, rfl, by decide +kernel, by decide +kernel⟩
theorem ok_Rule_init (T : Txt K mg) : Ok P w K mg base 4 (He.ma K (He.ga K "Rule") "__init__") ["self", "parts", "first", "second"] (spRuleInit K) := by
  obtain ⟨fd1, F1, b1, k1, _⟩ := (ok_check_number (P := P) (w := w) (base := base) T).ex
  obtain ⟨fd2, F2, b2, k2, _⟩ := (ok_is_share (P := P) (w := w) (base := base) T).ex
  obtain ⟨t12, m12⟩ := T.i_MOST_PARTS
  refine fd_okD T.f_Rule_uuinit__ (by simp) sc_Rule_init (fun vs H Q E h => ?_) (fun _ _ _ _ _ _ _ us its hl hi => match us, hl, its, hi with | [_, _, _, _], _, [_, _], _ => ⟨_, rfl, rfl⟩) (fun cdv A outer s H vs Q E hr h => ?_)
  · obtain ⟨r, dx, a, b, c, rfl, _⟩ := h
    rfl
  · obtain ⟨r, dx, a, b, c, rfl, hr0, ⟨⟨ha1, ha2⟩, hb, hc⟩, q⟩ := h
    refine ⟨_, pss_cons (ps_expr (pe_call F1 hr rfl T.g_check_number k1 b1 .nil pass0 (pa_cons (pv 1) (pa_cons pe_int (pa_cons (pe_glob (v := .int 12) rfl m12 ⟨_, rfl⟩) pa_nil)))))
      (pss_cons (ps_for PassesOwn.never rfl (pi_tup (pe_tup (pa_cons (pv 2) (pa_cons (pv 3) pa_nil)))) (pg_name (i := 4) sc_Rule_init.nd rfl (Or.inl rfl))
        (pss_one (ps_if (pt_not (pt_val (pe_call F2 hr rfl T.g_is_share k2 b2 .nil pass0 (pa_cons (pv 1) (pa_cons (pv 4) pa_nil))))) (pss_one ps_never) pss_nil)))
      (pss_cons (ps_asg (pe_tup (pa_cons (pv 1) (pa_cons (pv 2) (pa_cons (pv 3) pa_nil)))) (pg_tup rfl (pgs_cons (pg_fld (pv 0)) (pgs_cons (pg_fld (pv 0)) (pgs_cons (pg_fld (pv 0)) pgs_nil)))))
      (pss_one (ps_fld (pv 0) (pe_callTy call_tuple_of rfl T.z_tuple (by decide +kernel) (pa_cons
        (pe_lc (own := [("part", 5)]) (g := gName 5) rfl sc_Rule_init.nd (pi_range2 rfl T.z_range (pa_cons pe_int (pa_cons (pe_op op_add (pv 1) pe_int) pa_nil))) (blkOk_by (own := [("part", 5)]) (N := ["self", "parts", "first", "second", "share", "part"]) (sc := defScope s_Rule_uuinit__) (by decide +kernel))
          (fun _ _ _ _ _ => pg_name (i := 5) sc_Rule_init.nd rfl (Or.inl rfl)) (fun _ _ _ _ _ => pts_one (pt_cmpR op_eq (pe_op op_mod (pe_callTy call_int1 rfl T.z_int (by decide +kernel) (pa_cons (pv 1) pa_nil)) (pv 5)) pe_int (nomark _)))
          (fun _ _ _ _ _ => pv 5)) pa_nil)) rfl)))), ?_⟩
    -- check_number(parts, 2, MOST_PARTS)
    refine ⟨_, rfl, (a : Int), 2, 12, rfl, ⟨by omega, by omega⟩, ?_⟩
    -- for share in (first, second)
    refine ⟨_, rfl, _, rfl, by show 2 ≤ sizeLine; decide, fun p hp => ⟨p, rfl, ⟨_, SqT.of upd_same⟩, ?_⟩⟩
    have npr : p ≠ r := (ne_of_none hr0 hp).symm
    refine for_tup (xs := [V.int b, V.int c]) (fun _ σ H' => ∃ v, σ = [some (.ref r), some (.int a), some (.int b), some (.int c), v, none] ∧ H' = upd H p (.tup [.int b, .int c])) ⟨_, rfl, rfl⟩ ?_ ?_ ?_
    · rintro i σ H' _ ⟨v, rfl, rfl⟩
      exact SqT.of upd_same
    · rintro i x σ H' hx ⟨v, rfl, rfl⟩
      obtain ⟨z, rfl, hz⟩ : ∃ z : Nat, x = V.int z ∧ shareB a z = true := by
        match i, hx with
        | 0, hx => cases hx; exact ⟨b, rfl, hb⟩
        | 1, hx => cases hx; exact ⟨c, rfl, hc⟩
      refine ⟨_, rfl, _, rfl, a, z, rfl, _, rfl, ?_⟩
      rw [hz]
      exact iteF ⟨_, rfl, rfl⟩
    · rintro σ H' ⟨v, rfl, rfl⟩
      -- the three fields
      refine ⟨_, rfl, _, rfl, _, rfl, by show 3 ≤ sizeLine; decide, fun t ht => ?_⟩
      have ntr : t ≠ r := fun e => by rw [e, upd_ne npr.symm, hr0] at ht; cases ht
      have ntp : t ≠ p := fun e => by rw [e, upd_same] at ht; cases ht
      have h1 : upd (upd H p (.tup [.int b, .int c])) t (.tup [.int a, .int b, .int c]) r = some (.ins (CR K) dx []) := by rw [upd_ne ntr.symm, upd_ne npr.symm]; exact hr0
      have k3 : ∀ x o, (H x = some o ∨ x = t ∧ o = .tup [.int a, .int b, .int c]) → upd (upd H p (.tup [.int b, .int c])) t (.tup [.int a, .int b, .int c]) x = some o := fun x o e => by
        rcases e with e | ⟨rfl, rfl⟩
        · have e1 : upd H p (.tup [.int b, .int c]) x = some o := by rw [upd_ne (ne_of_none e hp)]; exact e
          rw [upd_ne (ne_of_none e1 ht)]
          exact e1
        · exact upd_same
      generalize upd (upd H p (.tup [.int b, .int c])) t (.tup [.int a, .int b, .int c]) = H3 at h1 k3 ⊢
      refine ⟨t, _, rfl, SqT.of (k3 t _ (.inr ⟨rfl, rfl⟩)), rfl, _, _, rfl, ⟨_, rfl, r, CR K, dx, _, rfl, h1, T.c_Rule, T.n_Rule_parts, by show 0 < 1000; decide, ?_⟩⟩
      refine ⟨_, _, rfl, ⟨_, rfl, r, CR K, dx, _, rfl, upd_same, T.c_Rule, T.n_Rule_first, by show 1 < 1000; decide, ?_⟩⟩
      refine ⟨_, _, rfl, ⟨_, rfl, r, CR K, dx, _, rfl, upd_same, T.c_Rule, T.n_Rule_second, by show 2 < 1000; decide, rfl, ?_⟩⟩
      rw [upd_upd, upd_upd]
      generalize hH4 : upd H3 r (.ins (CR K) dx (putF "second" (.int c) (putF "first" (.int b) (putF "parts" (.int a) [])))) = H4
      have h4 : H4 r = some (.ins (CR K) dx (putF "second" (.int c) (putF "first" (.int b) (putF "parts" (.int a) [])))) := by rw [← hH4]; exact upd_same
      have k4 : ∀ x o, H x = some o → x ≠ r → H4 x = some o := fun x o e ne => by rw [← hH4, upd_ne ne]; exact k3 x o (.inl e)
      -- the comprehension
      refine ⟨_, rfl, _, _, rfl, rfl, 1, (a : Int) + 1, rfl, ⟨by omega, by omega, by omega, by omega⟩, fun D hD => ?_⟩
      refine lc_range (lo := 1) (n := ((a : Int) + 1 - 1).toNat) (Cw H4 (fun i => decide (a % (i + 1) = 0)) (fun i => V.int (1 + (i : Int))) D) ⟨hD, Ex.new hD, upd_same⟩ (fun i H5 hi p => ?_) (fun H5 p => ?_)
      · refine ⟨rfl, cw_turn p (by omega) (fun H1 e Q q => ?_) (fun _ H1 e Q q => ⟨_, rfl, q H1 (Ex.refl H1)⟩)⟩
        refine ⟨_, rfl, .inl ⟨_, rfl, _, rfl, _, _, rfl, rfl, by omega, ?_⟩⟩
        refine ⟨rfl, _, rfl, ?_⟩
        have e0 : (a : Int) % (1 + (i : Int)) = ((a % (i + 1) : Nat) : Int) := by
          rw [show (1 + (i : Int)) = ((i + 1 : Nat) : Int) by omega]
          exact (Int.natCast_emod a (i + 1)).symm
        have e2 : decide (V.int ((a : Int) % (1 + (i : Int))) = V.int 0) = decide (a % (i + 1) = 0) := by
          rw [e0]
          exact decide_eq_decide.mpr ⟨fun z => by injection z with z; exact Int.ofNat.inj z, fun z => by rw [z]; rfl⟩
        rw [e2]
        exact q H1 (Ex.refl H1)
      · obtain ⟨p1, p2, p3⟩ := p
        have eN : ((a : Int) + 1 - 1).toNat = a := by omega
        rw [eN] at p3
        refine ⟨D, _, rfl, .inl ⟨SqL.of p3, fun l hl => ?_⟩⟩
        have hr5 := p2 r _ h4
        have nlr : l ≠ r := (ne_of_none hr5 hl).symm
        refine ⟨_, rfl, r, CR K, dx, _, rfl, by rw [upd_ne nlr.symm]; exact hr5, T.c_Rule, T.n_Rule_moduli, by show 3 < 1000; decide, ?_⟩
        rw [rf4_put]
        refine q _ ⟨dx, l, upd_same, by rw [upd_ne nlr, upd_same]; rfl⟩ fun x o e ne => ?_
        have e5 := p2 x o (k4 x o e ne)
        rw [upd_ne ne, upd_ne (ne_of_none e5 hl)]
        exact e5
end
end K75

set_option Elab.async false
set_option linter.all false
set_option maxRecDepth 100000
set_option maxHeartbeats 4000000
namespace K75
open PySem PySem.Spec PyProof.Rows L2 Bk Evl
/-! ### heaps -/
section
variable {K : PySem.W.Frag}
def Ext (H H' : Hp) : Prop := ∀ x o, H x = some o → H' x = some o
theorem Ext.refl (H : Hp) : Ext H H := fun _ _ e => e
theorem Ext.trans {H1 H2 H3 : Hp} (a : Ext H1 H2) (b : Ext H2 H3) : Ext H1 H3 := fun x o e => b x o (a x o e)
theorem Ext.new {H : Hp} {p : Addr} (h : H p = none) (o : HO) : Ext H (upd H p o) := fun x o' e => by rw [upd_ne (ne_of_none e h)]; exact e
/-- an object that H does not know may change -/
theorem Ext.mut {H H' : Hp} {p : Addr} (e : Ext H H') (h : H p = none) (o : HO) : Ext H (upd H' p o) := fun x u a => by
  rw [upd_ne (ne_of_none a h)]
  exact e x u a
def But (b : Addr) (H H' : Hp) : Prop := ∀ x o, H x = some o → x ≠ b → H' x = some o
theorem Ext.but {H H' : Hp} (k : Ext H H') (b : Addr) : But b H H' := fun x o e _ => k x o e
theorem But.refl (b : Addr) (H : Hp) : But b H H := fun _ _ e _ => e
theorem But.trans {b : Addr} {H1 H2 H3 : Hp} (k : But b H1 H2) (j : But b H2 H3) : But b H1 H3 := fun x o e n => j x o (k x o e n) n
theorem sql_at {H H' : Hp} {a : Addr} {xs : List V} (h : SqL K H a xs) (k : ∀ o, H a = some o → H' a = some o) : SqL K H' a xs := by
  rcases h with (h | ⟨o, h⟩) | h
  · exact .inl (.inl (k _ h))
  · exact .inl (.inr ⟨o, k _ h⟩)
  · exact .inr h
theorem sqt_at {H H' : Hp} {a : Addr} {xs : List V} (h : SqT K H a xs) (k : ∀ o, H a = some o → H' a = some o) : SqT K H' a xs := by
  rcases h with (h | ⟨o, h⟩) | h
  · exact .inl (.inl (k _ h))
  · exact .inl (.inr ⟨o, k _ h⟩)
  · exact .inr h
theorem sqt_ext {H H' : Hp} {a : Addr} {xs : List V} (h : SqT K H a xs) (k : Ext H H') : SqT K H' a xs := sqt_at h fun o e => k _ o e
theorem sql_ext {H H' : Hp} {a : Addr} {xs : List V} (h : SqL K H a xs) (k : Ext H H') : SqL K H' a xs := sql_at h fun o e => k _ o e
theorem tyx_tup {H : Hp} {a : Addr} {xs : List V} (h : SqT K H a xs) : TyX K H (.ref a) (.type "tuple") := by
  rcases h with (h | ⟨o, h⟩) | ⟨o, its, n, lk, c, _⟩
  · exact .base (.tup h)
  · exact .fTuple h
  · exact .kTuple lk c
theorem kit_tt : PySem.W.kitOne K (.type "tuple") (.type "tuple") = some true := by rfl
theorem kit_self (C : Addr) : PySem.W.kitOne K (.ref C) (.ref C) = some true := by
  unfold PySem.W.kitOne
  rw [if_pos (by simp)]
theorem ru {k : Nat} {A : Around} (h : Room k A) : A.units + 1 < cLine := by have := h.units; omega
theorem small_line {n : Nat} (h : n ≤ 1000) : n ≤ sizeLine := Nat.le_trans h (by decide)
theorem small_lt {n : Nat} (h : n < 100000) : n < sizeLine := Nat.lt_of_lt_of_le h (by decide)
/-! ### tuples of pairs of ints -/
abbrev Prs : Type := List (Int × Int)
def PairsAt (K : PySem.W.Frag) (H : Hp) (t : Addr) (l : Prs) : Prop := ∃ ps : List Addr, PlT K H t (ps.map V.ref) ∧ Paired (fun p (q : Int × Int) => SqT K H p [.int q.1, .int q.2]) ps l
theorem PairsAt.sq {H : Hp} {t : Addr} {l : Prs} (p : PairsAt K H t l) : ∃ ps : List Addr, SqT K H t (ps.map V.ref) ∧ Paired (fun p (q : Int × Int) => SqT K H p [.int q.1, .int q.2]) ps l :=
  let ⟨ps, h1, h2⟩ := p
  ⟨ps, h1.sqt, h2⟩
theorem PairsAt.ext {H H' : Hp} {t : Addr} {l : Prs} (p : PairsAt K H t l) (k : Ext H H') : PairsAt K H' t l := by
  obtain ⟨ps, h1, h2⟩ := p
  exact ⟨ps, h1.mono fun o u e => k _ _ e, L2.Paired.mapP h2 fun _ _ z => sqt_ext z k⟩
theorem paired_at {α β : Type} {F : α → β → Prop} : ∀ {xs : List α} {ys : List β}, Paired F xs ys → ∀ (i : Nat) (x : α), xs[i]? = some x → ∃ y, ys[i]? = some y ∧ F x y
  | _, _, .nil, i, x, h => by simp at h
  | _, _, .cons a t, 0, x, h => ⟨_, rfl, by simp at h; rw [← h]; exact a⟩
  | _, _, .cons a t, i + 1, x, h => by
    obtain ⟨y, h1, h2⟩ := paired_at t i x (by simpa using h)
    exact ⟨y, by simpa using h1, h2⟩
end
section
variable {P : Program} {w : World} {K : PySem.W.Frag} {mg : Str → Option Value} {base : Heap}
/-! ### check_rule, check_value, check_pair -/
def CN (K : PySem.W.Frag) : Addr := He.ga K "Number"
def nf (t : Addr) (v : V) : List (Str × V) := [("factors", V.ref t), ("value", v)]
theorem nf_put (t : Addr) (v : V) : putF "value" v (putF "factors" (.ref t) []) = nf t v := by rfl
theorem nf_put2 (t t' : Addr) (v v' : V) : putF "value" v' (putF "factors" (.ref t') (nf t v)) = nf t' v' := by rfl
theorem nf_factors (t : Addr) (v : V) : (nf t v).lookup ("factors" : Str) = some (.ref t) := by rfl
theorem nf_value (t : Addr) (v : V) : (nf t v).lookup ("value" : Str) = some v := by rfl
/-- a Number with factors l and a value -/
structure NumAt (K : PySem.W.Frag) (H : Hp) (n : Addr) (l : Prs) (v : V) : Prop where
  ex : ∃ dx t, H n = some (.ins (CN K) dx (nf t v)) ∧ PairsAt K H t l
theorem NumAt.ext {H H' : Hp} {n : Addr} {l : Prs} {v : V} (N : NumAt K H n l v) (k : Ext H H') : NumAt K H' n l v := by
  obtain ⟨dx, t, h1, h2⟩ := N.ex
  exact ⟨dx, t, k _ _ h1, h2.ext k⟩
theorem RuleAt.ext {H H' : Hp} {r : Addr} {a b c : Nat} (R : RuleAt K H r a b c) (k : Ext H H') : RuleAt K H' r a b c := by
  obtain ⟨dx, m, h1, h2⟩ := R.ex
  exact ⟨dx, m, k _ _ h1, k _ _ h2⟩
end
end K75

set_option Elab.async false
set_option linter.all false
set_option maxRecDepth 100000
set_option maxHeartbeats 4000000
namespace K75
open PySem PySem.Spec PyProof.Rows L2 Bk Evl
/-! ### primes -/
def primeGo (v : Nat) : Nat → Nat → Bool
  | 0, _ => true
  | f + 1, p => if p * p ≤ v then (if v % p = 0 then false else primeGo v f (p + 2)) else true
def primeB (v : Nat) : Bool := if v < 4 then decide (1 < v) else if v % 2 = 0 then false else primeGo v 500 3
section
variable {P : Program} {w : World} {K : PySem.W.Frag} {mg : Str → Option Value} {base : Heap}
def spIsPrime : Sp := fun vs H Q _ => ∃ n : Nat, vs = [.int n] ∧ n ≤ 1000000 ∧ Q (.bl (primeB n)) H
theorem sc_is_prime : FnScope ["value", "part"] ["value"] (defScope s_is_prime) := ⟨rfl, rfl, rfl, by decide +kernel, rfl, by decide +kernel, by decide +kernel⟩
theorem ok_is_prime (T : Txt K mg) : Ok P w K mg base 1 (He.ga K "is_prime") ["value"] spIsPrime := by
  refine fd_ok T.f_is_prime sc_is_prime (fun vs H Q E h => ?_) (fun _ _ _ _ _ _ us hl => match us, hl with | [_], _ => rfl) (fun cdv A outer s H vs Q E hr h => ?_)
  · obtain ⟨n, rfl, _⟩ := h
    rfl
  · obtain ⟨n, rfl, hn, q⟩ := h
    have nd := sc_is_prime.nd
    refine ⟨_, pss_cons (ps_if (pt_cmpR op_lt (pv 0) pe_int (nomark _)) (pss_one (ps_ret (pe_cmpR op_gt (pv 0) pe_int (nomark _)))) pss_nil)
      (pss_cons (ps_if (pt_cmpR op_eq (pe_op op_mod (pe_callTy call_int1 rfl T.z_int (by decide +kernel) (pa_cons (pv 0) pa_nil)) pe_int) pe_int (nomark _)) (pss_one (ps_ret pe_bl)) pss_nil)
      (pss_cons (ps_set (i := 1) nd rfl (Or.inl rfl) pe_int)
      (pss_cons (ps_while PassesOwn.never (pt_cmpR op_le (pe_op op_mul (pv 1) (pv 1)) (pv 0) (nomark _))
        (pss_cons (ps_if (pt_cmpR op_eq (pe_op op_mod (pe_callTy call_int1 rfl T.z_int (by decide +kernel) (pa_cons (pv 0) pa_nil)) (pv 1)) pe_int (nomark _)) (pss_one (ps_ret pe_bl)) pss_nil)
        (pss_one (ps_set (i := 1) nd rfl (Or.inl rfl) (pe_op op_add (pv 1) pe_int)))))
      (pss_one (ps_ret pe_bl))))), ?_⟩
    unfold primeB at q
    refine ⟨_, rfl, _, _, rfl, rfl, _, rfl, ?_⟩
    refine ite2 (fun h4 => ?_) (fun h4 => ?_)
    · have h4' : n < 4 := by have := of_decide_eq_true h4; omega
      rw [if_pos h4'] at q
      refine ⟨_, rfl, _, _, rfl, rfl, ?_⟩
      rw [show decide (1 < n) = decide ((1 : Int) < (n : Int)) from decide_eq_decide.mpr (by omega)] at q
      exact q
    · have h4' : ¬ n < 4 := fun z => h4 (decide_eq_true (by omega))
      rw [if_neg h4'] at q
      refine ⟨_, rfl, .inl ⟨_, rfl, _, _, rfl, rfl, (show (0 : Int) < 2 by decide), rfl, _, rfl, ?_⟩⟩
      have em : ∀ p : Nat, decide (V.int ((n : Int) % (p : Int)) = V.int 0) = decide (n % p = 0) := fun p => by
        rw [show (n : Int) % (p : Int) = ((n % p : Nat) : Int) from (Int.natCast_emod n p).symm]
        exact decide_eq_decide.mpr ⟨fun z => by injection z with z; exact Int.ofNat.inj z, fun z => by rw [z]; rfl⟩
      have e2 := em 2
      show if decide (V.int ((n : Int) % ((2 : Nat) : Int)) = V.int 0) = true then _ else _
      rw [e2]
      refine ite2 (fun hm => ?_) (fun hm => ?_)
      · rw [if_pos (of_decide_eq_true hm)] at q
        exact q
      · rw [if_neg (fun z => hm (decide_eq_true z))] at q
        refine ⟨fun m σ H' => ∃ p f : Nat, σ = [some (.int n), some (.int p)] ∧ H' = H ∧ 3 ≤ p ∧ p ≤ 1003 ∧ 1003 ≤ 2 * f + p ∧ m = f ∧ Q (.bl (primeGo n f p)) H, ⟨500, 3, 500, rfl, rfl, by omega, by omega, by omega, rfl, q⟩, ?_⟩
        rintro m σ H' ⟨p, f, rfl, rfl, hp, hp2, hf, rfl, q'⟩
        refine ⟨_, rfl, _, rfl, _, _, rfl, rfl, .inl ⟨by omega, by omega⟩, _, rfl, _, _, rfl, rfl, _, rfl, ?_⟩
        have epp : ((p : Int) * (p : Int)) = ((p * p : Nat) : Int) := (Int.natCast_mul p p).symm
        refine ite2 (fun hle => ?_) (fun hle => ?_)
        · have hle' : p * p ≤ n := by have := of_decide_eq_true hle; rw [epp] at this; omega
          have hp3 : p ≤ 1000 := by
            refine Classical.byContradiction fun z => ?_
            have : 1001 * 1001 ≤ p * p := Nat.mul_le_mul (by omega) (by omega)
            omega
          obtain ⟨f', rfl⟩ : ∃ f', m = f' + 1 := ⟨m - 1, by omega⟩
          unfold primeGo at q'
          rw [if_pos hle'] at q'
          refine ⟨fun σ H2 => ∃ p f : Nat, σ = [some (.int n), some (.int p)] ∧ H2 = H' ∧ 3 ≤ p ∧ p ≤ 1003 ∧ 1003 ≤ 2 * f + p ∧ f < f' + 1 ∧ Q (.bl (primeGo n f p)) H', fun σ H2 ⟨p, f, x1, x2, x3, x4, x5, x6, x7⟩ => ⟨f, x6, p, f, x1, x2, x3, x4, x5, rfl, x7⟩, ?_⟩
          refine ⟨_, rfl, .inl ⟨_, rfl, _, rfl, _, _, rfl, rfl, by omega, rfl, _, rfl, ?_⟩⟩
          rw [em p]
          refine ite2 (fun h0 => ?_) (fun h0 => ?_)
          · rw [if_pos (of_decide_eq_true h0)] at q'
            exact q'
          · rw [if_neg (fun z => h0 (decide_eq_true z))] at q'
            exact ⟨_, rfl, _, _, rfl, rfl, p + 2, f', rfl, rfl, by omega, by omega, by omega, by omega, q'⟩
        · have hle' : ¬ p * p ≤ n := fun z => hle (decide_eq_true (by rw [epp]; omega))
          have : primeGo n m p = true := by
            unfold primeGo
            cases m with
            | zero => rfl
            | succ k => exact if_neg hle'
          rw [this] at q'
          exact q'
end
end K75

set_option Elab.async false
set_option linter.all false
set_option maxRecDepth 100000
set_option maxHeartbeats 4000000
namespace K75
open PySem PySem.Spec PyProof.Rows L2 Bk Evl
/-! ### factors that are let -/
def FacOne (q : Int × Int) : Prop := ∃ p : Nat, q.1 = p ∧ 2 ≤ p ∧ p ≤ 1000000 ∧ primeB p = true ∧ 1 ≤ q.2 ∧ q.2 ≤ 10 ^ 30
structure FacOk (l : Prs) : Prop where
  len : l.length ≤ 12
  one : ∀ q ∈ l, FacOne q
  asc : l.Pairwise fun a b => a.1 < b.1
/-- the product of the factors -/
def prodP (l : Prs) : Int := l.foldl (fun a q => a * q.1 ^ q.2.toNat) 1
def valueP (l : Prs) : V := if l.any (fun q => decide (100 < q.2)) = true then .non else if prodP l ≤ 10 ^ 30 then .int (prodP l) else .non
section
variable {P : Program} {w : World} {K : PySem.W.Frag} {mg : Str → Option Value} {base : Heap}
def spIsFactor (K : PySem.W.Frag) : Sp := fun vs H Q _ => ∃ (p : Addr) (q : Int × Int), vs = [.ref p] ∧ SqT K H p [.int q.1, .int q.2] ∧ FacOne q ∧ Q (.bl true) H
theorem sc_is_factor : FnScope ["value"] ["value"] (defScope s_is_factor) := ⟨rfl, rfl, rfl, by decide +kernel, rfl, by decide +kernel, by decide +kernel⟩
theorem ok_is_factor (T : Txt K mg) : Ok P w K mg base 3 (He.ga K "is_factor") ["value"] (spIsFactor K) := by
  obtain ⟨fd_is_between, F_is_between, b_is_between, k_is_between, _⟩ := (ok_is_between (P := P) (w := w) (base := base) T).ex
  obtain ⟨fd_is_prime, F_is_prime, b_is_prime, k_is_prime, _⟩ := (ok_is_prime (P := P) (w := w) (base := base) T).ex
  obtain ⟨t_MOST_PRIME, m_MOST_PRIME⟩ := T.i_MOST_PRIME
  obtain ⟨t_MOST_EXPONENT, m_MOST_EXPONENT⟩ := T.i_MOST_EXPONENT
  refine fd_ok T.f_is_factor sc_is_factor (fun vs H Q E h => ?_) (fun _ _ _ _ _ _ us hl => match us, hl with | [_], _ => rfl) (fun cdv A outer s H vs Q E hr h => ?_)
  · obtain ⟨p, q, rfl, _⟩ := h
    rfl
  · obtain ⟨p, ⟨q1, q2⟩, rfl, hp, ⟨n, e, n1, n2, n3, n4, n5⟩, q⟩ := h
    have nd := sc_is_factor.nd
    refine ⟨_, (pss_cons (ps_if (PW.pt (pw_or (pt_not (pt_val (pe_callB call_isi rfl T.z_isinstance (by decide +kernel) (pa_cons (pv 0) (pa_cons (pe_bltn rfl T.z_tuple (by decide +kernel) (v := .ty "tuple") rfl) pa_nil))))) (pw_or (pt_cmpR op_ne (pe_callB call_len_seq rfl T.z_len (by decide +kernel) (pa_cons (pv 0) pa_nil)) pe_int (nomark _)) (pw_or1 (pt_not (pt_val (pe_call F_is_between (hr.mono (by decide)) rfl T.g_is_between k_is_between b_is_between .nil pass0 (pa_cons (pe_ix ix_tup (pv 0) pe_int (by intro _ _; rfl)) (pa_cons pe_int (pa_cons (pe_glob (v := .int 1000000) rfl m_MOST_PRIME ⟨_, rfl⟩) pa_nil)))))))))) (pss_one (ps_ret pe_bl)) pss_nil) (pss_one (ps_ret (pe_and (pe_call F_is_between (hr.mono (by decide)) rfl T.g_is_between k_is_between b_is_between .nil pass0 (pa_cons (pe_ix ix_tup (pv 0) pe_int (by intro _ _; rfl)) (pa_cons pe_int (pa_cons (pe_glob (v := .int (10 ^ 30)) rfl m_MOST_EXPONENT ⟨_, rfl⟩) pa_nil)))) (pe_one (pe_call F_is_prime (hr.mono (by decide)) rfl T.g_is_prime k_is_prime b_is_prime .nil pass0 (pa_cons (pe_ix ix_tup (pv 0) pe_int (by intro _ _; rfl)) pa_nil))))))), ?_⟩
    dsimp only at e n4 n5 hp
    subst e
    refine ⟨_, rfl, _, _, _, _, true, rfl, .ty _, tyx_tup hp, kit_tt, true, rfl, iteF ?_⟩
    refine ⟨_, rfl, p, _, rfl, .inr hp, rfl, _, rfl, iteF ?_⟩
    refine ⟨_, rfl, p, _, 0, _, rfl, rfl, hp, rfl, (n : Int), 2, 1000000, rfl, _, rfl, ?_⟩
    rw [decide_eq_true (show (2 : Int) ≤ n by omega), decide_eq_true (show (n : Int) ≤ 1000000 by omega)]
    refine iteF ?_
    refine ⟨_, rfl, p, _, 1, _, rfl, rfl, hp, rfl, q2, 1, 10 ^ 30, rfl, _, rfl, ?_⟩
    rw [decide_eq_true n4, decide_eq_true n5]
    refine iteT ⟨_, rfl, p, _, 0, _, rfl, rfl, hp, rfl, n, rfl, n2, ?_⟩
    rw [n3]
    exact q

/-! ### check_factors -/
def spCheckFac (K : PySem.W.Frag) : Sp := fun vs H Q _ => ∃ (t : Addr) (l : Prs), vs = [.ref t] ∧ PairsAt K H t l ∧ FacOk l ∧ ∀ H', Ext H H' → Q .non H'
theorem sc_check_factors : FnScope ["factors", "last", "index", "factor"] ["factors"] (defScope s_check_factors) := ⟨rfl, rfl, rfl, by decide +kernel, rfl, by decide +kernel, by decide +kernel⟩
theorem ok_check_factors (T : Txt K mg) : Ok P w K mg base 4 (He.ga K "check_factors") ["factors"] (spCheckFac K) := by
  obtain ⟨fd_is_factor, F_is_factor, b_is_factor, k_is_factor, _⟩ := (ok_is_factor (P := P) (w := w) (base := base) T).ex
  obtain ⟨t_MOST_PRIMES, m_MOST_PRIMES⟩ := T.i_MOST_PRIMES
  refine fd_ok T.f_check_factors sc_check_factors (fun vs H Q E h => ?_) (fun _ _ _ _ _ _ us hl => match us, hl with | [_], _ => rfl) (fun cdv A outer s H vs Q E hr h => ?_)
  · obtain ⟨t, l, rfl, _⟩ := h
    rfl
  · obtain ⟨t, l, rfl, hp, ok, q⟩ := h
    have nd := sc_check_factors.nd
    refine ⟨_, (pss_cons (ps_if (pt_not (pt_val (pe_callB call_isi rfl T.z_isinstance (by decide +kernel) (pa_cons (pv 0) (pa_cons (pe_bltn rfl T.z_tuple (by decide +kernel) (v := .ty "tuple") rfl) pa_nil))))) (pss_one ps_never) pss_nil) (pss_cons (ps_set (i := 1) nd rfl (Or.inl rfl) pe_int) (pss_one (ps_for PassesOwn.never rfl (pi_enumT rfl T.z_enumerate (pa_cons (pv 0) pa_nil)) (pg_tup rfl (pgs_cons (pg_name (i := 2) nd rfl (Or.inl rfl)) (pgs_cons (pg_name (i := 3) nd rfl (Or.inl rfl)) pgs_nil))) (pss_cons (ps_if (PW.pt (pw_or (pt_cmpR op_eq (pv 2) (pe_glob (v := .int 12) rfl m_MOST_PRIMES ⟨_, rfl⟩) (nomark _)) (pw_or (pt_not (pt_val (pe_call F_is_factor (hr.mono (by decide)) rfl T.g_is_factor k_is_factor b_is_factor .nil pass0 (pa_cons (pv 3) pa_nil)))) (pw_or1 (pt_cmpR op_le (pe_ix ix_tup (pv 3) pe_int (by intro _ _; rfl)) (pv 1) (nomark _)))))) (pss_one ps_never) pss_nil) (pss_one (ps_set (i := 1) nd rfl (Or.inl rfl) (pe_ix ix_tup (pv 3) pe_int (by intro _ _; rfl))))))))), ?_⟩
    obtain ⟨ps, h1, h2⟩ := hp.sq
    have hlen : (ps.map V.ref).length = l.length := by rw [List.length_map, h2.length]
    refine ⟨_, rfl, _, _, _, _, true, rfl, .ty _, tyx_tup h1, kit_tt, true, rfl, iteF ?_⟩
    refine ⟨_, rfl, t, ps.map V.ref, rfl, h1, ?_⟩
    refine for_enumT (xs := ps.map V.ref) (fun i σ H' => ∃ (last : Int) (u v : Option V), σ = [some (.ref t), some (.int last), u, v] ∧ Ext H H' ∧ (∀ (j : Nat) (q : Int × Int), i ≤ j → l[j]? = some q → last < q.1)) ⟨1, _, _, rfl, Ext.refl H, fun j q _ hq => ?_⟩ ?_ ?_ ?_
    · obtain ⟨n, e, n1, _⟩ := ok.one q (List.mem_of_getElem? hq)
      rw [e]
      omega
    · rintro i σ H' _ ⟨last, u, v, rfl, e, _⟩
      exact sqt_ext h1 e
    · rintro i x T' σ H' hx ⟨last, u, v, rfl, e, hlast⟩ hT
      rw [List.getElem?_map] at hx
      obtain ⟨p, hpi, rfl⟩ := Option.map_eq_some_iff.mp hx
      obtain ⟨qq, hq, hsq⟩ := paired_at h2 i p hpi
      have e2 := e.trans (Ext.new hT (.tup [.int (i : Nat), .ref p]))
      have il : i < l.length := (List.getElem?_eq_some_iff.mp hq).1
      have ol := ok.len
      refine ⟨T', _, rfl, SqT.of upd_same, rfl, _, _, rfl, _, _, rfl, rfl, ?_⟩
      refine ⟨_, rfl, rfl, _, rfl, ?_⟩
      rw [decide_eq_false (show ¬ (V.int (i : Nat) = V.int 12) from fun z => by injection z with z; omega)]
      refine iteF ⟨_, rfl, p, qq, rfl, sqt_ext hsq e2, ok.one qq (List.mem_of_getElem? hq), _, rfl, iteF ?_⟩
      refine ⟨_, rfl, p, _, 0, _, rfl, rfl, sqt_ext hsq e2, rfl, _, rfl, _, _, rfl, rfl, _, rfl, ?_⟩
      rw [decide_eq_false (show ¬ qq.1 ≤ last by have := hlast i qq (Nat.le_refl i) hq; omega)]
      refine iteF ⟨_, rfl, p, _, 0, _, rfl, rfl, sqt_ext hsq e2, rfl, ?_⟩
      refine ⟨qq.1, _, _, rfl, e2, fun j q' hj hq' => ?_⟩
      have hj' : j < l.length := (List.getElem?_eq_some_iff.mp hq').1
      have a1 : l[i] = qq := (List.getElem?_eq_some_iff.mp hq).2
      have a2 : l[j] = q' := (List.getElem?_eq_some_iff.mp hq').2
      rw [← a1, ← a2]
      exact List.pairwise_iff_getElem.mp ok.asc i j il hj' (by omega)
    · rintro σ H' ⟨last, u, v, rfl, e, _⟩
      exact q H' e
end
end K75

set_option Elab.async false
set_option linter.all false
set_option maxRecDepth 100000
set_option maxHeartbeats 4000000
namespace K75
open PySem PySem.Spec PyProof.Rows L2 Bk Evl
theorem prodP_take (l : Prs) (i : Nat) (q : Int × Int) (h : l[i]? = some q) : prodP (l.take (i + 1)) = prodP (l.take i) * q.1 ^ q.2.toNat := by
  unfold prodP
  rw [List.take_add_one, h, List.foldl_append]
  rfl
section
variable {P : Program} {w : World} {K : PySem.W.Frag} {mg : Str → Option Value} {base : Heap}
/-! ### value_of -/
def spValueOf (K : PySem.W.Frag) : Sp := fun vs H Q _ => ∃ (t : Addr) (l : Prs), vs = [.ref t] ∧ PairsAt K H t l ∧ (∀ q ∈ l, FacOne q) ∧ Q (valueP l) H
theorem sc_value_of : FnScope ["factors", "found", "prime", "exponent", "step"] ["factors"] (defScope s_value_of) := ⟨rfl, rfl, rfl, by decide +kernel, rfl, by decide +kernel, by decide +kernel⟩
theorem ok_value_of (T : Txt K mg) : Ok P w K mg base 1 (He.ga K "value_of") ["factors"] (spValueOf K) := by
  obtain ⟨t_LONG_EXPONENT, m_LONG_EXPONENT⟩ := T.i_LONG_EXPONENT
  obtain ⟨t_MOST_VALUE, m_MOST_VALUE⟩ := T.i_MOST_VALUE
  refine fd_ok T.f_value_of sc_value_of (fun vs H Q E h => ?_) (fun _ _ _ _ _ _ us hl => match us, hl with | [_], _ => rfl) (fun cdv A outer s H vs Q E hr h => ?_)
  · obtain ⟨t, l, rfl, _⟩ := h
    rfl
  · obtain ⟨t, l, rfl, hp, ok, q⟩ := h
    have nd := sc_value_of.nd
    refine ⟨_, (pss_cons (ps_set (i := 1) nd rfl (Or.inl rfl) pe_int) (pss_cons (ps_for PassesOwn.never rfl (pi_tup (pv 0)) (pg_tup rfl (pgs_cons (pg_name (i := 2) nd rfl (Or.inl rfl)) (pgs_cons (pg_name (i := 3) nd rfl (Or.inl rfl)) pgs_nil))) (pss_cons (ps_if (pt_cmpR op_gt (pv 3) (pe_glob (v := .int 100) rfl m_LONG_EXPONENT ⟨_, rfl⟩) (nomark _)) (pss_one (ps_ret pe_non)) pss_nil) (pss_one (ps_for PassesOwn.never rfl (pi_range1 rfl T.z_range (pa_cons (pv 3) pa_nil)) (pg_name (i := 4) nd rfl (Or.inl rfl)) (pss_one (ps_set (i := 1) nd rfl (Or.inl rfl) (pe_op op_mul (pv 1) (pv 2)))))))) (pss_one (ps_ret (pe_ifExp (pt_cmpR op_le (pv 1) (pe_glob (v := .int (10 ^ 30)) rfl m_MOST_VALUE ⟨_, rfl⟩) (nomark _)) (pv 1) pe_non))))), ?_⟩
    obtain ⟨ps, h1, h2⟩ := hp.sq
    refine ⟨_, rfl, t, rfl, ⟨_, h1⟩, ?_⟩
    refine for_tup (xs := ps.map V.ref) (fun i σ H' => ∃ (u v x : Option V), σ = [some (.ref t), some (.int (prodP (l.take i))), u, v, x] ∧ H' = H ∧ ∀ q ∈ l.take i, q.2 ≤ 100) ⟨_, _, _, rfl, rfl, fun q h => by simp at h⟩ ?_ ?_ ?_
    · rintro i σ H' _ ⟨u, v, x, rfl, rfl, _⟩
      exact h1
    · rintro i x σ H' hx ⟨u, v, y, rfl, rfl, hs⟩
      rw [List.getElem?_map] at hx
      obtain ⟨p, hpi, rfl⟩ := Option.map_eq_some_iff.mp hx
      obtain ⟨⟨q1, q2⟩, hq, hsq⟩ := paired_at h2 i p hpi
      have hm := List.mem_of_getElem? hq
      obtain ⟨n, e, n1, n2, n3, n4, n5⟩ := ok _ hm
      dsimp only at e n4 n5 hsq
      subst e
      refine ⟨p, _, rfl, hsq, rfl, _, _, rfl, _, _, rfl, rfl, ?_⟩
      refine ⟨_, rfl, _, _, rfl, rfl, _, rfl, ?_⟩
      refine ite2 (fun hg => ?_) (fun hg => ?_)
      · have hg' : 100 < q2 := of_decide_eq_true hg
        have hv : valueP l = .non := by
          unfold valueP
          rw [if_pos (List.any_eq_true.mpr ⟨_, hm, decide_eq_true hg'⟩)]
        rw [hv] at q
        exact q
      · have hg' : q2 ≤ 100 := Int.not_lt.mp fun z => hg (decide_eq_true z)
        refine ⟨_, rfl, q2, rfl, by omega, by omega, ?_⟩
        refine for_range (fun j σ H2 => ∃ y, σ = [some (.ref t), some (.int (prodP (l.take i) * (n : Int) ^ j)), some (.int n), some (.int q2), y] ∧ H2 = H') ⟨_, by rw [Int.pow_zero, Int.mul_one]; rfl, rfl⟩ ?_ ?_
        · rintro j σ H' hj ⟨y, rfl, rfl⟩
          refine ⟨_, rfl, _, rfl, _, _, rfl, rfl, .inr ⟨by omega, by omega⟩, ?_⟩
          refine ⟨some (.int (0 + (j : Int))), ?_, rfl⟩
          rw [Int.pow_succ, ← Int.mul_assoc]
          rfl
        · rintro σ H' ⟨y, rfl, rfl⟩
          refine ⟨some (.int n), some (.int q2), y, ?_, rfl, fun q' hq' => ?_⟩
          · rw [prodP_take l i _ hq]
          · rw [List.take_add_one, hq] at hq'
            rcases List.mem_append.mp hq' with h | h
            · exact hs q' h
            · have : q' = ((n : Int), q2) := by simpa using h
              rw [this]
              exact hg'
    · rintro σ H' ⟨u, v, x, rfl, rfl, hs⟩
      have hl : (ps.map V.ref).length = l.length := by rw [List.length_map, h2.length]
      rw [hl, List.take_length] at hs ⊢
      have ha : l.any (fun q => decide (100 < q.2)) = false := by
        rw [List.any_eq_false]
        intro q' hq'
        have := hs q' hq'
        simp only [decide_eq_true_eq]
        omega
      unfold valueP at q
      rw [ha, if_neg Bool.false_ne_true] at q
      refine ⟨_, rfl, _, _, rfl, rfl, _, rfl, ?_⟩
      refine ite2 (fun h => ?_) (fun h => ?_)
      · rw [if_pos (of_decide_eq_true h)] at q
        exact ⟨_, rfl, q⟩
      · rw [if_neg (fun z => h (decide_eq_true z))] at q
        exact q
end
end K75

set_option Elab.async false
set_option linter.all false
set_option maxRecDepth 100000
set_option maxHeartbeats 4000000
namespace K75
open PySem PySem.Spec PyProof.Rows L2 Bk Evl
section
variable {P : Program} {w : World} {K : PySem.W.Frag} {mg : Str → Option Value} {base : Heap}
theorem but_of_upd {H : Hp} {n : Addr} {o : HO} : But n H (upd H n o) := fun x u e ne => by rw [upd_ne ne]; exact e
theorem sqt_but {H H' : Hp} {a n C dx : Addr} {fs : List (Str × V)} {xs : List V} (h : SqT K H a xs) (k : But n H H') (hn : H n = some (.ins C dx fs)) : SqT K H' a xs := by
  rcases h with (h | ⟨u, h⟩) | h
  · exact .inl (.inl (k _ _ h (ne_of h hn (by intro z; cases z))))
  · exact .inl (.inr ⟨u, k _ _ h (ne_of h hn (by intro z; cases z))⟩)
  · exact .inr h
theorem PairsAt.but {H H' : Hp} {t n C dx : Addr} {fs : List (Str × V)} {l : Prs} (p : PairsAt K H t l) (k : But n H H') (hn : H n = some (.ins C dx fs)) : PairsAt K H' t l := by
  obtain ⟨ps, h1, h2⟩ := p
  exact ⟨ps, h1.mono fun o u e => k _ _ e (ne_of e hn (by intro z; cases z)), L2.Paired.mapP h2 fun _ _ z => sqt_but z k hn⟩
/-! ### Number(factors) -/
def spNumInit (K : PySem.W.Frag) : Sp := fun vs H Q _ => ∃ (n t dx : Addr) (l : Prs), vs = [.ref n, .ref t] ∧ H n = some (.ins (CN K) dx []) ∧ PairsAt K H t l ∧ FacOk l ∧ ∀ H', H' n = some (.ins (CN K) dx (nf t (valueP l))) → But n H H' → Q .non H'
theorem sc_Number_init : FnScope ["self", "factors"] ["self", "factors"] (defScope s_Number_uuinit__) := ⟨rfl, rfl, rfl, by decide +kernel, rfl, by decide +kernel, by decide +kernel⟩
theorem ok_Number_init_w (T : Txt K mg) : OkW P w K mg base 5 (He.ma K (He.ga K "Number") "__init__") ["self", "factors"] [.ref (He.dflAt ("Number", some "__init__") 0 K)] (spNumInit K) := by
  obtain ⟨fd_check_factors, F_check_factors, b_check_factors, k_check_factors, _⟩ := (ok_check_factors (P := P) (w := w) (base := base) T).ex
  obtain ⟨fd_value_of, F_value_of, b_value_of, k_value_of, _⟩ := (ok_value_of (P := P) (w := w) (base := base) T).ex
  refine fd_okW T.f_Number_uuinit__ (by simp) 1 rfl sc_Number_init (fun vs H Q E h => ?_) (fun _ _ _ _ _ _ _ us its hl hi => match us, hl, its, hi with | [_, _], _, [_], _ => ⟨_, rfl, rfl⟩) (fun _ _ _ _ _ _ _ us its hl hi => match us, hl, its, hi with | [_], _, [_], _ => ⟨_, rfl, rfl⟩) (fun cdv A outer s H vs Q E hr h => ?_)
  · obtain ⟨n, t, dx, l, rfl, _⟩ := h
    rfl
  · obtain ⟨n, t, dx, l, rfl, hn, hp, ok, q⟩ := h
    have nd := sc_Number_init.nd
    refine ⟨_, (pss_cons (ps_expr (pe_call F_check_factors (hr.mono (by decide)) rfl T.g_check_factors k_check_factors b_check_factors .nil pass0 (pa_cons (pv 1) pa_nil))) (pss_one (ps_asg (pe_tup (pa_cons (pv 1) (pa_cons (pe_call F_value_of (hr.mono (by decide)) rfl T.g_value_of k_value_of b_value_of .nil pass0 (pa_cons (pv 1) pa_nil)) pa_nil))) (pg_tup rfl (pgs_cons (pg_fld (pv 0)) (pgs_cons (pg_fld (pv 0)) pgs_nil)))))), ?_⟩
    refine ⟨_, rfl, t, l, rfl, hp, ok, fun H1 e1 => ?_⟩
    refine ⟨_, rfl, _, rfl, t, l, rfl, hp.ext e1, ok.one, by show 2 ≤ sizeLine; decide, fun p hp' => ?_⟩
    have hn1 := e1 _ _ hn
    have npn : n ≠ p := ne_of_none hn1 hp'
    refine ⟨p, _, rfl, SqT.of upd_same, rfl, _, _, rfl, _, rfl, n, CN K, dx, _, rfl, by rw [upd_ne npn]; exact hn1, T.c_Number, T.n_Number_factors, by show 0 < 1000; decide, ?_⟩
    refine ⟨_, _, rfl, _, rfl, n, CN K, dx, _, rfl, upd_same, T.c_Number, T.n_Number_value, by show 1 < 1000; decide, rfl, ?_⟩
    rw [nf_put]
    refine q _ upd_same fun x o e ne => ?_
    have e2 := e1 _ _ e
    rw [upd_ne ne, upd_ne ne, upd_ne (ne_of_none e2 hp')]
    exact e2
theorem ok_Number_init (T : Txt K mg) : Ok P w K mg base 5 (He.ma K (He.ga K "Number") "__init__") ["self", "factors"] (spNumInit K) := (ok_Number_init_w T).ok
/-! ### number_with(factors) -/
def spNumWith (K : PySem.W.Frag) : Sp := fun vs H Q _ => ∃ (t : Addr) (l : Prs), vs = [.ref t] ∧ PairsAt K H t l ∧ (∀ q ∈ l, FacOne q) ∧ ∀ n H', NumAt K H' n l (valueP l) → Ext H H' → Q (.ref n) H'
theorem facOk_nil : FacOk [] := ⟨by decide, fun _ h => (by cases h), .nil⟩
theorem sc_number_with : FnScope ["factors", "found"] ["factors"] (defScope s_number_with) := ⟨rfl, rfl, rfl, by decide +kernel, rfl, by decide +kernel, by decide +kernel⟩
theorem ok_number_with (T : Txt K mg) : Ok P w K mg base 7 (He.ga K "number_with") ["factors"] (spNumWith K) := by
  obtain ⟨fd_value_of, F_value_of, b_value_of, k_value_of, _⟩ := (ok_value_of (P := P) (w := w) (base := base) T).ex
  obtain ⟨fdN, FN, _, _, _, ds0, v0, b0⟩ := (ok_Number_init_w (P := P) (w := w) (base := base) T).ex
  refine fd_ok T.f_number_with sc_number_with (fun vs H Q E h => ?_) (fun _ _ _ _ _ _ us hl => match us, hl with | [_], _ => rfl) (fun cdv A outer s H vs Q E hr h => ?_)
  · obtain ⟨t, l, rfl, _⟩ := h
    rfl
  · obtain ⟨t, l, rfl, hp, ok, q⟩ := h
    have nd := sc_number_with.nd
    refine ⟨_, (pss_cons (ps_set (i := 1) nd rfl (Or.inl rfl) (pe_make0 T.mk_Number FN (hr.mono (by decide)) rfl T.g_Number b0 v0 pass0)) (pss_cons (ps_asg (pe_tup (pa_cons (pv 0) (pa_cons (pe_call F_value_of (hr.mono (by decide)) rfl T.g_value_of k_value_of b_value_of .nil pass0 (pa_cons (pv 0) pa_nil)) pa_nil))) (pg_tup rfl (pgs_cons (pg_fld (pv 1)) (pgs_cons (pg_fld (pv 1)) pgs_nil)))) (pss_one (ps_ret (pv 1))))), ?_⟩
    intro n dn hn hdn nn
    refine ⟨n, _, dn, [], rfl, upd_same, ⟨[], .inr T.tup0_Number, .nil⟩, facOk_nil, fun H1 h1 k1 => ⟨rfl, ?_⟩⟩
    have e1 : Ext H H1 := fun x o e => by
      have n1 := ne_of_none e hn
      exact k1 x o (by rw [upd_ne n1, upd_ne (ne_of_none e hdn)]; exact e) n1
    refine ⟨_, rfl, _, rfl, t, l, rfl, hp.ext e1, ok, by show 2 ≤ sizeLine; decide, fun p hp' => ?_⟩
    have npn : n ≠ p := ne_of_none h1 hp'
    refine ⟨p, _, rfl, SqT.of upd_same, rfl, _, _, rfl, _, rfl, n, CN K, dn, _, rfl, by rw [upd_ne npn]; exact h1, T.c_Number, T.n_Number_factors, by show 2 < 1000; decide, ?_⟩
    refine ⟨_, _, rfl, _, rfl, n, CN K, dn, _, rfl, upd_same, T.c_Number, T.n_Number_value, by show 2 < 1000; decide, rfl, ?_⟩
    rw [nf_put2]
    have e2 : Ext H (upd (upd (upd H1 p (.tup [.ref t, valueP l])) n (.ins (CN K) dn (putF "factors" (.ref t) (nf (He.dflAt ("Number", some "__init__") 0 K) (valueP []))))) n (.ins (CN K) dn (nf t (valueP l)))) := fun x o e => by
      have n1 := ne_of_none e hn
      have e2 := e1 _ _ e
      rw [upd_ne n1, upd_ne n1, upd_ne (ne_of_none e2 hp')]
      exact e2
    exact ⟨_, rfl, q n _ ⟨dn, t, upd_same, hp.ext e2⟩ e2⟩
end
end K75

set_option Elab.async false
set_option linter.all false
set_option maxRecDepth 100000
set_option maxHeartbeats 4000000
namespace K75
/-! ### factors, in plain Lean -/
def takeOut : Nat → Nat → Nat → Nat × Nat
  | 0, v, _ => (v, 0)
  | f + 1, v, p => if v % p = 0 then ((takeOut f (v / p) p).1, (takeOut f (v / p) p).2 + 1) else (v, 0)
def facGo : Nat → Nat → Nat → List (Nat × Nat)
  | 0, v, _ => if 1 < v then [(v, 1)] else []
  | f + 1, v, p => if p * p ≤ v then (if 0 < (takeOut 20 v p).2 then (p, (takeOut 20 v p).2) :: facGo f (takeOut 20 v p).1 (p + 1) else facGo f (takeOut 20 v p).1 (p + 1)) else if 1 < v then [(v, 1)] else []
def facN (n : Nat) : List (Nat × Nat) := facGo 1000 n 2
def toI (l : List (Nat × Nat)) : List (Int × Int) := l.map fun q => ((q.1 : Int), (q.2 : Int))
theorem takeOut_pos : ∀ (f v p : Nat), 1 ≤ v → 2 ≤ p → 1 ≤ (takeOut f v p).1
  | 0, v, p, h, _ => h
  | f + 1, v, p, h, hp => by
    unfold takeOut
    split
    · rename_i hd
      refine takeOut_pos f (v / p) p ?_ hp
      have := Nat.div_add_mod v p
      rw [hd, Nat.add_zero] at this
      rcases Nat.eq_zero_or_pos (v / p) with z | z
      · rw [z] at this; omega
      · exact z
    · exact h
theorem takeOut_le : ∀ (f v p : Nat), (takeOut f v p).1 ≤ v
  | 0, v, p => Nat.le_refl v
  | f + 1, v, p => by
    unfold takeOut
    split
    · exact Nat.le_trans (takeOut_le f (v / p) p) (Nat.div_le_self v p)
    · exact Nat.le_refl v
theorem takeOut_stop (f v p : Nat) (h : ¬ v % p = 0) : takeOut f v p = (v, 0) := by
  cases f with
  | zero => rfl
  | succ f => exact if_neg h
theorem takeOut_step (f v p : Nat) (h : v % p = 0) : takeOut (f + 1) v p = ((takeOut f (v / p) p).1, (takeOut f (v / p) p).2 + 1) := if_pos h
end K75

set_option Elab.async false
set_option linter.all false
set_option maxRecDepth 100000
set_option maxHeartbeats 4000000
namespace K75
open PySem PySem.Spec PyProof.Rows L2 Bk Evl
theorem lt20 {v : Nat} (h : v ≤ 1000000) : v < 2 ^ 20 := Nat.lt_of_le_of_lt h (by decide)
theorem dec_mod (v p : Nat) : decide (V.int ((v : Int) % (p : Int)) = V.int 0) = decide (v % p = 0) := by
  rw [show (v : Int) % (p : Int) = ((v % p : Nat) : Int) from (Int.natCast_emod v p).symm]
  exact decide_eq_decide.mpr ⟨fun z => by injection z with z; exact Int.ofNat.inj z, fun z => by rw [z]; rfl⟩
/-- a list that is being filled with new pairs -/
def PList (H : Hp) (fl : Addr) (l : Prs) : Prop := ∃ ps : List Addr, H fl = some (.lst (ps.map V.ref)) ∧ Paired (fun p (q : Int × Int) => H p = some (.tup [.int q.1, .int q.2])) ps l
theorem PList.snoc {H : Hp} {fl p : Addr} {l : Prs} {a b : Int} (h : PList H fl l) (hp : H p = none) : ∀ xs, H fl = some (.lst xs) → xs.length = l.length ∧ PList (upd (upd H p (.tup [.int a, .int b])) fl (.lst (xs ++ [.ref p]))) fl (l ++ [(a, b)]) := fun xs hx => by
  obtain ⟨ps, h1, h2⟩ := h
  rw [h1] at hx
  cases hx
  have npf : fl ≠ p := ne_of_none h1 hp
  refine ⟨by rw [List.length_map, h2.length], ps ++ [p], by rw [upd_same, List.map_append]; rfl, Paired.snoc (L2.Paired.mapP h2 fun c q e => ?_) ?_⟩
  · have n1 : c ≠ fl := ne_of e h1 (by intro z; cases z)
    rw [upd_ne n1, upd_ne (ne_of_none e hp)]
    exact e
  · rw [upd_ne npf.symm, upd_same]
section
variable {P : Program} {w : World} {K : PySem.W.Frag} {mg : Str → Option Value} {base : Heap}
theorem PList.pairs {H : Hp} {fl t : Addr} {l : Prs} (h : PList H fl l) (ht : H t = none) {o : Obj} (oc : o.cls = .type "tuple") (od : o.dict = none) : ∀ xs, H fl = some (.lst xs) → PairsAt K (upd H t (.frz o (.tup xs))) t l := fun xs hx => by
  obtain ⟨ps, h1, h2⟩ := h
  rw [h1] at hx
  cases hx
  exact ⟨ps, plt_new oc od, L2.Paired.mapP h2 fun c q e => SqT.of (by rw [upd_ne (ne_of_none e ht)]; exact e)⟩
/-! ### factors_of -/
def spFactors (K : PySem.W.Frag) : Sp := fun vs H Q _ => ∃ n : Nat, vs = [.int n] ∧ (1 ≤ n ∧ n ≤ 1000000) ∧ ∀ t H', PairsAt K H' t (toI (facN n)) → Ext H H' → Q (.ref t) H'
theorem sc_factors_of : FnScope ["value", "found", "part", "many"] ["value"] (defScope s_factors_of) := ⟨rfl, rfl, rfl, by decide +kernel, rfl, by decide +kernel, by decide +kernel⟩
theorem ok_factors_of (T : Txt K mg) : Ok P w K mg base 1 (He.ga K "factors_of") ["value"] (spFactors K) := by
  refine fd_ok T.f_factors_of sc_factors_of (fun vs H Q E h => ?_) (fun _ _ _ _ _ _ us hl => match us, hl with | [_], _ => rfl) (fun cdv A outer s H vs Q E hr h => ?_)
  · obtain ⟨n, rfl, _⟩ := h
    rfl
  · obtain ⟨n, rfl, ⟨n1, n2⟩, q⟩ := h
    have nd := sc_factors_of.nd
    refine ⟨_, (pss_cons (ps_par (i := 1) (j := 2) rfl nd rfl rfl (by decide) rfl rfl (pa_cons (pe_lst pa_nil) (pa_cons pe_int pa_nil)) (by rfl)) (pss_cons (ps_while PassesOwn.never (pt_cmpR op_le (pe_op op_mul (pv 2) (pv 2)) (pv 0) (nomark _)) (pss_cons (ps_set (i := 3) nd rfl (Or.inl rfl) pe_int) (pss_cons (ps_while PassesOwn.never (pt_cmpR op_eq (pe_op op_mod (pe_callTy call_int1 rfl T.z_int (by decide +kernel) (pa_cons (pv 0) pa_nil)) (pv 2)) pe_int (nomark _)) (pss_one (ps_par (i := 0) (j := 3) rfl nd rfl rfl (by decide) rfl rfl (pa_cons (pe_op op_fdiv (pv 0) (pv 2)) (pa_cons (pe_op op_add (pv 3) pe_int) pa_nil)) (by rfl)))) (pss_cons (ps_if (pt_cmpR op_gt (pv 3) pe_int (nomark _)) (pss_one (ps_expr (pe_bm PySem.F.plainAttrs_list PySem.F.slot_list_append PySem.F.type_list_append mt_append (pv 1) (pa_cons (pe_tup (pa_cons (pv 2) (pa_cons (pv 3) pa_nil))) pa_nil)))) pss_nil) (pss_one (ps_set (i := 2) nd rfl (Or.inl rfl) (pe_op op_add (pv 2) pe_int))))))) (pss_cons (ps_if (pt_cmpR op_gt (pv 0) pe_int (nomark _)) (pss_one (ps_expr (pe_bm PySem.F.plainAttrs_list PySem.F.slot_list_append PySem.F.type_list_append mt_append (pv 1) (pa_cons (pe_tup (pa_cons (pv 0) (pa_cons pe_int pa_nil))) pa_nil)))) pss_nil) (pss_one (ps_ret (pe_tupleP rfl T.z_tuple (pv 1))))))), ?_⟩
    refine ⟨by show 0 ≤ sizeLine; decide, fun fl hfl => ⟨_, _, rfl, ?_⟩⟩
    refine ⟨fun m σ H' => ∃ (v p f : Nat) (l : List (Nat × Nat)) (u : Option V), σ = [some (.int v), some (.ref fl), some (.int p), u] ∧ PList H' fl (toI l) ∧ Ext H H' ∧ l ++ facGo f v p = facN n ∧ (1 ≤ v ∧ v ≤ 1000000) ∧ 2 ≤ p ∧ 1002 ≤ p + f ∧ l.length + 2 ≤ p ∧ p ≤ 1002 ∧ m = f,
      ⟨1000, n, 2, 1000, [], _, rfl, ⟨[], upd_same, .nil⟩, Ext.new hfl _, rfl, ⟨n1, n2⟩, by omega, by omega, by simp, by omega, rfl⟩, ?_⟩
    rintro m σ H1 ⟨v, p, f, l, u, rfl, hl, e1, hf, ⟨v1, v2⟩, hp, hpf, hlp, hp2, rfl⟩
    refine ⟨_, rfl, _, rfl, _, _, rfl, rfl, .inl ⟨by omega, by omega⟩, _, rfl, _, _, rfl, rfl, _, rfl, ?_⟩
    have epp : ((p : Int) * (p : Int)) = ((p * p : Nat) : Int) := (Int.natCast_mul p p).symm
    refine ite2 (fun hle => ?_) (fun hle => ?_)
    · have hle' : p * p ≤ v := by have := of_decide_eq_true hle; rw [epp] at this; omega
      have hp3 : p ≤ 1000 := by
        refine Classical.byContradiction fun z => ?_
        have : 1001 * 1001 ≤ p * p := Nat.mul_le_mul (by omega) (by omega)
        omega
      obtain ⟨f', rfl⟩ : ∃ f', m = f' + 1 := ⟨m - 1, by omega⟩
      unfold facGo at hf
      rw [if_pos hle'] at hf
      refine ⟨fun σ H' => ∃ (v p f : Nat) (l : List (Nat × Nat)) (u : Option V), σ = [some (.int v), some (.ref fl), some (.int p), u] ∧ PList H' fl (toI l) ∧ Ext H H' ∧ l ++ facGo f v p = facN n ∧ (1 ≤ v ∧ v ≤ 1000000) ∧ 2 ≤ p ∧ 1002 ≤ p + f ∧ l.length + 2 ≤ p ∧ p ≤ 1002 ∧ f < f' + 1,
        fun σ H' ⟨v, p, f, l, u, x1, x2, x3, x4, x5, x6, x7, x8, x9, x10⟩ => ⟨f, x10, v, p, f, l, u, x1, x2, x3, x4, x5, x6, x7, x8, x9, rfl⟩, ?_⟩
      -- the inner loop
      refine ⟨fun m σ H' => ∃ (v' j fu : Nat), σ = [some (.int v'), some (.ref fl), some (.int p), some (.int j)] ∧ H' = H1 ∧ (takeOut fu v' p).1 = (takeOut 20 v p).1 ∧ j + (takeOut fu v' p).2 = (takeOut 20 v p).2 ∧ 1 ≤ v' ∧ v' < 2 ^ fu ∧ m = fu,
        ⟨20, v, 0, 20, rfl, rfl, rfl, by omega, v1, lt20 v2, rfl⟩, ?_⟩
      rintro m2 σ H2 ⟨v', j, fu, rfl, rfl, t1, t2, w1, w2, rfl⟩
      refine ⟨_, rfl, .inl ⟨_, rfl, _, rfl, _, _, rfl, rfl, by omega, rfl, _, rfl, ?_⟩⟩
      rw [dec_mod]
      refine ite2 (fun h0 => ?_) (fun h0 => ?_)
      · have h0' : v' % p = 0 := of_decide_eq_true h0
        obtain ⟨g, rfl⟩ : ∃ g, m2 = g + 1 := by
          cases m2 with
          | zero => rw [Nat.pow_zero] at w2; omega
          | succ g => exact ⟨g, rfl⟩
        rw [takeOut_step _ _ _ h0'] at t1 t2
        dsimp only at t1 t2
        have hd := Nat.div_add_mod v' p
        rw [h0', Nat.add_zero] at hd
        have pos : 1 ≤ v' / p := by
          rcases Nat.eq_zero_or_pos (v' / p) with z | z
          · rw [z, Nat.mul_zero] at hd; omega
          · exact z
        have lt : v' / p < 2 ^ g := by
          rw [Nat.pow_succ] at w2
          have : 2 * (v' / p) ≤ p * (v' / p) := Nat.mul_le_mul_right _ hp
          omega
        refine ⟨fun σ H' => ∃ (v' j fu : Nat), σ = [some (.int v'), some (.ref fl), some (.int p), some (.int j)] ∧ H' = H2 ∧ (takeOut fu v' p).1 = (takeOut 20 v p).1 ∧ j + (takeOut fu v' p).2 = (takeOut 20 v p).2 ∧ 1 ≤ v' ∧ v' < 2 ^ fu ∧ fu < g + 1,
          fun σ H' ⟨v', j, fu, x1, x2, x3, x4, x5, x6, x7⟩ => ⟨fu, x7, v', j, fu, x1, x2, x3, x4, x5, x6, rfl⟩, ?_⟩
        refine ⟨_, rfl, _, rfl, _, _, rfl, rfl, ⟨by omega, by omega⟩, _, rfl, _, _, rfl, rfl, _, _, rfl, v' / p, j + 1, g, ?_, rfl, t1, by omega, pos, lt, by omega⟩
        show [some (V.int ((v' : Int) / (p : Int))), some (V.ref fl), some (V.int p), some (V.int ((j : Int) + 1))] = _
        rw [show ((v' : Int) / (p : Int)) = ((v' / p : Nat) : Int) from (Int.natCast_ediv v' p).symm]
        rfl
      · have h0' : ¬ v' % p = 0 := fun z => h0 (decide_eq_true z)
        rw [takeOut_stop _ _ _ h0'] at t1 t2
        dsimp only at t1 t2
        have vpos := takeOut_pos 20 v p v1 hp
        have vle := takeOut_le 20 v p
        rw [← t1] at vpos vle
        refine ⟨_, rfl, _, _, rfl, rfl, _, rfl, ?_⟩
        rw [Nat.add_zero] at t2
        refine ite2 (fun hj => ?_) (fun hj => ?_)
        · have hj' : 0 < j := by have := of_decide_eq_true hj; omega
          rw [← t2, if_pos hj', ← t1] at hf
          obtain ⟨ps, g1, g2⟩ := id hl
          refine ⟨_, rfl, .inl ⟨rfl, _, SqL.of g1⟩, _, rfl, _, rfl, by show 2 ≤ sizeLine; decide, fun tp htp => ?_⟩
          obtain ⟨g3, g4⟩ := hl.snoc (a := p) (b := j) htp _ g1
          have nft : fl ≠ tp := ne_of_none g1 htp
          refine ⟨fl, _, _, rfl, rfl, by rw [upd_ne nft]; exact g1, ?_, ?_⟩
          · rw [g3]
            unfold toI
            rw [List.length_map]
            exact small_lt (by omega)
          · refine ⟨_, rfl, _, _, rfl, rfl, v', p + 1, f', l ++ [(p, j)], _, rfl, ?_, ?_, by rw [List.append_assoc]; exact hf, ⟨vpos, by omega⟩, by omega, by omega, by rw [List.length_append, List.length_singleton]; omega, by omega, by omega⟩
            · have : toI (l ++ [(p, j)]) = toI l ++ [((p : Int), (j : Int))] := by unfold toI; rw [List.map_append]; rfl
              rw [this]
              exact g4
            · intro x o e
              rw [upd_ne (ne_of_none e hfl), upd_ne (ne_of_none (e1 x o e) htp)]
              exact e1 x o e
        · have hj' : ¬ 0 < j := fun z => hj (decide_eq_true (by omega))
          rw [← t2, if_neg hj', ← t1] at hf
          exact ⟨_, rfl, _, _, rfl, rfl, v', p + 1, f', l, _, rfl, hl, e1, hf, ⟨vpos, by omega⟩, by omega, by omega, by omega, by omega, by omega⟩
    · have hle' : ¬ p * p ≤ v := fun z => hle (decide_eq_true (by rw [epp]; omega))
      have fe : facGo m v p = if 1 < v then [(v, 1)] else [] := by
        cases m with
        | zero => rfl
        | succ k => exact if_neg hle'
      rw [fe] at hf
      refine ⟨_, rfl, _, _, rfl, rfl, _, rfl, ?_⟩
      refine ite2 (fun hv => ?_) (fun hv => ?_)
      · have hv' : 1 < v := by have := of_decide_eq_true hv; omega
        rw [if_pos hv'] at hf
        obtain ⟨ps, g1, g2⟩ := id hl
        refine ⟨_, rfl, .inl ⟨rfl, _, SqL.of g1⟩, _, rfl, by show 2 ≤ sizeLine; decide, fun tp htp => ?_⟩
        obtain ⟨g3, g4⟩ := hl.snoc (a := v) (b := 1) htp _ g1
        have nft : fl ≠ tp := ne_of_none g1 htp
        refine ⟨fl, _, _, rfl, rfl, by rw [upd_ne nft]; exact g1, ?_, ?_⟩
        · rw [g3]
          unfold toI
          rw [List.length_map]
          exact small_lt (by omega)
        · have e2 : Ext H (upd (upd H1 tp (.tup [.int v, .int 1])) fl (.lst (ps.map V.ref ++ [.ref tp]))) := fun x o e => by
            rw [upd_ne (ne_of_none e hfl), upd_ne (ne_of_none (e1 x o e) htp)]
            exact e1 x o e
          refine ⟨_, rfl, fl, _, rfl, SqL.of upd_same, fun t o ht oc od => ?_⟩
          refine q t _ ?_ (e2.trans (Ext.new ht _))
          have : toI (facN n) = toI l ++ [((v : Int), 1)] := by rw [← hf]; unfold toI; rw [List.map_append]; rfl
          rw [this]
          exact g4.pairs ht oc od _ upd_same
      · have hv' : ¬ 1 < v := fun z => hv (decide_eq_true (by omega))
        rw [if_neg hv', List.append_nil] at hf
        obtain ⟨ps, g1, g2⟩ := id hl
        refine ⟨_, rfl, fl, _, rfl, SqL.of g1, fun t o ht oc od => ?_⟩
        refine q t _ ?_ (e1.trans (Ext.new ht _))
        rw [← hf]
        exact hl.pairs ht oc od _ g1
end
end K75

set_option Elab.async false
set_option linter.all false
set_option maxRecDepth 100000
set_option maxHeartbeats 4000000
namespace K75
open PySem PySem.Spec PyProof.Rows L2 Bk
/-! ### tables of ints, plainly -/
def putI (es : List (Int × Int)) (r v : Int) : List (Int × Int) :=
  if (es.any fun e => decide (e.1 = r)) = true then es.map (fun e => if e.1 = r then (e.1, v) else e) else es ++ [(r, v)]
def getI (es : List (Int × Int)) (r : Int) : Int := ((es.find? fun e => decide (e.1 = r)).map (·.2)).getD 0
theorem any_entI (es : List (Int × Int)) (r : Int) : ((es.map entI).any fun kv => decide (kv.1 = (Sum.inl r : Key))) = es.any fun e => decide (e.1 = r) := by
  induction es with
  | nil => rfl
  | cons e es ih =>
    rw [List.map_cons, List.any_cons, List.any_cons, ih]
    have : decide ((entI e).1 = (Sum.inl r : Key)) = decide (e.1 = r) := decide_eq_decide.mpr ⟨fun z => Sum.inl.inj z, fun z => by rw [← z]⟩
    rw [this]
theorem putK_entI (es : List (Int × Int)) (r v : Int) : putK (es.map entI) (Sum.inl r : Key) (.int v) = (putI es r v).map entI := by
  unfold putK putI
  rw [any_entI]
  by_cases h : (es.any fun e => decide (e.1 = r)) = true
  · rw [if_pos h, if_pos h, List.map_map, List.map_map]
    refine List.map_congr_left fun e _ => ?_
    show (if (Sum.inl e.1 : Key) = Sum.inl r then ((Sum.inl e.1 : Key), V.int v) else entI e) = entI (if e.1 = r then (e.1, v) else e)
    by_cases q : e.1 = r
    · rw [if_pos q, if_pos (by rw [q])]
    · rw [if_neg q, if_neg (fun z => q (Sum.inl.inj z))]
  · rw [if_neg h, if_neg h, List.map_append] <;> rfl
theorem find_entI (es : List (Int × Int)) (r : Int) : valV (es.map entI) (Sum.inl r : Key) = (es.find? fun e => decide (e.1 = r)).map fun e => V.int e.2 := by
  induction es with
  | nil => rfl
  | cons e es ih =>
    rw [List.map_cons]
    by_cases q : e.1 = r
    · rw [valV_pos (by show Sum.inl e.1 = _; rw [q]), List.find?_cons_of_pos (p := fun e : Int × Int => decide (e.1 = r)) (decide_eq_true q)]
      rfl
    · rw [valV_neg (fun z => q (Sum.inl.inj z)), List.find?_cons_of_neg (by simp [q]), ih]
theorem get_some {es : List (Int × Int)} {r : Int} {x : V} (h : valV (es.map entI) (Sum.inl r : Key) = some x) : x = .int (getI es r) := by
  rw [find_entI] at h
  unfold getI
  cases e : es.find? fun e => decide (e.1 = r) with
  | none => rw [e] at h; cases h
  | some p =>
    rw [e] at h
    exact (Option.some.inj h).symm
theorem get_none {es : List (Int × Int)} {r : Int} (h : valV (es.map entI) (Sum.inl r : Key) = none) : getI es r = 0 := by
  rw [find_entI] at h
  unfold getI
  cases e : es.find? fun e => decide (e.1 = r) with
  | none => rfl
  | some p => rw [e] at h; cases h
theorem getI_cons (e : Int × Int) (es : List (Int × Int)) (x : Int) : getI (e :: es) x = if e.1 = x then e.2 else getI es x := by
  unfold getI
  by_cases q : e.1 = x
  · rw [List.find?_cons_of_pos (p := fun e : Int × Int => decide (e.1 = x)) (decide_eq_true q), if_pos q]; rfl
  · rw [List.find?_cons_of_neg (by simp [q]), if_neg q]
theorem getI_map (es : List (Int × Int)) (r v x : Int) : getI (es.map fun e => if e.1 = r then (e.1, v) else e) x = if x = r ∧ (es.any fun e => decide (e.1 = r)) = true then v else getI es x := by
  induction es with
  | nil => simp [getI]
  | cons e es ih =>
    rw [List.map_cons, getI_cons, getI_cons, ih, List.any_cons]
    by_cases q : e.1 = r
    · rw [if_pos q]
      by_cases z : e.1 = x
      · have : x = r := by omega
        rw [if_pos z, if_pos ⟨this, by simp [q]⟩]
      · have : ¬ x = r := by omega
        rw [if_neg z, if_neg (fun h => this h.1), if_neg (fun h => this h.1), if_neg z]
    · rw [if_neg q]
      by_cases z : e.1 = x
      · have : ¬ x = r := by omega
        rw [if_pos z, if_neg (fun h => this h.1), if_pos z]
      · rw [if_neg z, if_neg z, decide_eq_false q, Bool.false_or]
theorem getI_app (es : List (Int × Int)) (r v x : Int) (h : ¬ (es.any fun e => decide (e.1 = r)) = true) : getI (es ++ [(r, v)]) x = if x = r then v else getI es x := by
  induction es with
  | nil =>
    rw [List.nil_append, getI_cons]
    by_cases q : x = r
    · rw [if_pos q.symm, if_pos q]
    · rw [if_neg (fun z => q z.symm), if_neg q]
  | cons e es ih =>
    rw [List.any_cons] at h
    have h1 : ¬ e.1 = r := fun z => h (by simp [z])
    have h2 : ¬ (es.any fun e => decide (e.1 = r)) = true := fun z => h (by simp [z])
    rw [List.cons_append, getI_cons, getI_cons, ih h2]
    by_cases z : e.1 = x
    · have : ¬ x = r := by omega
      rw [if_pos z, if_neg this, if_pos z]
    · rw [if_neg z, if_neg z]
theorem getI_put (es : List (Int × Int)) (r v x : Int) : getI (putI es r v) x = if x = r then v else getI es x := by
  unfold putI
  by_cases h : (es.any fun e => decide (e.1 = r)) = true
  · rw [if_pos h, getI_map]
    by_cases q : x = r
    · rw [if_pos ⟨q, h⟩, if_pos q]
    · rw [if_neg (fun z => q z.1), if_neg q]
  · rw [if_neg h, getI_app _ _ _ _ h]
theorem mem_put {es : List (Int × Int)} {r v : Int} {k : Int} : k ∈ (putI es r v).map (·.1) ↔ k = r ∨ k ∈ es.map (·.1) := by
  unfold putI
  by_cases h : (es.any fun e => decide (e.1 = r)) = true
  · rw [if_pos h, List.map_map]
    have e : es.map ((·.1) ∘ fun e : Int × Int => if e.1 = r then (e.1, v) else e) = es.map (·.1) := List.map_congr_left fun e _ => by
      show (if e.1 = r then (e.1, v) else e).1 = e.1
      by_cases q : e.1 = r
      · rw [if_pos q]
      · rw [if_neg q]
    rw [e]
    refine ⟨.inr, fun z => z.elim (fun z => ?_) id⟩
    obtain ⟨y, hy, hd⟩ := List.any_eq_true.mp h
    exact List.mem_map.mpr ⟨y, hy, (of_decide_eq_true hd).trans z.symm⟩
  · rw [if_neg h, List.map_append, List.mem_append]
    simp [or_comm]
theorem nodup_put {es : List (Int × Int)} {r v : Int} (hn : (es.map (·.1)).Nodup) : ((putI es r v).map (·.1)).Nodup := by
  unfold putI
  by_cases h : (es.any fun e => decide (e.1 = r)) = true
  · rw [if_pos h, List.map_map]
    have e : es.map ((·.1) ∘ fun e : Int × Int => if e.1 = r then (e.1, v) else e) = es.map (·.1) := List.map_congr_left fun e _ => by
      show (if e.1 = r then (e.1, v) else e).1 = e.1
      by_cases q : e.1 = r
      · rw [if_pos q]
      · rw [if_neg q]
    rw [e]
    exact hn
  · rw [if_neg h, List.map_append, List.nodup_append]
    refine ⟨hn, by simp, fun a ha b hb z => h ?_⟩
    obtain ⟨y, hy, e⟩ := List.mem_map.mp ha
    simp at hb
    exact List.any_eq_true.mpr ⟨y, hy, decide_eq_true (by rw [e, z, hb])⟩
theorem len_put (es : List (Int × Int)) (r v : Int) : (putI es r v).length ≤ es.length + 1 := by
  unfold putI
  split
  · rw [List.length_map]; omega
  · rw [List.length_append, List.length_singleton]; exact Nat.le_refl _
theorem merge_entI {es : List (Int × Int)} (hn : (es.map (·.1)).Nodup) : mergeK [] (es.map entI) = es.map entI := by
  have h : ((([] : List (Key × V)) ++ es.map entI).map (fun kv => kv.1)).Nodup := by
    rw [List.nil_append, List.map_map]
    have : (es.map ((fun kv : Key × V => kv.1) ∘ entI)) = (es.map (·.1)).map (Sum.inl : Int → Key) := by rw [List.map_map] <;> rfl
    rw [this]
    exact List.Pairwise.map _ (fun a b (q : a ≠ b) z => q (Sum.inl.inj z)) hn
  rw [mergeK_fresh [] _ h, List.nil_append]
end K75

set_option Elab.async false
set_option linter.all false
set_option maxRecDepth 100000
set_option maxHeartbeats 4000000
namespace K75
open PySem PySem.Spec PyProof.Rows L2 Bk Evl
section
variable {P : Program} {w : World} {K : PySem.W.Frag} {mg : Str → Option Value} {base : Heap}
/-! ### added -/
/-- the table at a is es -/
def TabAt (H : Hp) (a : Addr) (es : List (Int × Int)) : Prop := H a = some (.dK (es.map entI)) ∧ (es.map (·.1)).Nodup
theorem getD_entI (es : List (Int × Int)) (r : Int) : (valV (es.map entI) (Sum.inl r : Key)).getD (.int 0) = .int (getI es r) := by
  cases e : valV (es.map entI) (Sum.inl r : Key) with
  | none => rw [get_none e]; rfl
  | some x => rw [get_some e]; rfl
def spAdded (K : PySem.W.Frag) : Sp := fun vs H Q _ => ∃ (a : Addr) (es : List (Int × Int)) (r m : Int), vs = [.ref a, .int r, .int m] ∧ TabAt H a es ∧ es.length < 1000 ∧ ∀ p H', H p = none → TabAt H' p (putI es r (getI es r + m)) → Ext H H' → Q (.ref p) H'
theorem sc_added : FnScope ["counts", "rest", "many", "found"] ["counts", "rest", "many"] (defScope s_added) := ⟨rfl, rfl, rfl, by decide +kernel, rfl, by decide +kernel, by decide +kernel⟩
theorem ok_added (T : Txt K mg) : Ok P w K mg base 1 (He.ga K "added") ["counts", "rest", "many"] (spAdded K) := by
  refine fd_ok T.f_added sc_added (fun vs H Q E h => ?_) (fun _ _ _ _ _ _ us hl => match us, hl with | [_, _, _], _ => rfl) (fun cdv A outer s H vs Q E hr h => ?_)
  · obtain ⟨a, es, r, m, rfl, _⟩ := h
    rfl
  · obtain ⟨a, es, r, m, rfl, ⟨ha, hn⟩, hl, q⟩ := h
    have nd := sc_added.nd
    refine ⟨_, (pss_cons (ps_set (i := 3) nd rfl (Or.inl rfl) (pe_callTy call_dictD rfl T.z_dict (by decide +kernel) (pa_cons (pv 0) pa_nil))) (pss_cons (ps_asg (pe_op op_add (pe_dget2 (ru hr) (pv 3) (pv 1) pe_int ⟨rfl, rfl, rfl, rfl⟩) (pv 2)) (pg_sub (pv 3) (pv 1) (set_dict (ru hr)))) (pss_one (ps_ret (pv 3))))), ?_⟩
    refine ⟨_, rfl, a, _, rfl, .inl ha, fun p hp => ?_⟩
    refine ⟨_, rfl, p, rfl, .inl ⟨_, .inl upd_same⟩, _, rfl, _, .inl ⟨es.map entI, Sum.inl r, .inl upd_same, rfl, rfl⟩, _, rfl, getI es r, m, getD_entI es r, rfl, ?_⟩
    refine ⟨_, rfl, _, rfl, p, _, rfl, .inl ⟨_, Sum.inl r, upd_same, rfl, by rw [List.length_map]; exact small_lt (by omega), rfl⟩, ?_⟩
    rw [upd_upd, putK_entI]
    exact ⟨_, rfl, q p _ hp ⟨upd_same, nodup_put hn⟩ (Ext.new hp _)⟩
end
end K75

set_option Elab.async false
set_option linter.all false
set_option maxRecDepth 100000
set_option maxHeartbeats 4000000
namespace K75
open PySem PySem.Spec PyProof.Rows L2 Bk Evl
/-- the exponents of the factors that leave x -/
def sumR (m x : Int) : Prs → Int
  | [] => 0
  | q :: l => (if q.1 % m = x then q.2 else 0) + sumR m x l
theorem sumR_snoc (m x : Int) (l : Prs) (q : Int × Int) : sumR m x (l ++ [q]) = sumR m x l + (if q.1 % m = x then q.2 else 0) := by
  induction l with
  | nil => show _ + 0 = 0 + _; omega
  | cons a l ih =>
    show _ + sumR m x (l ++ [q]) = _ + sumR m x l + _
    rw [ih]
    omega
/-- L is the pattern of the counts of the rests of l -/
structure CntOf (m : Int) (l : Prs) (L : Prs) : Prop where
  asc : L.Pairwise fun e f => e.1 < f.1
  get : ∀ x, getI L x = if 2 < m ∧ 1 < x then sumR m x l else 0
  bd : ∀ e ∈ L, 1 < e.1 ∧ e.1 < m
theorem paired_maps {α β γ : Type} {F : β → γ → Prop} (f : α → β) (g : α → γ) : ∀ l : List α, (∀ z ∈ l, F (f z) (g z)) → Paired F (l.map f) (l.map g)
  | [], _ => .nil
  | a :: l, h => .cons (h a List.mem_cons_self) (paired_maps f g l fun z hz => h z (List.mem_cons_of_mem _ hz))
theorem getI_mem : ∀ {es : Prs} {e : Int × Int}, (es.map (·.1)).Nodup → e ∈ es → getI es e.1 = e.2
  | a :: es, e, hn, h => by
    rw [getI_cons]
    rw [List.map_cons, List.nodup_cons] at hn
    rcases List.mem_cons.mp h with z | z
    · rw [z, if_pos rfl]
    · rw [if_neg (fun q => hn.1 (by rw [q]; exact List.mem_map.mpr ⟨e, z, rfl⟩)), getI_mem hn.2 z]
theorem getI_out : ∀ {es : Prs} {x : Int}, x ∉ es.map (·.1) → getI es x = 0
  | [], x, _ => rfl
  | a :: es, x, h => by
    rw [getI_cons, if_neg (fun q => h (by rw [← q]; exact List.mem_cons_self)), getI_out fun q => h (List.mem_cons_of_mem _ q)]
theorem getI_perm {L es : Prs} {x : Int} (hp : L.Perm es) (hn : (es.map (·.1)).Nodup) : getI L x = getI es x := by
  have hm := hp.map (·.1)
  by_cases h : x ∈ es.map (·.1)
  · obtain ⟨e, he, rfl⟩ := List.mem_map.mp h
    rw [getI_mem hn he, getI_mem (hm.nodup_iff.mpr hn) (hp.mem_iff.mpr he)]
  · rw [getI_out h, getI_out fun q => h (hm.mem_iff.mp q)]
theorem asc_of {L es : Prs} (hp : L.Perm es) (hs : L.Pairwise (fun e f => SrtO.lexB f e = false)) (hn : (es.map (·.1)).Nodup) : L.Pairwise fun e f => e.1 < f.1 := by
  have n1 : L.Pairwise fun e f => e.1 ≠ f.1 := List.pairwise_map.mp ((hp.map Prod.fst).nodup_iff.mpr hn)
  refine (List.pairwise_and_iff.mpr ⟨hs, n1⟩).imp fun {e f} h => ?_
  have a := SrtO.lexB_no.mp h.1
  have b := h.2
  omega
section
variable {P : Program} {w : World} {K : PySem.W.Frag} {mg : Str → Option Value} {base : Heap}
def spCounts (K : PySem.W.Frag) : Sp := fun vs H Q _ => ∃ (m : Int) (t : Addr) (l : Prs), vs = [.int m, .ref t] ∧ 1 ≤ m ∧ PairsAt K H t l ∧ l.length ≤ 900 ∧ ∀ t' L H', PairsAt K H' t' L → CntOf m l L → Ext H H' → Q (.ref t') H'
theorem sc_counts_of : FnScope ["modulus", "factors", "found", "prime", "exponent", "rest"] ["modulus", "factors"] (defScope s_counts_of) := ⟨rfl, rfl, rfl, by decide +kernel, rfl, by decide +kernel, by decide +kernel⟩
theorem ok_counts_of (T : Txt K mg) : Ok P w K mg base 2 (He.ga K "counts_of") ["modulus", "factors"] (spCounts K) := by
  obtain ⟨fd_added, F_added, b_added, k_added, _⟩ := (ok_added (P := P) (w := w) (base := base) T).ex
  refine fd_ok T.f_counts_of sc_counts_of (fun vs H Q E h => ?_) (fun _ _ _ _ _ _ us hl => match us, hl with | [_, _], _ => rfl) (fun cdv A outer s H vs Q E hr h => ?_)
  · obtain ⟨m, t, l, rfl, _⟩ := h
    rfl
  · obtain ⟨m, t, l, rfl, m1, hp, hl, q⟩ := h
    have nd := sc_counts_of.nd
    refine ⟨_, (pss_cons (ps_set (i := 2) nd rfl (Or.inl rfl) pe_dnewK) (pss_cons (ps_for PassesOwn.never rfl (pi_tup (pv 1)) (pg_tup rfl (pgs_cons (pg_name (i := 3) nd rfl (Or.inl rfl)) (pgs_cons (pg_name (i := 4) nd rfl (Or.inl rfl)) pgs_nil))) (pss_cons (ps_set (i := 5) nd rfl (Or.inl rfl) (pe_op op_mod (pe_callTy call_int1 rfl T.z_int (by decide +kernel) (pa_cons (pv 3) pa_nil)) (pv 0))) (pss_one (ps_if (pt_cmpR op_gt (pv 5) pe_int (nomark _)) (pss_one (ps_set (i := 2) nd rfl (Or.inl rfl) (pe_call F_added (hr.mono (by decide)) rfl T.g_added k_added b_added .nil pass0 (pa_cons (pv 2) (pa_cons (pv 5) (pa_cons (pv 4) pa_nil)))))) pss_nil)))) (pss_one (ps_ret (pe_ifExp (pt_cmpR op_gt (pv 0) pe_int (nomark _)) (pe_tupleP rfl T.z_tuple (pe_callB (cr_sortedItK rfl) rfl T.z_sorted (by decide +kernel) (pa_cons (pe_bm0 PySem.F.plainAttrs_dict PySem.F.slot_dict_items PySem.F.type_dict_items mt_itemsK (pv 2)) pa_nil))) (pe_tupP pa_nil)))))), ?_⟩
    obtain ⟨ps, h1, h2⟩ := hp.sq
    intro fl hfl
    refine ⟨_, rfl, t, rfl, ⟨_, sqt_ext h1 (Ext.new hfl _)⟩, ?_⟩
    refine for_tup (xs := ps.map V.ref) (fun i σ H' => ∃ (d : Addr) (es : List (Int × Int)) (u v x : Option V), σ = [some (.int m), some (.ref t), some (.ref d), u, v, x] ∧ TabAt H' d es ∧ Ext H H' ∧ es.length ≤ i ∧ (∀ x, getI es x = if 1 < x then sumR m x (l.take i) else 0) ∧ ∀ e ∈ es, 1 < e.1 ∧ e.1 < m)
      ⟨fl, [], _, _, _, rfl, ⟨upd_same, .nil⟩, Ext.new hfl _, Nat.le_refl 0, fun x => by simp [getI, sumR], fun e he => by cases he⟩ ?_ ?_ ?_
    · rintro i σ H' _ ⟨d, es, u, v, x, rfl, _, e, _⟩
      exact sqt_ext h1 e
    · rintro i x σ H' hx ⟨d, es, u, v, y, rfl, ta, e1, hl2, hg, hb⟩
      rw [List.getElem?_map] at hx
      obtain ⟨p, hpi, rfl⟩ := Option.map_eq_some_iff.mp hx
      obtain ⟨⟨q1, q2⟩, hq, hsq⟩ := paired_at h2 i p hpi
      dsimp only at hsq
      have il : i < l.length := (List.getElem?_eq_some_iff.mp hq).1
      have htk : l.take (i + 1) = l.take i ++ [(q1, q2)] := by rw [List.take_add_one, hq] <;> rfl
      have r0 := Int.emod_nonneg q1 (show m ≠ 0 by omega)
      have r1 := Int.emod_lt_of_pos q1 (show 0 < m by omega)
      refine ⟨p, _, rfl, sqt_ext hsq e1, rfl, _, _, rfl, _, _, rfl, rfl, ?_⟩
      refine ⟨_, rfl, .inl ⟨_, rfl, _, rfl, _, _, rfl, rfl, by omega, ?_⟩⟩
      refine ⟨_, rfl, _, _, rfl, rfl, _, rfl, ?_⟩
      refine ite2 (fun hr1 => ?_) (fun hr1 => ?_)
      · have hr1' : 1 < q1 % m := of_decide_eq_true hr1
        refine ⟨_, rfl, _, rfl, _, rfl, d, es, q1 % m, q2, rfl, ta, by omega, fun p' H2 hp' ht e2 => ?_⟩
        refine ⟨p', _, _, _, _, rfl, ht, e1.trans e2, Nat.le_trans (len_put _ _ _) (by omega), fun x => ?_, fun e he => ?_⟩
        · rw [getI_put, htk, sumR_snoc, hg x, hg (q1 % m), if_pos hr1']
          by_cases z : x = q1 % m
          · subst z
            rw [if_pos rfl, if_pos hr1', if_pos rfl]
          · have nz : ¬ (q1, q2).1 % m = x := fun h => z h.symm
            rw [if_neg z, if_neg nz, Int.add_zero]
        · rcases mem_put.mp (List.mem_map.mpr ⟨e, he, rfl⟩) with z | z
          · rw [z]; exact ⟨hr1', r1⟩
          · obtain ⟨e', he', ee⟩ := List.mem_map.mp z
            rw [← ee]; exact hb e' he'
      · have hr1' : ¬ 1 < q1 % m := fun z => hr1 (decide_eq_true z)
        refine ⟨d, es, _, _, _, rfl, ta, e1, by omega, fun x => ?_, hb⟩
        rw [htk, sumR_snoc, hg x]
        by_cases z : 1 < x
        · have nz : ¬ (q1, q2).1 % m = x := fun h => by have h' : q1 % m = x := h; omega
          rw [if_pos z, if_pos z, if_neg nz, Int.add_zero]
        · rw [if_neg z, if_neg z]
    · rintro σ H' ⟨d, es, u, v, y, rfl, ta, e1, hl2, hg, hb⟩
      refine ⟨_, rfl, _, _, rfl, rfl, _, rfl, ?_⟩
      refine ite2 (fun hm => ?_) (fun hm => ?_)
      · have hm' : 2 < m := of_decide_eq_true hm
        refine ⟨_, rfl, .inr (.inr (.inl ⟨rfl, .inl ⟨_, ta.1⟩⟩)), d, _, rfl, rfl, ta.1, fun vp hvp => ?_⟩
        have ndv : d ≠ vp := ne_of_none ta.1 hvp
        refine ⟨vp, d, es, rfl, upd_same, by rw [upd_ne ndv]; exact ta.1, fun H2 lp ps2 k2 hperm hsort hln hlp hpr => ?_⟩
        refine ⟨lp, _, rfl, SqL.of hlp, fun t' o ht oc od => ?_⟩
        have e2 : Ext H H2 := fun x o e => k2 x o (by rw [upd_ne (ne_of_none (e1 x o e) hvp)]; exact e1 x o e)
        have mm : (ps2.map (·.1)).map V.ref = ps2.map fun z => V.ref z.1 := by rw [List.map_map] <;> rfl
        refine q t' (ps2.map (·.2)) _ ⟨ps2.map (·.1), by rw [mm]; exact plt_new oc od, paired_maps _ _ ps2 fun z hz => SqT.of (by rw [upd_ne (ne_of_none (hpr z hz).2 ht)]; exact (hpr z hz).2)⟩ ?_ (e2.trans (Ext.new ht _))
        exact ⟨asc_of hperm hsort ta.2, fun x => by rw [getI_perm hperm ta.2, hg x, List.take_of_length_le (by rw [List.length_map, h2.length]; exact Nat.le_refl _)]; by_cases z : 1 < x <;> simp [z, hm'], fun e he => hb e (hperm.mem_iff.mp he)⟩
      · have hm' : ¬ 2 < m := fun z => hm (decide_eq_true z)
        refine ⟨by show 0 ≤ sizeLine; decide, fun t' o ht oc od => ?_⟩
        exact q t' [] _ ⟨[], plt_new oc od, .nil⟩ ⟨.nil, fun x => by simp [getI, hm'], fun e he => by cases he⟩ (e1.trans (Ext.new ht _))
end
end K75

set_option Elab.async false
set_option linter.all false
set_option maxRecDepth 100000
set_option maxHeartbeats 4000000
namespace K75
open PySem PySem.Spec PyProof.Rows L2 Bk Evl
/-- the rests without a divisor in common with m -/
def unitsL (m : Nat) : List Nat := (List.range m).filter fun k => decide (Nat.gcd k m = 1)
section
variable {P : Program} {w : World} {K : PySem.W.Frag} {mg : Str → Option Value} {base : Heap}
/-! ### units -/
def spUnits (K : PySem.W.Frag) : Sp := fun vs H Q _ => ∃ m : Nat, vs = [.int m] ∧ (1 ≤ m ∧ m ≤ 1000) ∧ ∀ t H', PlT K H' t ((unitsL m).map fun k => V.int (k : Nat)) → Ext H H' → Q (.ref t) H'
theorem sc_units : FnScope ["modulus", "rest"] ["modulus"] (defScope s_units) := ⟨rfl, rfl, rfl, by decide +kernel, rfl, by decide +kernel, by decide +kernel⟩
theorem ok_units (T : Txt K mg) : Ok P w K mg base 2 (He.ga K "units") ["modulus"] (spUnits K) := by
  obtain ⟨fd_gcd, F_gcd, b_gcd, k_gcd, _⟩ := (ok_gcd (P := P) (w := w) (base := base) T).ex
  refine fd_ok T.f_units sc_units (fun vs H Q E h => ?_) (fun _ _ _ _ _ _ us hl => match us, hl with | [_], _ => rfl) (fun cdv A outer s H vs Q E hr h => ?_)
  · obtain ⟨m, rfl, _⟩ := h
    rfl
  · obtain ⟨m, rfl, ⟨m1, m2⟩, q⟩ := h
    have nd := sc_units.nd
    refine ⟨_, (pss_one (ps_ret (pe_tupleP rfl T.z_tuple (pe_lc (own := [("rest", 1)]) (g := (gName 1)) rfl nd (pi_range1 rfl T.z_range (pa_cons (pv 0) pa_nil)) (blkOk_by (own := [("rest", 1)]) (N := ["modulus", "rest"]) (sc := defScope s_units) (by decide +kernel)) (fun _ _ _ _ _ => (pg_name (i := 1) nd rfl (Or.inl rfl))) (fun _ _ _ _ _ => (pts_one (pt_cmpR op_eq (pe_call F_gcd (hr.mono (by decide)) rfl T.g_gcd k_gcd b_gcd .nil pass0 (pa_cons (pv 1) (pa_cons (pv 0) pa_nil))) pe_int (nomark _)))) (fun _ _ _ _ _ => (pv 1)))))), ?_⟩
    refine ⟨_, rfl, m, rfl, by omega, by omega, fun D hD => ?_⟩
    refine lc_range (lo := 0) (n := m) (Cw H (fun k => decide (Nat.gcd k m = 1)) (fun k => V.int (0 + (k : Int))) D) ⟨hD, Ex.new hD, upd_same⟩ (fun k H5 hk p => ?_) (fun H5 p => ?_)
    · refine ⟨rfl, cw_turn p (by omega) (fun H1 e Q q => ?_) (fun _ H1 e Q q => ⟨_, rfl, q H1 (Ex.refl H1)⟩)⟩
      refine ⟨_, rfl, _, rfl, k, m, ?_, ⟨rfl, _, rfl, ?_⟩⟩
      · show [V.int (0 + (k : Int)), V.int m] = _
        rw [show (0 + (k : Int)) = ((k : Nat) : Int) by omega]
      · rw [show decide (V.int ((Nat.gcd k m : Nat) : Int) = V.int 1) = decide (Nat.gcd k m = 1) from decide_eq_decide.mpr ⟨fun z => by injection z with z; omega, fun z => by rw [z]; rfl⟩]
        exact q H1 (Ex.refl H1)
    · obtain ⟨p1, p2, p3⟩ := p
      have e3 : H5 D = some (.lst ((unitsL m).map fun k => V.int (k : Nat))) := by
        rw [p3]
        unfold given unitsL
        congr 2
        refine List.map_congr_left fun x _ => ?_
        show V.int (0 + (x : Int)) = V.int ((x : Nat) : Int)
        congr 1
        omega
      refine ⟨D, _, rfl, SqL.of e3, fun t o ht oc od => ?_⟩
      exact q t _ (plt_new oc od) (Ext.trans p2 (Ext.new ht _))
end
end K75

set_option Elab.async false
set_option linter.all false
set_option maxRecDepth 100000
set_option maxHeartbeats 4000000
namespace K75
open PySem PySem.Spec PyProof.Rows L2 Bk Evl
/-- the first k powers of b by m -/
def powL (b m k : Nat) : List Nat := (List.range k).map fun i => b ^ i % m
theorem powL_succ (b m k : Nat) : powL b m (k + 1) = powL b m k ++ [b ^ k % m] := by
  unfold powL
  rw [List.range_succ, List.map_append] <;> rfl
theorem powL_len (b m k : Nat) : (powL b m k).length = k := by unfold powL; rw [List.length_map, List.length_range]
theorem powL_le {b m k : Nat} (hm : 1 ≤ m) (hn : (powL b m k).Nodup) : k ≤ m := by
  have h := List.Nodup.length_le_of_subset hn (l₂ := List.range m) fun x hx => by
    obtain ⟨i, _, rfl⟩ := List.mem_map.mp hx
    exact List.mem_range.mpr (Nat.mod_lt _ hm)
  rw [powL_len, List.length_range] at h
  exact h
theorem inV_nats (x : Nat) (l : List Nat) : inV (.int x) (l.map fun y => V.int (y : Nat)) = decide (x ∈ l) := by
  unfold inV
  rw [List.any_map]
  induction l with
  | nil => rfl
  | cons a l ih =>
    rw [List.any_cons, ih]
    show (eqV (.int (a : Int)) (.int (x : Int)) || _) = _
    have : eqV (.int (a : Int)) (.int (x : Int)) = decide (x = a) := by
      show decide ((a : Int) = (x : Int)) = _
      exact decide_eq_decide.mpr ⟨fun z => by omega, fun z => by omega⟩
    rw [this]
    by_cases h1 : x = a <;> by_cases h2 : x ∈ l <;> simp [h1, h2]
theorem flat_nats (l : List Nat) : (l.map fun y => V.int (y : Nat)).all flatV = true := List.all_eq_true.mpr fun v hv => by
  obtain ⟨y, _, rfl⟩ := List.mem_map.mp hv
  rfl
section
variable {P : Program} {w : World} {K : PySem.W.Frag} {mg : Str → Option Value} {base : Heap}
/-! ### powers -/
def spPowers (K : PySem.W.Frag) : Sp := fun vs H Q _ => ∃ b m : Nat, vs = [.int b, .int m] ∧ (1 ≤ m ∧ m ≤ 1000) ∧ b ≤ 1000 ∧ ∀ f k H', H' f = some (.lst ((powL b m k).map fun x => V.int (x : Nat))) → 1 ≤ k → (powL b m k).Nodup → b ^ k % m ∈ powL b m k → H f = none → Ext H H' → Q (.ref f) H'
theorem sc_powers : FnScope ["base", "modulus", "found", "here"] ["base", "modulus"] (defScope s_powers) := ⟨rfl, rfl, rfl, by decide +kernel, rfl, by decide +kernel, by decide +kernel⟩
theorem ok_powers (T : Txt K mg) : Ok P w K mg base 1 (He.ga K "powers") ["base", "modulus"] (spPowers K) := by
  refine fd_ok T.f_powers sc_powers (fun vs H Q E h => ?_) (fun _ _ _ _ _ _ us hl => match us, hl with | [_, _], _ => rfl) (fun cdv A outer s H vs Q E hr h => ?_)
  · obtain ⟨b, m, rfl, _⟩ := h
    rfl
  · obtain ⟨b, m, rfl, ⟨m1, m2⟩, b1, q⟩ := h
    have nd := sc_powers.nd
    refine ⟨_, (pss_cons (ps_par (i := 2) (j := 3) rfl nd rfl rfl (by decide) rfl rfl (pa_cons (pe_lst pa_nil) (pa_cons (pe_op op_mod (pe_callTy call_int1 rfl T.z_int (by decide +kernel) (pa_cons pe_int pa_nil)) (pv 1)) pa_nil)) (by rfl)) (pss_cons (ps_while PassesOwn.never (pt_cmpR op_notIn_seq (pv 3) (pv 2) rfl) (pss_cons (ps_expr (pe_bm PySem.F.plainAttrs_list PySem.F.slot_list_append PySem.F.type_list_append mt_append (pv 2) (pa_cons (pv 3) pa_nil))) (pss_one (ps_set (i := 3) nd rfl (Or.inl rfl) (pe_op op_mod (pe_callTy call_int1 rfl T.z_int (by decide +kernel) (pa_cons (pe_op op_mul (pv 3) (pv 0)) pa_nil)) (pv 1)))))) (pss_one (ps_ret (pv 2))))), ?_⟩
    refine ⟨by show 0 ≤ sizeLine; decide, fun f hf => .inl ⟨_, rfl, _, rfl, _, _, rfl, rfl, by omega, _, _, rfl, ?_⟩⟩
    refine ⟨fun n σ H' => ∃ k, σ = [some (.int b), some (.int m), some (.ref f), some (.int ((b ^ k % m : Nat) : Int))] ∧ H' f = some (.lst ((powL b m k).map fun x => V.int (x : Nat))) ∧ Ext H H' ∧ (powL b m k).Nodup ∧ n = m - k, ⟨m, 0, ?_, upd_same, Ext.new hf _, .nil, rfl⟩, ?_⟩
    · show _ = [some (V.int b), some (V.int m), some (V.ref f), some (V.int ((1 % m : Nat) : Int))]
      rw [Int.natCast_emod]
      rfl
    rintro n σ H1 ⟨k, rfl, hl, e1, hn, rfl⟩
    refine ⟨_, rfl, _, rfl, f, _, rfl, .inl (SqL.of hl), rfl, flat_nats _, _, rfl, ?_⟩
    rw [inV_nats]
    by_cases hin : b ^ k % m ∈ powL b m k
    · rw [decide_eq_true hin]
      have k1 : 1 ≤ k := by
        cases k with
        | zero => cases hin
        | succ k => omega
      exact ⟨_, rfl, q f k H1 hl k1 hn hin hf e1⟩
    · rw [decide_eq_false hin]
      have hn2 : (powL b m (k + 1)).Nodup := by
        rw [powL_succ, List.nodup_append]
        exact ⟨hn, by simp, fun a ha c hc z => hin (by simp at hc; rw [← hc, ← z]; exact ha)⟩
      have hk := powL_le m1 hn2
      refine ⟨fun σ H' => ∃ k', σ = [some (.int b), some (.int m), some (.ref f), some (.int ((b ^ k' % m : Nat) : Int))] ∧ H' f = some (.lst ((powL b m k').map fun x => V.int (x : Nat))) ∧ Ext H H' ∧ (powL b m k').Nodup ∧ m - k' < m - k, fun σ H' ⟨k', x1, x2, x3, x4, x5⟩ => ⟨m - k', x5, k', x1, x2, x3, x4, rfl⟩, ?_⟩
      refine ⟨_, rfl, .inl ⟨rfl, _, SqL.of hl⟩, _, rfl, f, _, _, rfl, rfl, hl, by rw [List.length_map, powL_len]; exact small_lt (by omega), ?_⟩
      have bm : b ^ k % m < m := Nat.mod_lt _ m1
      refine ⟨_, rfl, _, rfl, _, _, rfl, rfl, .inl ⟨by omega, by omega⟩, .inl ⟨_, rfl, _, rfl, _, _, rfl, rfl, by omega, k + 1, ?_, ?_, ?_, hn2, by omega⟩⟩
      · have e : ((b ^ k % m : Nat) : Int) * (b : Int) % (m : Int) = ((b ^ (k + 1) % m : Nat) : Int) := by
          rw [← Int.natCast_mul, ← Int.natCast_emod, Nat.pow_succ, Nat.mod_mul_mod]
        show [some (V.int b), some (V.int m), some (V.ref f), some (V.int (((b ^ k % m : Nat) : Int) * (b : Int) % (m : Int)))] = _
        rw [e]
      · rw [upd_same, powL_succ, List.map_append] <;> rfl
      · exact fun x o e => by rw [upd_ne (ne_of_none e hf)]; exact e1 x o e
end
end K75

set_option Elab.async false
set_option linter.all false
set_option maxRecDepth 100000
set_option maxHeartbeats 4000000
namespace K75
/-! ### powers with any exponent, by a modulus up to 12, plainly -/
/-- the rest of b ^ e -/
def pw (b : Nat) (e : Int) (m : Nat) : Nat := b ^ (e % 60).toNat % m
theorem ord_all : ∀ m : Fin 13, ∀ b : Fin 12, ∀ k : Fin 13, 1 ≤ m.val → b.val < m.val → Nat.gcd b.val m.val = 1 → 1 ≤ k.val → (powL b.val m.val k.val).Nodup → b.val ^ k.val % m.val ∈ powL b.val m.val k.val → 60 % k.val = 0 ∧ b.val ^ k.val % m.val = 1 % m.val := by decide +kernel
theorem ord_of {b m k : Nat} (m1 : 1 ≤ m) (m2 : m ≤ 12) (hb : b < m) (hg : Nat.gcd b m = 1) (k1 : 1 ≤ k) (nd : (powL b m k).Nodup) (hm : b ^ k % m ∈ powL b m k) : k ∣ 60 ∧ b ^ k % m = 1 % m ∧ k ≤ 12 := by
  have hk := powL_le m1 nd
  obtain ⟨h1, h2⟩ := ord_all ⟨m, by omega⟩ ⟨b, by omega⟩ ⟨k, by omega⟩ m1 hb hg k1 nd hm
  exact ⟨Nat.dvd_of_mod_eq_zero h1, h2, by omega⟩
theorem pow_mod_ord {b m k n : Nat} (h : b ^ k % m = 1 % m) : b ^ n % m = b ^ (n % k) % m := by
  have e : b ^ n = (b ^ k) ^ (n / k) * b ^ (n % k) := by rw [← Nat.pow_mul, ← Nat.pow_add, Nat.div_add_mod]
  rw [e, Nat.mul_mod, Nat.pow_mod, h, ← Nat.pow_mod, Nat.one_pow, ← Nat.mul_mod, Nat.one_mul]
theorem toNat_mod {e : Int} {k : Nat} (k1 : 1 ≤ k) (h : k ∣ 60) : (e % 60).toNat % k = (e % (k : Int)).toNat := by
  have h1 : (e % 60) % (k : Int) = e % (k : Int) := Int.emod_emod_of_dvd e (by exact_mod_cast h)
  have h2 := Int.emod_nonneg e (show (60 : Int) ≠ 0 by decide)
  have h3 := Int.emod_nonneg e (show (k : Int) ≠ 0 by omega)
  rw [← h1]
  have h4 : ((e % 60).toNat : Int) = e % 60 := Int.toNat_of_nonneg h2
  rw [← h4, ← Int.natCast_emod]
  rfl
theorem pw_ord {b m k : Nat} {e : Int} (k1 : 1 ≤ k) (h : k ∣ 60) (hp : b ^ k % m = 1 % m) : pw b e m = b ^ (e % (k : Int)).toNat % m := by
  unfold pw
  rw [pow_mod_ord hp, toNat_mod k1 h]
theorem pw_base (b : Nat) (e : Int) (m : Nat) : pw (b % m) e m = pw b e m := by
  unfold pw
  exact (Nat.pow_mod b _ m).symm
theorem pw_lt {b m : Nat} {e : Int} (m1 : 1 ≤ m) : pw b e m < m := Nat.mod_lt _ m1
/-- the found powers told at an exponent -/
theorem powL_at {b m k : Nat} {e : Int} (k1 : 1 ≤ k) (h : k ∣ 60) (hp : b ^ k % m = 1 % m) : (e % (k : Int)).toNat < k ∧ (powL b m k)[(e % (k : Int)).toNat]? = some (pw b e m) := by
  have h1 := Int.emod_nonneg e (show (k : Int) ≠ 0 by omega)
  have h2 := Int.emod_lt_of_pos e (show (0 : Int) < k by omega)
  have h3 : (e % (k : Int)).toNat < k := by omega
  refine ⟨h3, ?_⟩
  unfold powL
  rw [List.getElem?_map, List.getElem?_range h3, pw_ord k1 h hp]
  rfl
/-- all powers, where the exponents are as many as the powers -/
theorem powL_all {b m k : Nat} {lo hi : Int} (k1 : 1 ≤ k) (h : k ∣ 60) (hp : b ^ k % m = 1 % m) (hd : (k : Int) ≤ hi - lo) (x : Nat) : x ∈ powL b m k ↔ ∃ e : Int, (lo ≤ e ∧ e ≤ hi) ∧ x = pw b e m := by
  constructor
  · intro hx
    obtain ⟨i, hi', rfl⟩ := List.mem_map.mp hx
    have hi2 := List.mem_range.mp hi'
    refine ⟨lo + ((i : Int) - lo) % (k : Int), ?_, ?_⟩
    · have h1 := Int.emod_nonneg ((i : Int) - lo) (show (k : Int) ≠ 0 by omega)
      have h2 := Int.emod_lt_of_pos ((i : Int) - lo) (show (0 : Int) < k by omega)
      omega
    · rw [pw_ord k1 h hp, Int.add_emod_emod, show lo + ((i : Int) - lo) = (i : Int) by omega, Int.emod_eq_of_lt (by omega) (by omega)]
      rfl
  · rintro ⟨e, _, rfl⟩
    exact List.mem_of_getElem? (powL_at k1 h hp).2
/-- the exponents may be cut -/
theorem pw_cut {b m : Nat} {lo hi : Int} (m1 : 1 ≤ m) (m2 : m ≤ 12) (hg : Nat.gcd b m = 1) (hlo : lo ≤ 0) (hhi : 0 ≤ hi) {c : Int} (hc : 12 ≤ c) (x : Nat) :
    (∃ e : Int, (lo ≤ e ∧ e ≤ hi) ∧ x = pw b e m) ↔ ∃ e : Int, (max lo (-c) ≤ e ∧ e ≤ min hi c) ∧ x = pw b e m := by
  have hord : ∀ b : Nat, b < m → Nat.gcd b m = 1 → ∃ k, 1 ≤ k ∧ k ≤ 12 ∧ k ∣ 60 ∧ b ^ k % m = 1 % m := by
    have all : ∀ m : Fin 13, ∀ b : Fin 12, 1 ≤ m.val → b.val < m.val → Nat.gcd b.val m.val = 1 → ∃ k : Fin 13, 1 ≤ k.val ∧ 60 % k.val = 0 ∧ b.val ^ k.val % m.val = 1 % m.val := by decide +kernel
    intro b hb hg
    obtain ⟨k, h1, h2, h3⟩ := all ⟨m, by omega⟩ ⟨b, by omega⟩ m1 hb hg
    exact ⟨k.val, h1, by omega, Nat.dvd_of_mod_eq_zero h2, h3⟩
  obtain ⟨k, k1, k2, k3, k4⟩ := hord (b % m) (Nat.mod_lt _ m1) (by rw [← Nat.gcd_rec m b, Nat.gcd_comm]; exact hg)
  constructor
  · rintro ⟨e, ⟨h1, h2⟩, rfl⟩
    by_cases g1 : e < -c
    · refine ⟨e % (k : Int) - k, ?_, ?_⟩
      · have h1 := Int.emod_nonneg e (show (k : Int) ≠ 0 by omega)
        have h2 := Int.emod_lt_of_pos e (show (0 : Int) < k by omega)
        omega
      · rw [← pw_base b e, ← pw_base b (e % (k : Int) - k), pw_ord k1 k3 k4, pw_ord k1 k3 k4, Int.sub_emod_right, Int.emod_emod_of_dvd e (Int.dvd_refl _)]
    · by_cases g2 : c < e
      · refine ⟨e % (k : Int), ?_, ?_⟩
        · have h1 := Int.emod_nonneg e (show (k : Int) ≠ 0 by omega)
          have h2 := Int.emod_lt_of_pos e (show (0 : Int) < k by omega)
          omega
        · rw [← pw_base b e, ← pw_base b (e % (k : Int)), pw_ord k1 k3 k4, pw_ord k1 k3 k4, Int.emod_emod_of_dvd e (Int.dvd_refl _)]
      · exact ⟨e, by omega, rfl⟩
  · rintro ⟨e, h1, rfl⟩
    exact ⟨e, by omega, rfl⟩
/-! ### reach -/
abbrev Sps : Type := List (Nat × Int × Int)
def stepP (m : Nat) (S : Nat → Prop) (q : Nat × Int × Int) (x : Nat) : Prop := ∃ s, S s ∧ ∃ e : Int, (q.2.1 ≤ e ∧ e ≤ q.2.2) ∧ x = s * pw q.1 e m % m
def reachFrom (m : Nat) (S : Nat → Prop) (l : Sps) : Nat → Prop := l.foldl (stepP m) S
def reachP (m : Nat) (l : Sps) : Nat → Prop := reachFrom m (fun x => x = 1 % m) l
theorem reach_snoc (m : Nat) (S : Nat → Prop) (l : Sps) (q : Nat × Int × Int) : reachFrom m S (l ++ [q]) = stepP m (reachFrom m S l) q := by
  unfold reachFrom
  rw [List.foldl_append]
  rfl
theorem stepP_congr {m : Nat} {S S' : Nat → Prop} {q : Nat × Int × Int} (h : ∀ x, S x ↔ S' x) (x : Nat) : stepP m S q x ↔ stepP m S' q x := by
  unfold stepP
  constructor
  · rintro ⟨s, a, b⟩
    exact ⟨s, (h s).mp a, b⟩
  · rintro ⟨s, a, b⟩
    exact ⟨s, (h s).mpr a, b⟩
theorem reachFrom_congr {m : Nat} : ∀ (l : Sps) {S S' : Nat → Prop}, (∀ x, S x ↔ S' x) → ∀ x, reachFrom m S l x ↔ reachFrom m S' l x
  | [], _, _, h => h
  | q :: l, _, _, h => reachFrom_congr l (fun x => stepP_congr h x)
/-- an ascending row of the rests of S -/
structure RowOf (m : Nat) (S : Nat → Prop) (L : List Nat) : Prop where
  asc : L.Pairwise (· < ·)
  mem : ∀ x, x ∈ L ↔ S x
  lt : ∀ x ∈ L, x < m
theorem asc_len : ∀ {L : List Nat} {a m : Nat}, L.Pairwise (· < ·) → (∀ x ∈ L, a ≤ x ∧ x < m) → L.length ≤ m - a
  | [], a, m, _, _ => Nat.zero_le _
  | y :: L, a, m, h, hb => by
    rw [List.pairwise_cons] at h
    have h1 := hb y List.mem_cons_self
    have := asc_len (a := y + 1) (m := m) h.2 fun x hx => ⟨h.1 x hx, (hb x (List.mem_cons_of_mem _ hx)).2⟩
    rw [List.length_cons]
    omega
theorem RowOf.len {m : Nat} {S : Nat → Prop} {L : List Nat} (r : RowOf m S L) : L.length ≤ m := asc_len (a := 0) r.asc fun x hx => ⟨Nat.zero_le _, r.lt x hx⟩
theorem asc_ext : ∀ {L M : List Nat}, L.Pairwise (· < ·) → M.Pairwise (· < ·) → (∀ x, x ∈ L ↔ x ∈ M) → L = M
  | [], [], _, _, _ => rfl
  | [], y :: M, _, _, h => absurd ((h y).mpr List.mem_cons_self) (by simp)
  | x :: L, [], _, _, h => absurd ((h x).mp List.mem_cons_self) (by simp)
  | x :: L, y :: M, h1, h2, h => by
    rw [List.pairwise_cons] at h1 h2
    have exy : x = y := by
      have a := (h x).mp List.mem_cons_self
      have b := (h y).mpr List.mem_cons_self
      rcases List.mem_cons.mp a with z | z
      · exact z
      · rcases List.mem_cons.mp b with w | w
        · exact w.symm
        · have := h1.1 y w
          have := h2.1 x z
          omega
    subst exy
    rw [asc_ext h1.2 h2.2 fun z => ?_]
    constructor
    · intro hz
      rcases List.mem_cons.mp ((h z).mp (List.mem_cons_of_mem _ hz)) with w | w
      · have := h1.1 z hz
        omega
      · exact w
    · intro hz
      rcases List.mem_cons.mp ((h z).mpr (List.mem_cons_of_mem _ hz)) with w | w
      · have := h2.1 z hz
        omega
      · exact w
theorem RowOf.eq {m : Nat} {S S' : Nat → Prop} {L M : List Nat} (r : RowOf m S L) (r' : RowOf m S' M) (h : ∀ x, S x ↔ S' x) : L = M :=
  asc_ext r.asc r'.asc fun x => by rw [r.mem, r'.mem, h]
end K75

set_option Elab.async false
set_option linter.all false
set_option maxRecDepth 100000
set_option maxHeartbeats 4000000
namespace K75
open PySem PySem.Spec PyProof.Rows L2 Bk Evl
/-- how many factors of b leave u -/
def nearR (m b : Nat) (u : Int) : Int := if 2 < (m : Int) ∧ 1 < u then sumR m u (toI (facN b)) else 0
theorem facN_small : ∀ b : Fin 13, (facN b.val).length ≤ 3 := by decide +kernel
theorem facN_len {b : Nat} (h : b ≤ 12) : (toI (facN b)).length ≤ 900 := by
  have := facN_small ⟨b, by omega⟩
  unfold toI
  rw [List.length_map]
  exact Nat.le_trans this (by decide)
theorem shareB_bd {a c : Nat} (h : shareB a c = true) : 1 ≤ c ∧ c ≤ 12 ∧ Nat.gcd c a = 1 := by
  unfold shareB at h
  rw [Bool.and_eq_true, Bool.and_eq_true] at h
  exact ⟨of_decide_eq_true h.1.1, of_decide_eq_true h.1.2, of_decide_eq_true h.2⟩
theorem nodup_asc {L : Prs} (h : L.Pairwise fun e f => e.1 < f.1) : (L.map (·.1)).Nodup :=
  List.pairwise_map.mpr (h.imp fun {a b} z => by omega)
theorem valV_nokey {kvs : List (Key × V)} {k : Key} (h : ∀ kv ∈ kvs, kv.1 ≠ k) : valV kvs k = none := by
  cases e : valV kvs k with
  | none => rfl
  | some x =>
    obtain ⟨kv, h1, h2⟩ := List.mem_map.mp (valV_in e)
    exact absurd h2 (h kv h1)
theorem paired_mem {α β : Type} {F : α → β → Prop} : ∀ {xs : List α} {ys : List β}, Paired F xs ys → ∀ x ∈ xs, ∃ y ∈ ys, F x y
  | _, _, .nil, x, h => by cases h
  | _, _, .cons f t, x, h => by
    rcases List.mem_cons.mp h with z | z
    · exact ⟨_, List.mem_cons_self, z ▸ f⟩
    · obtain ⟨y, h1, h2⟩ := paired_mem t x z
      exact ⟨y, List.mem_cons_of_mem _ h1, h2⟩
section
variable {P : Program} {w : World} {K : PySem.W.Frag} {mg : Str → Option Value} {base : Heap}
theorem paired_ent {H : Hp} : ∀ {ps : List Addr} {L : Prs}, Paired (fun p (q : Int × Int) => SqT K H p [.int q.1, .int q.2]) ps L → Paired (fun p (kv : Key × V) => SqT K H p [kV kv.1, kv.2]) ps (L.map entI)
  | _, _, .nil => .nil
  | _, _, .cons f t => .cons f (paired_ent t)
theorem dictOf {H : Hp} {t : Addr} {L : Prs} (hp : PairsAt K H t L) : ∃ ps : List Addr, PlT K H t (ps.map V.ref) ∧ Paired (fun p (kv : Key × V) => SqT K H p [kV kv.1, kv.2]) ps (L.map entI) :=
  let ⟨ps, h1, h2⟩ := hp
  ⟨ps, h1, paired_ent h2⟩
/-! ### spares -/
/-- a table from the rests us to pairs of f and g of them -/
def SpAt (H : Hp) (f g : Int → Int) (kvs : List (Key × V)) (us : List Nat) : Prop := Paired (fun (kv : Key × V) (u : Nat) => kv.1 = Sum.inl (u : Int) ∧ ∃ t, kv.2 = .ref t ∧ H t = some (.tup [.int (f u), .int (g u)])) kvs us
theorem SpAt.ext {H H' : Hp} {f g : Int → Int} {kvs : List (Key × V)} {us : List Nat} (h : SpAt H f g kvs us) (k : Ext H H') : SpAt H' f g kvs us :=
  L2.Paired.mapP h fun _ _ ⟨e, t, e2, e3⟩ => ⟨e, t, e2, k _ _ e3⟩
theorem SpAt.mapP {H H' : Hp} {f g : Int → Int} {kvs : List (Key × V)} {us : List Nat} (h : SpAt H f g kvs us) (k : ∀ x xs, H x = some (.tup xs) → H' x = some (.tup xs)) : SpAt H' f g kvs us :=
  L2.Paired.mapP h fun _ _ ⟨e, t, e2, e3⟩ => ⟨e, t, e2, k _ _ e3⟩
theorem unitsL_nodup (m : Nat) : (unitsL m).Nodup := List.Pairwise.filter _ List.nodup_range
theorem unitsL_len (m : Nat) : (unitsL m).length ≤ m := by
  unfold unitsL
  refine Nat.le_trans (List.length_filter_le _ _) ?_
  rw [List.length_range]
  exact Nat.le_refl m
def spSpares (K : PySem.W.Frag) : Sp := fun vs H Q _ => ∃ (r : Addr) (a b c m : Nat), vs = [.ref r, .int m] ∧ RuleAt K H r a b c ∧ okRule a b c ∧ (1 ≤ m ∧ m ≤ 1000) ∧
  ∀ d kvs H', H d = none → H' d = some (.dK kvs) → SpAt H' (nearR m b) (nearR m c) kvs (unitsL m) → Ext H H' → Q (.ref d) H'
theorem sc_spares : FnScope ["rule", "modulus", "near", "far", "rest"] ["rule", "modulus"] (defScope s_spares) := ⟨rfl, rfl, rfl, by decide +kernel, rfl, by decide +kernel, by decide +kernel⟩
theorem ok_spares (T : Txt K mg) : Ok P w K mg base 3 (He.ga K "spares") ["rule", "modulus"] (spSpares K) := by
  obtain ⟨fd_counts_of, F_counts_of, b_counts_of, k_counts_of, _⟩ := (ok_counts_of (P := P) (w := w) (base := base) T).ex
  obtain ⟨fd_factors_of, F_factors_of, b_factors_of, k_factors_of, _⟩ := (ok_factors_of (P := P) (w := w) (base := base) T).ex
  obtain ⟨fd_units, F_units, b_units, k_units, _⟩ := (ok_units (P := P) (w := w) (base := base) T).ex
  refine fd_ok T.f_spares sc_spares (fun vs H Q E h => ?_) (fun _ _ _ _ _ _ us hl => match us, hl with | [_, _], _ => rfl) (fun cdv A outer s H vs Q E hr h => ?_)
  · obtain ⟨r, a, b, c, m, rfl, _⟩ := h
    rfl
  · obtain ⟨r, a, b, c, m, rfl, R, ok, ⟨m1, m2⟩, q⟩ := h
    have nd := sc_spares.nd
    refine ⟨_, (pss_cons (ps_asg (pe_tup (pa_cons (pe_callTy (call_dictT rfl) rfl T.z_dict (by decide +kernel) (pa_cons (pe_call F_counts_of (hr.mono (by decide)) rfl T.g_counts_of k_counts_of b_counts_of .nil pass0 (pa_cons (pv 1) (pa_cons (pe_call F_factors_of (hr.mono (by decide)) rfl T.g_factors_of k_factors_of b_factors_of .nil pass0 (pa_cons (pe_fld (pv 0) rfl) pa_nil)) pa_nil))) pa_nil)) (pa_cons (pe_callTy (call_dictT rfl) rfl T.z_dict (by decide +kernel) (pa_cons (pe_call F_counts_of (hr.mono (by decide)) rfl T.g_counts_of k_counts_of b_counts_of .nil pass0 (pa_cons (pv 1) (pa_cons (pe_call F_factors_of (hr.mono (by decide)) rfl T.g_factors_of k_factors_of b_factors_of .nil pass0 (pa_cons (pe_fld (pv 0) rfl) pa_nil)) pa_nil))) pa_nil)) pa_nil))) (pg_tup rfl (pgs_cons (pg_name (i := 2) nd rfl (Or.inr rfl)) (pgs_cons (pg_name (i := 3) nd rfl (Or.inr rfl)) pgs_nil)))) (pss_one (ps_ret (pe_dc (own := [("rest", 4)]) (g := (gName 4)) (tt := tYes) rfl nd (pi_tup (pe_call F_units (hr.mono (by decide)) rfl T.g_units k_units b_units .nil pass0 (pa_cons (pv 1) pa_nil))) (blkOk_by (own := [("rest", 4)]) (N := ["rule", "modulus", "near", "far", "rest"]) (sc := defScope s_spares) (by decide +kernel)) (fun _ _ _ _ _ => (pg_name (i := 4) nd rfl (Or.inl rfl))) (fun _ _ _ _ _ => pts_nil) (fun _ _ _ _ _ => (pv 4)) (fun _ _ _ _ _ => (pe_tup (pa_cons (pe_dget2 (ru hr) (pv 2) (pv 4) pe_int ⟨rfl, rfl, rfl, rfl⟩) (pa_cons (pe_dget2 (ru hr) (pv 3) (pv 4) pe_int ⟨rfl, rfl, rfl, rfl⟩) pa_nil)))))))), ?_⟩
    obtain ⟨dx, mo, hr0, hmo⟩ := R.ex
    obtain ⟨⟨a1, a2⟩, hb, hc⟩ := id ok
    obtain ⟨b1, b2, _⟩ := shareB_bd hb
    obtain ⟨c1, c2, _⟩ := shareB_bd hc
    refine ⟨_, rfl, _, rfl, r, CR K, dx, _, _, rfl, hr0, T.c_Rule, T.n_Rule_first, rf4_first _ _ _ _, b, rfl, ⟨b1, by omega⟩, fun t1 H1 p1 e1 => ?_⟩
    refine ⟨m, t1, _, rfl, by omega, p1, facN_len b2, fun t2 L1 H2 p2 g1 e2 => ?_⟩
    obtain ⟨ps1, pl1, pp1⟩ := dictOf p2
    refine ⟨t2, ps1, _, rfl, pl1, pp1, fun d1 hd1 => ?_⟩
    rw [merge_entI (nodup_asc g1.asc)]
    have e3 := Ext.new hd1 (.dK (L1.map entI))
    have e03 := (e1.trans e2).trans e3
    have ht1 : upd H2 d1 (.dK (L1.map entI)) d1 = some (.dK (L1.map entI)) := upd_same
    generalize upd H2 d1 (.dK (L1.map entI)) = H3 at e3 e03 ht1 ⊢
    refine ⟨_, rfl, _, rfl, r, CR K, dx, _, _, rfl, e03 _ _ hr0, T.c_Rule, T.n_Rule_second, rf4_second _ _ _ _, c, rfl, ⟨c1, by omega⟩, fun t4 H4 p4 e4 => ?_⟩
    refine ⟨m, t4, _, rfl, by omega, p4, facN_len c2, fun t5 L2 H5 p5 g2 e5 => ?_⟩
    obtain ⟨ps2, pl2, pp2⟩ := dictOf p5
    refine ⟨t5, ps2, _, rfl, pl2, pp2, fun d2 hd2 => ?_⟩
    rw [merge_entI (nodup_asc g2.asc)]
    have e6 := Ext.new hd2 (.dK (L2.map entI))
    have ht2 : upd H5 d2 (.dK (L2.map entI)) d2 = some (.dK (L2.map entI)) := upd_same
    have ht1' := e6 _ _ (e5 _ _ (e4 _ _ ht1))
    have e06 := ((e03.trans e4).trans e5).trans e6
    generalize upd H5 d2 (.dK (L2.map entI)) = H6 at e6 e06 ht1' ht2 ⊢
    refine ⟨by show 2 ≤ sizeLine; decide, fun p hp => ⟨p, _, rfl, SqT.of upd_same, rfl, _, _, rfl, _, _, rfl, rfl, ?_⟩⟩
    have e7 := Ext.new hp (.tup [.ref d1, .ref d2])
    have e07 := e06.trans e7
    have ht1'' := e7 _ _ ht1'
    have ht2'' := e7 _ _ ht2
    generalize upd H6 p (.tup [.ref d1, .ref d2]) = H7 at e7 e07 ht1'' ht2'' ⊢
    refine ⟨_, rfl, m, rfl, ⟨m1, m2⟩, fun t H8 pl e8 => ⟨t, rfl, ⟨_, pl.sqt⟩, fun D hD => ?_⟩⟩
    have hk1 := e8 _ _ ht1''
    have hk2 := e8 _ _ ht2''
    refine dc_tup (xs := (unitsL m).map fun k => V.int (k : Nat)) (fun i H' => Ext H8 H' ∧ ∃ kvs, H' D = some (.dK kvs) ∧ SpAt H' (nearR m b) (nearR m c) kvs ((unitsL m).take i)) ⟨Ext.new hD _, [], upd_same, .nil⟩ (fun i H' _ p => sqt_ext pl.sqt p.1) (fun i x H' hx p => ?_) (fun H' p => ?_)
    · obtain ⟨e9, kvs, hkv, sp⟩ := p
      rw [List.getElem?_map] at hx
      obtain ⟨u, hu, rfl⟩ := Option.map_eq_some_iff.mp hx
      have tk : (unitsL m).take (i + 1) = (unitsL m).take i ++ [u] := by rw [List.take_add_one, hu] <;> rfl
      have il := (List.getElem?_eq_some_iff.mp hu).1
      have ul := unitsL_len m
      have kl : kvs.length = i := by rw [sp.length, List.length_take]; omega
      refine ⟨rfl, ?_⟩
      unfold tYes
      dsimp only
      rw [if_pos rfl]
      refine ⟨_, rfl, _, rfl, d1, rfl, .inl ⟨_, .inl (e9 _ _ hk1)⟩, _, rfl, _, .inl ⟨L1.map entI, Sum.inl (u : Int), .inl (e9 _ _ hk1), rfl, rfl⟩, ?_⟩
      refine ⟨_, rfl, d2, rfl, .inl ⟨_, .inl (e9 _ _ hk2)⟩, _, rfl, _, .inl ⟨L2.map entI, Sum.inl (u : Int), .inl (e9 _ _ hk2), rfl, rfl⟩, ?_⟩
      rw [getD_entI, getD_entI, g1.get, g2.get]
      refine ⟨by show 2 ≤ sizeLine; decide, fun tp htp => ?_⟩
      have hnk : valV kvs (Sum.inl (u : Int) : Key) = none := valV_nokey fun kv hkv' z => by
        obtain ⟨y, hy, hyk, _⟩ := paired_mem sp kv hkv'
        rw [hyk] at z
        have : y = u := by have := Sum.inl.inj z; omega
        subst this
        have nd2 := unitsL_nodup m
        rw [← List.take_append_drop (i + 1) (unitsL m), tk, List.nodup_append] at nd2
        have nd3 := nd2.1
        rw [List.nodup_append] at nd3
        exact nd3.2.2 y hy y (by simp) rfl
      have nDt : D ≠ tp := ne_of_none hkv htp
      refine ⟨kvs, Sum.inl (u : Int), rfl, by rw [upd_ne nDt]; exact hkv, small_lt (by omega), ?_⟩
      rw [putK_new _ hnk]
      have e10 := e9.trans (Ext.new htp (.tup [.int (nearR m b u), .int (nearR m c u)]))
      refine ⟨fun x o e => ?_, _, upd_same, ?_⟩
      · rw [upd_ne (ne_of_none e hD)]
        exact e10 x o e
      · rw [tk]
        have k2 : ∀ x xs, H' x = some (.tup xs) → upd (upd H' tp (.tup [.int (nearR m b u), .int (nearR m c u)])) D (.dK (kvs ++ [(Sum.inl (u : Int), V.ref tp)])) x = some (.tup xs) := fun x xs e => by
          rw [upd_ne (ne_of e hkv (by intro z; cases z)), upd_ne (ne_of_none e htp)]
          exact e
        exact Paired.snoc (SpAt.mapP sp k2) ⟨rfl, tp, rfl, by rw [upd_ne nDt.symm, upd_same]; rfl⟩
    · obtain ⟨e9, kvs, hkv, sp⟩ := p
      rw [List.length_map, List.take_length] at sp
      exact q D kvs H' (by
        cases z : H D with
        | none => rfl
        | some o => rw [e8 _ _ (e07 _ _ z)] at hD; cases hD) hkv sp ((e07.trans e8).trans e9)
end
end K75

set_option Elab.async false
set_option linter.all false
set_option maxRecDepth 100000
set_option maxHeartbeats 4000000
namespace K75
open PySem PySem.Spec PyProof.Rows L2 Bk Evl
/-! ### core_factors -/
/-- one factor, what of the divisor is left -/
def coreStep (s : Prs × Nat) (q : Int × Int) : Prs × Nat :=
  (if 0 < q.2 - ((takeOut 20 s.2 q.1.toNat).2 : Int) then s.1 ++ [(q.1, q.2 - ((takeOut 20 s.2 q.1.toNat).2 : Int))] else s.1, (takeOut 20 s.2 q.1.toNat).1)
def coreF (l : Prs) (s : Nat) : Prs × Nat := l.foldl coreStep ([], s)
theorem coreF_snoc (l : Prs) (s i : Nat) (q : Int × Int) (h : l[i]? = some q) : coreF (l.take (i + 1)) s = coreStep (coreF (l.take i) s) q := by
  unfold coreF
  rw [List.take_add_one, h, List.foldl_append]
  rfl
theorem coreStep_len (s : Prs × Nat) (q : Int × Int) : (coreStep s q).1.length ≤ s.1.length + 1 := by
  unfold coreStep
  dsimp only
  split
  · rw [List.length_append, List.length_singleton]; exact Nat.le_refl _
  · exact Nat.le_succ _
/-- a prime of a factor -/
def PrP (l : Prs) : Prop := ∀ q ∈ l, ∃ p : Nat, q.1 = p ∧ 2 ≤ p ∧ p ≤ 1000000
theorem prp_of {l : Prs} (h : ∀ q ∈ l, FacOne q) : PrP l := fun q hq => let ⟨p, a, b, c, _⟩ := h q hq; ⟨p, a, b, c⟩
section
variable {P : Program} {w : World} {K : PySem.W.Frag} {mg : Str → Option Value} {base : Heap}
def spCoreFac (K : PySem.W.Frag) : Sp := fun vs H Q _ => ∃ (t : Addr) (l : Prs) (s : Nat), vs = [.ref t, .int s] ∧ PairsAt K H t l ∧ PrP l ∧ l.length ≤ 900 ∧ (1 ≤ s ∧ s ≤ 1000000) ∧
  ∀ t' H', PairsAt K H' t' (coreF l s).1 → Ext H H' → Q (.ref t') H'
theorem sc_core_factors : FnScope ["factors", "shared", "found", "prime", "exponent"] ["factors", "shared"] (defScope s_core_factors) := ⟨rfl, rfl, rfl, by decide +kernel, rfl, by decide +kernel, by decide +kernel⟩
theorem ok_core_factors (T : Txt K mg) : Ok P w K mg base 1 (He.ga K "core_factors") ["factors", "shared"] (spCoreFac K) := by
  refine fd_ok T.f_core_factors sc_core_factors (fun vs H Q E h => ?_) (fun _ _ _ _ _ _ us hl => match us, hl with | [_, _], _ => rfl) (fun cdv A outer s H vs Q E hr h => ?_)
  · obtain ⟨t, l, s, rfl, _⟩ := h
    rfl
  · obtain ⟨t, l, s, rfl, hp, ok, hl, ⟨s1, s2⟩, q⟩ := h
    have nd := sc_core_factors.nd
    refine ⟨_, (pss_cons (ps_set (i := 2) nd rfl (Or.inl rfl) (pe_lst pa_nil)) (pss_cons (ps_for PassesOwn.never rfl (pi_tup (pv 0)) (pg_tup rfl (pgs_cons (pg_name (i := 3) nd rfl (Or.inl rfl)) (pgs_cons (pg_name (i := 4) nd rfl (Or.inl rfl)) pgs_nil))) (pss_cons (ps_while PassesOwn.never (pt_cmpR op_eq (pe_op op_mod (pe_callTy call_int1 rfl T.z_int (by decide +kernel) (pa_cons (pv 1) pa_nil)) (pv 3)) pe_int (nomark _)) (pss_one (ps_par (i := 1) (j := 4) rfl nd rfl rfl (by decide) rfl rfl (pa_cons (pe_op op_fdiv (pv 1) (pv 3)) (pa_cons (pe_op op_sub (pv 4) pe_int) pa_nil)) (by rfl)))) (pss_one (ps_if (pt_cmpR op_gt (pv 4) pe_int (nomark _)) (pss_one (ps_expr (pe_bm PySem.F.plainAttrs_list PySem.F.slot_list_append PySem.F.type_list_append mt_append (pv 2) (pa_cons (pe_tup (pa_cons (pv 3) (pa_cons (pv 4) pa_nil))) pa_nil)))) pss_nil)))) (pss_one (ps_ret (pe_tupleP rfl T.z_tuple (pv 2)))))), ?_⟩
    obtain ⟨ps, h1, h2⟩ := hp.sq
    refine ⟨by show 0 ≤ sizeLine; decide, fun fl hfl => ⟨_, rfl, t, rfl, ⟨_, sqt_ext h1 (Ext.new hfl _)⟩, ?_⟩⟩
    refine for_tup (xs := ps.map V.ref) (fun i σ H' => ∃ (u v : Option V), σ = [some (.ref t), some (.int (coreF (l.take i) s).2), some (.ref fl), u, v] ∧ PList H' fl (coreF (l.take i) s).1 ∧ Ext H H' ∧ (coreF (l.take i) s).1.length ≤ i ∧ (1 ≤ (coreF (l.take i) s).2 ∧ (coreF (l.take i) s).2 ≤ 1000000))
      ⟨_, _, rfl, ⟨[], upd_same, .nil⟩, Ext.new hfl _, Nat.le_refl 0, s1, s2⟩ ?_ ?_ ?_
    · rintro i σ H' _ ⟨u, v, rfl, _, e, _⟩
      exact sqt_ext h1 e
    · rintro i x σ H1 hx ⟨u, v, rfl, pl, e1, hl2, v1, v2⟩
      rw [List.getElem?_map] at hx
      obtain ⟨p, hpi, rfl⟩ := Option.map_eq_some_iff.mp hx
      obtain ⟨⟨q1, q2⟩, hq, hsq⟩ := paired_at h2 i p hpi
      dsimp only at hsq
      have il : i < l.length := (List.getElem?_eq_some_iff.mp hq).1
      obtain ⟨pn, e, n1, n2⟩ := ok _ (List.mem_of_getElem? hq)
      dsimp only at e
      subst e
      rw [coreF_snoc l s i _ hq]
      have ll := coreStep_len (coreF (l.take i) s) ((pn : Int), q2)
      generalize coreF (l.take i) s = cs at pl hl2 v1 v2 ll ⊢
      obtain ⟨ca, v⟩ := cs
      dsimp only at pl hl2 v1 v2 ll ⊢
      have pe : (pn : Int).toNat = pn := rfl
      refine ⟨p, _, rfl, sqt_ext hsq e1, rfl, _, _, rfl, _, _, rfl, rfl, ?_⟩
      -- the inner loop
      refine ⟨fun m σ H' => ∃ (v' fu : Nat) (e' : Int), σ = [some (.ref t), some (.int v'), some (.ref fl), some (.int pn), some (.int e')] ∧ H' = H1 ∧ (takeOut fu v' pn).1 = (takeOut 20 v pn).1 ∧ q2 - e' + (takeOut fu v' pn).2 = (takeOut 20 v pn).2 ∧ 1 ≤ v' ∧ v' < 2 ^ fu ∧ m = fu,
        ⟨20, v, 20, q2, rfl, rfl, rfl, by omega, v1, lt20 v2, rfl⟩, ?_⟩
      rintro m2 σ H2 ⟨v', fu, e', rfl, rfl, t1, t2, w1, w2, rfl⟩
      refine ⟨_, rfl, .inl ⟨_, rfl, _, rfl, _, _, rfl, rfl, by omega, rfl, _, rfl, ?_⟩⟩
      rw [dec_mod]
      refine ite2 (fun h0 => ?_) (fun h0 => ?_)
      · have h0' : v' % pn = 0 := of_decide_eq_true h0
        obtain ⟨g, rfl⟩ : ∃ g, m2 = g + 1 := by
          cases m2 with
          | zero => rw [Nat.pow_zero] at w2; omega
          | succ g => exact ⟨g, rfl⟩
        rw [takeOut_step _ _ _ h0'] at t1 t2
        dsimp only at t1 t2
        have hd := Nat.div_add_mod v' pn
        rw [h0', Nat.add_zero] at hd
        have pos : 1 ≤ v' / pn := by
          rcases Nat.eq_zero_or_pos (v' / pn) with z | z
          · rw [z, Nat.mul_zero] at hd; omega
          · exact z
        have lt : v' / pn < 2 ^ g := by
          rw [Nat.pow_succ] at w2
          have : 2 * (v' / pn) ≤ pn * (v' / pn) := Nat.mul_le_mul_right _ n1
          omega
        refine ⟨fun σ H' => ∃ (v' fu : Nat) (e' : Int), σ = [some (.ref t), some (.int v'), some (.ref fl), some (.int pn), some (.int e')] ∧ H' = H2 ∧ (takeOut fu v' pn).1 = (takeOut 20 v pn).1 ∧ q2 - e' + (takeOut fu v' pn).2 = (takeOut 20 v pn).2 ∧ 1 ≤ v' ∧ v' < 2 ^ fu ∧ fu < g + 1,
          fun σ H' ⟨v', fu, e', x1, x2, x3, x4, x5, x6, x7⟩ => ⟨fu, x7, v', fu, e', x1, x2, x3, x4, x5, x6, rfl⟩, ?_⟩
        refine ⟨_, rfl, _, rfl, _, _, rfl, rfl, ⟨by omega, by omega⟩, _, rfl, _, _, rfl, rfl, _, _, rfl, v' / pn, g, e' - 1, ?_, rfl, t1, by omega, pos, lt, by omega⟩
        show [some (V.ref t), some (V.int ((v' : Int) / (pn : Int))), some (V.ref fl), some (V.int pn), some (V.int (e' - 1))] = _
        rw [show ((v' : Int) / (pn : Int)) = ((v' / pn : Nat) : Int) from (Int.natCast_ediv v' pn).symm]
      · have h0' : ¬ v' % pn = 0 := fun z => h0 (decide_eq_true z)
        rw [takeOut_stop _ _ _ h0'] at t1 t2
        dsimp only at t1 t2
        have vpos := takeOut_pos 20 v pn v1 n1
        have vle := takeOut_le 20 v pn
        have ee : e' = q2 - ((takeOut 20 v pn).2 : Int) := by omega
        unfold coreStep at ll ⊢
        rw [pe] at ll ⊢
        dsimp only at ll ⊢
        rw [← ee] at ll ⊢
        rw [← t1] at vpos vle ⊢
        refine ⟨_, rfl, _, _, rfl, rfl, _, rfl, ?_⟩
        refine ite2 (fun hj => ?_) (fun hj => ?_)
        · have hj' : 0 < e' := of_decide_eq_true hj
          rw [if_pos hj'] at ll ⊢
          obtain ⟨ps', g1, g2⟩ := id pl
          refine ⟨_, rfl, .inl ⟨rfl, _, SqL.of g1⟩, _, rfl, _, rfl, by show 2 ≤ sizeLine; decide, fun tp htp => ?_⟩
          obtain ⟨g3, g4⟩ := pl.snoc (a := pn) (b := e') htp _ g1
          have nft : fl ≠ tp := ne_of_none g1 htp
          refine ⟨fl, _, _, rfl, rfl, by rw [upd_ne nft]; exact g1, by rw [g3]; exact small_lt (by omega), ?_⟩
          refine ⟨_, _, rfl, g4, fun x o e => ?_, by omega, vpos, by omega⟩
          rw [upd_ne (ne_of_none e hfl), upd_ne (ne_of_none (e1 x o e) htp)]
          exact e1 x o e
        · have hj' : ¬ 0 < e' := fun z => hj (decide_eq_true z)
          rw [if_neg hj'] at ll ⊢
          exact ⟨_, _, rfl, pl, e1, by omega, vpos, by omega⟩
    · rintro σ H1 ⟨u, v, rfl, pl, e1, _, _⟩
      have hlen : (ps.map V.ref).length = l.length := by rw [List.length_map, h2.length]
      rw [hlen, List.take_length] at pl ⊢
      obtain ⟨ps', g1, g2⟩ := id pl
      refine ⟨_, rfl, fl, _, rfl, SqL.of g1, fun t' o ht oc od => ?_⟩
      exact q t' _ (pl.pairs ht oc od _ g1) (e1.trans (Ext.new ht _))
end
end K75

set_option Elab.async false
set_option linter.all false
set_option maxRecDepth 100000
set_option maxHeartbeats 4000000
namespace K75
open PySem PySem.Spec PyProof.Rows L2 Bk Evl
/-! ### Number.shared -/
def takeUp : Nat → Nat → Nat → Int → Nat × Nat
  | 0, v, _, _ => (v, 0)
  | f + 1, v, p, e => if 0 < e ∧ v % p = 0 then ((takeUp f (v / p) p (e - 1)).1, (takeUp f (v / p) p (e - 1)).2 + 1) else (v, 0)
theorem takeUp_stop (f v p : Nat) (e : Int) (h : ¬ (0 < e ∧ v % p = 0)) : takeUp f v p e = (v, 0) := by
  cases f with
  | zero => rfl
  | succ f => exact if_neg h
theorem takeUp_step (f v p : Nat) (e : Int) (h : 0 < e ∧ v % p = 0) : takeUp (f + 1) v p e = ((takeUp f (v / p) p (e - 1)).1, (takeUp f (v / p) p (e - 1)).2 + 1) := if_pos h
theorem takeUp_mul : ∀ (f v p : Nat) (e : Int), (takeUp f v p e).1 * p ^ (takeUp f v p e).2 = v
  | 0, v, p, e => by show v * p ^ 0 = v; rw [Nat.pow_zero, Nat.mul_one]
  | f + 1, v, p, e => by
    by_cases h : 0 < e ∧ v % p = 0
    · rw [takeUp_step _ _ _ _ h]
      dsimp only
      rw [Nat.pow_succ, ← Nat.mul_assoc, takeUp_mul f (v / p) p (e - 1)]
      have := Nat.div_add_mod v p
      rw [h.2, Nat.add_zero, Nat.mul_comm] at this
      exact this
    · rw [takeUp_stop _ _ _ _ h]
      show v * p ^ 0 = v
      rw [Nat.pow_zero, Nat.mul_one]
def shStep (s : Nat × Nat) (q : Int × Int) : Nat × Nat := ((takeUp 20 s.1 q.1.toNat q.2).1, s.2 * q.1.toNat ^ (takeUp 20 s.1 q.1.toNat q.2).2)
def shF (l : Prs) (a : Nat) : Nat × Nat := l.foldl shStep (a, 1)
theorem shF_snoc (l : Prs) (a i : Nat) (q : Int × Int) (h : l[i]? = some q) : shF (l.take (i + 1)) a = shStep (shF (l.take i) a) q := by
  unfold shF
  rw [List.take_add_one, h, List.foldl_append]
  rfl
theorem shStep_mul (s : Nat × Nat) (q : Int × Int) : (shStep s q).1 * (shStep s q).2 = s.1 * s.2 := by
  unfold shStep
  dsimp only
  have h := takeUp_mul 20 s.1 q.1.toNat q.2
  rw [Nat.mul_comm s.2, ← Nat.mul_assoc, h]
theorem shF_mul (l : Prs) (a : Nat) : (shF l a).1 * (shF l a).2 = a := by
  unfold shF
  have : ∀ (l : Prs) (s : Nat × Nat), (l.foldl shStep s).1 * (l.foldl shStep s).2 = s.1 * s.2 := fun l => by
    induction l with
    | nil => exact fun s => rfl
    | cons q l ih => exact fun s => (ih (shStep s q)).trans (shStep_mul s q)
  rw [this]
  exact Nat.mul_one a
theorem mul_le2 {v f a : Nat} (h : v * f = a) (ha : 1 ≤ a) : 1 ≤ v ∧ v ≤ a ∧ 1 ≤ f ∧ f ≤ a := by
  have h1 : 1 ≤ v := by
    rcases Nat.eq_zero_or_pos v with z | z
    · rw [z, Nat.zero_mul] at h; omega
    · exact z
  have h2 : 1 ≤ f := by
    rcases Nat.eq_zero_or_pos f with z | z
    · rw [z, Nat.mul_zero] at h; omega
    · exact z
  refine ⟨h1, ?_, h2, ?_⟩
  · rw [← h]; exact Nat.le_mul_of_pos_right v h2
  · rw [← h]; exact Nat.le_mul_of_pos_left f h1
section
variable {P : Program} {w : World} {K : PySem.W.Frag} {mg : Str → Option Value} {base : Heap}
def spShared (K : PySem.W.Frag) : Sp := fun vs H Q _ => ∃ (n : Addr) (l : Prs) (v : V) (a : Nat), vs = [.ref n, .int a] ∧ NumAt K H n l v ∧ PrP l ∧ (1 ≤ a ∧ a ≤ 1000000) ∧ Q (.int (shF l a).2) H
theorem sc_Number_shared : FnScope ["self", "value", "found", "prime", "exponent"] ["self", "value"] (defScope s_Number_shared) := ⟨rfl, rfl, rfl, by decide +kernel, rfl, by decide +kernel, by decide +kernel⟩
theorem ok_Number_shared (T : Txt K mg) : Ok P w K mg base 4 (He.ma K (He.ga K "Number") "shared") ["self", "value"] (spShared K) := by
  obtain ⟨fd_check_number, F_check_number, b_check_number, k_check_number, _⟩ := (ok_check_number (P := P) (w := w) (base := base) T).ex
  obtain ⟨t_MOST_SMALL, m_MOST_SMALL⟩ := T.i_MOST_SMALL
  refine fd_ok T.f_Number_shared sc_Number_shared (fun vs H Q E h => ?_) (fun _ _ _ _ _ _ us hl => match us, hl with | [_, _], _ => rfl) (fun cdv A outer s H vs Q E hr h => ?_)
  · obtain ⟨n, l, v, a, rfl, _⟩ := h
    rfl
  · obtain ⟨n, l, vv, a, rfl, N, ok, ⟨a1, a2⟩, q⟩ := h
    have nd := sc_Number_shared.nd
    refine ⟨_, (pss_cons (ps_expr (pe_call F_check_number (hr.mono (by decide)) rfl T.g_check_number k_check_number b_check_number .nil pass0 (pa_cons (pv 1) (pa_cons pe_int (pa_cons (pe_glob (v := .int 1000000) rfl m_MOST_SMALL ⟨_, rfl⟩) pa_nil))))) (pss_cons (ps_set (i := 2) nd rfl (Or.inl rfl) pe_int) (pss_cons (ps_for PassesOwn.never rfl (pi_tup (pe_fld (pv 0) rfl)) (pg_tup rfl (pgs_cons (pg_name (i := 3) nd rfl (Or.inl rfl)) (pgs_cons (pg_name (i := 4) nd rfl (Or.inl rfl)) pgs_nil))) (pss_one (ps_while PassesOwn.never (PW.pt (pw_and (pt_cmpR op_gt (pv 4) pe_int (nomark _)) (pw_and1 (pt_cmpR op_eq (pe_op op_mod (pe_callTy call_int1 rfl T.z_int (by decide +kernel) (pa_cons (pv 1) pa_nil)) (pv 3)) pe_int (nomark _))))) (pss_one (ps_par3 (i := 1) (j := 4) (l := 2) rfl nd rfl rfl rfl (by decide) (by decide) (by decide) rfl rfl rfl (pa_cons (pe_op op_fdiv (pv 1) (pv 3)) (pa_cons (pe_op op_sub (pv 4) pe_int) (pa_cons (pe_op op_mul (pv 2) (pv 3)) pa_nil))) (by rfl)))))) (pss_one (ps_ret (pv 2)))))), ?_⟩
    obtain ⟨dn, t, hn, hp⟩ := N.ex
    obtain ⟨ps, h1, h2⟩ := hp.sq
    refine ⟨_, rfl, a, 1, 1000000, rfl, ⟨by omega, by omega⟩, ?_⟩
    refine ⟨_, rfl, n, CN K, dn, _, _, rfl, hn, T.c_Number, T.n_Number_factors, nf_factors _ _, t, rfl, ⟨_, h1⟩, ?_⟩
    refine for_tup (xs := ps.map V.ref) (fun i σ H' => ∃ (u v : Option V), σ = [some (.ref n), some (.int (shF (l.take i) a).1), some (.int (shF (l.take i) a).2), u, v] ∧ H' = H)
      ⟨_, _, rfl, rfl⟩ ?_ ?_ ?_
    · rintro i σ H' _ ⟨u, v, rfl, rfl⟩
      exact h1
    · rintro i x σ H1 hx ⟨u, v, rfl, rfl⟩
      rw [List.getElem?_map] at hx
      obtain ⟨p, hpi, rfl⟩ := Option.map_eq_some_iff.mp hx
      obtain ⟨⟨q1, q2⟩, hq, hsq⟩ := paired_at h2 i p hpi
      dsimp only at hsq
      obtain ⟨pn, e, n1, n2⟩ := ok _ (List.mem_of_getElem? hq)
      dsimp only at e
      subst e
      have hm := shF_mul (l.take i) a
      rw [shF_snoc l a i _ hq]
      generalize shF (l.take i) a = cs at hm ⊢
      obtain ⟨v, f⟩ := cs
      dsimp only at hm ⊢
      obtain ⟨v1, v2, f1, f2⟩ := mul_le2 hm a1
      have pe : (pn : Int).toNat = pn := rfl
      refine ⟨p, _, rfl, hsq, rfl, _, _, rfl, _, _, rfl, rfl, ?_⟩
      -- the inner loop
      refine ⟨fun m σ H' => ∃ (v' fu f' : Nat) (e' : Int), σ = [some (.ref n), some (.int v'), some (.int f'), some (.int pn), some (.int e')] ∧ H' = H1 ∧ (takeUp fu v' pn e').1 = (takeUp 20 v pn q2).1 ∧ f' * pn ^ (takeUp fu v' pn e').2 = f * pn ^ (takeUp 20 v pn q2).2 ∧ v' * f' = a ∧ v' < 2 ^ fu ∧ m = fu,
        ⟨20, v, 20, f, q2, rfl, rfl, rfl, rfl, hm, lt20 (by omega), rfl⟩, ?_⟩
      rintro m2 σ H2 ⟨v', fu, f', e', rfl, rfl, t1, t2, w1, w2, rfl⟩
      obtain ⟨v1', v2', f1', f2'⟩ := mul_le2 w1 a1
      have stop : ¬ (0 < e' ∧ v' % pn = 0) → shStep (v, f) ((pn : Int), q2) = (v', f') := fun hno => by
        rw [takeUp_stop _ _ _ _ hno] at t1 t2
        dsimp only at t1 t2
        rw [Nat.pow_zero, Nat.mul_one] at t2
        unfold shStep
        dsimp only
        rw [pe, ← t1, ← t2]
      refine ⟨_, rfl, _, _, rfl, rfl, _, rfl, ?_⟩
      refine ite2 (fun he => ?_) (fun he => ?_)
      · have he' : 0 < e' := of_decide_eq_true he
        refine ⟨_, rfl, .inl ⟨_, rfl, _, rfl, _, _, rfl, rfl, by omega, rfl, _, rfl, ?_⟩⟩
        rw [dec_mod]
        refine ite2 (fun h0 => ?_) (fun h0 => ?_)
        · have h0' : v' % pn = 0 := of_decide_eq_true h0
          obtain ⟨g, rfl⟩ : ∃ g, m2 = g + 1 := by
            cases m2 with
            | zero => rw [Nat.pow_zero] at w2; omega
            | succ g => exact ⟨g, rfl⟩
          rw [takeUp_step _ _ _ _ ⟨he', h0'⟩] at t1 t2
          dsimp only at t1 t2
          have hd := Nat.div_add_mod v' pn
          rw [h0', Nat.add_zero] at hd
          have lt : v' / pn < 2 ^ g := by
            rw [Nat.pow_succ] at w2
            have : 2 * (v' / pn) ≤ pn * (v' / pn) := Nat.mul_le_mul_right _ n1
            omega
          refine ⟨fun σ H' => ∃ (v' fu f' : Nat) (e' : Int), σ = [some (.ref n), some (.int v'), some (.int f'), some (.int pn), some (.int e')] ∧ H' = H2 ∧ (takeUp fu v' pn e').1 = (takeUp 20 v pn q2).1 ∧ f' * pn ^ (takeUp fu v' pn e').2 = f * pn ^ (takeUp 20 v pn q2).2 ∧ v' * f' = a ∧ v' < 2 ^ fu ∧ fu < g + 1,
            fun σ H' ⟨v', fu, f', e', x1, x2, x3, x4, x5, x6, x7⟩ => ⟨fu, x7, v', fu, f', e', x1, x2, x3, x4, x5, x6, rfl⟩, ?_⟩
          refine ⟨_, rfl, _, rfl, _, _, rfl, rfl, ⟨by omega, by omega⟩, _, rfl, _, _, rfl, rfl, _, rfl, _, rfl, _, _, rfl, rfl, .inl ⟨by omega, by omega⟩, _, _, _, rfl, v' / pn, g, f' * pn, e' - 1, ?_, rfl, t1, ?_, ?_, lt, by omega⟩
          · show [some (V.ref n), some (V.int ((v' : Int) / (pn : Int))), some (V.int ((f' : Int) * (pn : Int))), some (V.int pn), some (V.int (e' - 1))] = _
            rw [show ((v' : Int) / (pn : Int)) = ((v' / pn : Nat) : Int) from (Int.natCast_ediv v' pn).symm, show ((f' : Int) * (pn : Int)) = ((f' * pn : Nat) : Int) from (Int.natCast_mul f' pn).symm]
          · rw [← t2, Nat.pow_succ, Nat.mul_assoc, Nat.mul_comm (pn ^ _) pn]
          · rw [← w1]
            calc v' / pn * (f' * pn) = (pn * (v' / pn)) * f' := by rw [Nat.mul_comm f' pn, ← Nat.mul_assoc, Nat.mul_comm (v' / pn) pn]
              _ = v' * f' := by rw [hd]
        · rw [stop fun z => h0 (decide_eq_true z.2)]
          exact ⟨_, _, rfl, rfl⟩
      · rw [stop fun z => he (decide_eq_true z.1)]
        exact ⟨_, _, rfl, rfl⟩
    · rintro σ H1 ⟨u, v, rfl, rfl⟩
      have hlen : (ps.map V.ref).length = l.length := by rw [List.length_map, h2.length]
      rw [hlen, List.take_length]
      exact ⟨_, rfl, q⟩
end
end K75

set_option Elab.async false
set_option linter.all false
set_option maxRecDepth 100000
set_option maxHeartbeats 4000000
namespace K75
open PySem PySem.Spec PyProof.Rows L2 Bk Evl
/-! ### tables into one another -/
def mergeI (es fs : Prs) : Prs := fs.foldl (fun a e => putI a e.1 e.2) es
theorem merge_mapI : ∀ (fs es : Prs), mergeK (es.map entI) (fs.map entI) = (mergeI es fs).map entI
  | [], _ => rfl
  | e :: fs, es => by
    show mergeK (putK (es.map entI) (Sum.inl e.1 : Key) (.int e.2)) (fs.map entI) = (mergeI (putI es e.1 e.2) fs).map entI
    rw [putK_entI, merge_mapI fs]
theorem merge_keys : ∀ (fs es : Prs) (x : Int), x ∈ (mergeI es fs).map (·.1) ↔ x ∈ es.map (·.1) ∨ x ∈ fs.map (·.1)
  | [], es, x => by simp [mergeI]
  | e :: fs, es, x => by
    show x ∈ (mergeI (putI es e.1 e.2) fs).map (·.1) ↔ _
    rw [merge_keys fs, mem_put, List.map_cons, List.mem_cons]
    constructor
    · rintro ((h | h) | h)
      · exact .inr (.inl h)
      · exact .inl h
      · exact .inr (.inr h)
    · rintro (h | h | h)
      · exact .inl (.inr h)
      · exact .inl (.inl h)
      · exact .inr h
theorem merge_nodup : ∀ (fs es : Prs), (es.map (·.1)).Nodup → ((mergeI es fs).map (·.1)).Nodup
  | [], _, h => h
  | e :: fs, es, h => merge_nodup fs (putI es e.1 e.2) (nodup_put h)
theorem merge_len : ∀ (fs es : Prs), (mergeI es fs).length ≤ es.length + fs.length
  | [], _ => Nat.le_refl _
  | e :: fs, es => by
    have h := merge_len fs (putI es e.1 e.2)
    have := len_put es e.1 e.2
    show (mergeI (putI es e.1 e.2) fs).length ≤ _
    rw [List.length_cons]
    omega
theorem coreStep_sub (s : Prs × Nat) (q : Int × Int) : ((coreStep s q).1.map (·.1)).Sublist (s.1.map (·.1) ++ [q.1]) := by
  unfold coreStep
  dsimp only
  split
  · rw [List.map_append]
    exact List.Sublist.refl _
  · exact List.sublist_append_left _ _
theorem coreGo_sub : ∀ (l : Prs) (s : Prs × Nat), ((l.foldl coreStep s).1.map (·.1)).Sublist (s.1.map (·.1) ++ l.map (·.1))
  | [], s => by simp
  | q :: l, s => by
    have h := coreGo_sub l (coreStep s q)
    rw [List.foldl_cons]
    refine h.trans ?_
    rw [List.map_cons, show s.1.map (·.1) ++ q.1 :: l.map (·.1) = (s.1.map (·.1) ++ [q.1]) ++ l.map (·.1) by simp]
    exact (coreStep_sub s q).append (List.Sublist.refl _)
theorem coreF_sub (l : Prs) (s : Nat) : ((coreF l s).1.map (·.1)).Sublist (l.map (·.1)) := by
  have h := coreGo_sub l ([], s)
  rw [List.map_nil, List.nil_append] at h
  exact h
theorem coreF_asc {l : Prs} {s : Nat} (h : l.Pairwise fun a b => a.1 < b.1) : (coreF l s).1.Pairwise fun a b => a.1 < b.1 :=
  List.pairwise_map.mp ((List.pairwise_map.mpr h : (l.map (·.1)).Pairwise (· < ·)).sublist (coreF_sub l s))
theorem coreF_len (l : Prs) (s : Nat) : (coreF l s).1.length ≤ l.length := by
  have h := (coreF_sub l s).length_le
  rwa [List.length_map, List.length_map] at h
theorem facN_asc12 : ∀ b : Fin 13, (facN b.val).Pairwise fun x y => x.1 < y.1 := by decide +kernel
theorem facN_asc {b : Nat} (h : b ≤ 12) : (toI (facN b)).Pairwise fun x y => x.1 < y.1 := by
  have := facN_asc12 ⟨b, by omega⟩
  unfold toI
  rw [List.pairwise_map]
  exact this.imp fun {x y} z => Int.ofNat_lt.mpr z
theorem facN_len3 {b : Nat} (h : b ≤ 12) : (toI (facN b)).length ≤ 3 := by
  have := facN_small ⟨b, by omega⟩
  unfold toI
  rwa [List.length_map]
theorem shF_div (l : Prs) (a : Nat) : (shF l a).2 ∣ a := ⟨(shF l a).1, by rw [Nat.mul_comm]; exact (shF_mul l a).symm⟩
abbrev Trs : Type := List (Int × Int × Int)
/-- the spans of a core with the factors cl -/
structure SpansOf (cl : Prs) (b c : Nat) (L : Trs) : Prop where
  asc : L.Pairwise fun x y => x.1 < y.1
  keys : ∀ x, x ∈ L.map (·.1) ↔ x ∈ cl.map (·.1) ∨ x ∈ (toI (facN b)).map (·.1) ∨ x ∈ (toI (facN c)).map (·.1)
  ends : ∀ q ∈ L, q.2.1 = -getI cl q.1 - getI (toI (facN b)) q.1 ∧ q.2.2 = getI cl q.1 + getI (toI (facN c)) q.1
def spanOf (cl : Prs) (b c : Nat) (p : Int) : Int × Int × Int := (p, -getI cl p - getI (toI (facN b)) p, getI cl p + getI (toI (facN c)) p)
section
variable {P : Program} {w : World} {K : PySem.W.Frag} {mg : Str → Option Value} {base : Heap}
def CC (K : PySem.W.Frag) : Addr := He.ga K "Core"
def cf (r : Addr) (m : Int) (t s : Addr) : List (Str × V) := [("rule", V.ref r), ("modulus", V.int m), ("factors", V.ref t), ("spans", V.ref s)]
theorem cf_rule (r : Addr) (m : Int) (t s : Addr) : (cf r m t s).lookup ("rule" : Str) = some (.ref r) := by rfl
theorem cf_modulus (r : Addr) (m : Int) (t s : Addr) : (cf r m t s).lookup ("modulus" : Str) = some (.int m) := by rfl
theorem cf_factors (r : Addr) (m : Int) (t s : Addr) : (cf r m t s).lookup ("factors" : Str) = some (.ref t) := by rfl
theorem cf_spans (r : Addr) (m : Int) (t s : Addr) : (cf r m t s).lookup ("spans" : Str) = some (.ref s) := by rfl
/-- a list of triples of ints -/
def TrisAt (H : Hp) (a : Addr) (L : Trs) : Prop := ∃ ts : List Addr, H a = some (.lst (ts.map V.ref)) ∧ Paired (fun p (q : Int × Int × Int) => H p = some (.tup [.int q.1, .int q.2.1, .int q.2.2])) ts L
theorem TrisAt.ext {H H' : Hp} {a : Addr} {L : Trs} (h : TrisAt H a L) (k : Ext H H') : TrisAt H' a L :=
  let ⟨ts, h1, h2⟩ := h
  ⟨ts, k _ _ h1, L2.Paired.mapP h2 fun _ _ e => k _ _ e⟩
def modF (l : Prs) (a : Nat) : Nat := a / (shF l a).2
def clF (l : Prs) (a : Nat) : Prs := (coreF l (shF l a).2).1
structure CoreAt (K : PySem.W.Frag) (H : Hp) (x r : Addr) (a b c : Nat) (l : Prs) (L : Trs) : Prop where
  ex : ∃ dx t s, H x = some (.ins (CC K) dx (cf r (modF l a) t s)) ∧ PairsAt K H t (clF l a) ∧ TrisAt H s L
  spans : SpansOf (clF l a) b c L
theorem CoreAt.ext {H H' : Hp} {x r : Addr} {a b c : Nat} {l : Prs} {L : Trs} (C : CoreAt K H x r a b c l L) (k : Ext H H') : CoreAt K H' x r a b c l L :=
  let ⟨dx, t, s, h1, h2, h3⟩ := C.ex
  ⟨⟨dx, t, s, k _ _ h1, h2.ext k, h3.ext k⟩, C.spans⟩
theorem RuleAt.but {H H' : Hp} {x r C dx : Addr} {fs : List (Str × V)} {a b c : Nat} (R : RuleAt K H r a b c) (k : But x H H') (hx : H x = some (.ins C dx fs)) (hne : r ≠ x) : RuleAt K H' r a b c := by
  obtain ⟨dr, m, h1, h2⟩ := R.ex
  exact ⟨dr, m, k _ _ h1 hne, k _ _ h2 (ne_of h2 hx (by intro z; cases z))⟩
/-! ### Core(rule, number) -/
def spCoreInit (K : PySem.W.Frag) : Sp := fun vs H Q _ => ∃ (x r n dx : Addr) (a b c : Nat) (l : Prs) (v : V), vs = [.ref x, .ref r, .ref n] ∧ H x = some (.ins (CC K) dx []) ∧ r ≠ x ∧ n ≠ x ∧ RuleAt K H r a b c ∧ okRule a b c ∧ NumAt K H n l v ∧ FacOk l ∧
  ∀ L H', CoreAt K H' x r a b c l L → But x H H' → Q .non H'
theorem sc_Core_init : FnScope ["self", "rule", "number", "shared", "here", "near", "far", "primes", "prime", "many"] ["self", "rule", "number"] (defScope s_Core_uuinit__) := ⟨rfl, rfl, rfl, by decide +kernel, rfl, by decide +kernel, by decide +kernel⟩
theorem ok_Core_init (T : Txt K mg) : Ok P w K mg base 5 (He.ma K (He.ga K "Core") "__init__") ["self", "rule", "number"] (spCoreInit K) := by
  obtain ⟨fd_Number_shared, F_Number_shared, b_Number_shared, k_Number_shared, _⟩ := (ok_Number_shared (P := P) (w := w) (base := base) T).ex
  obtain ⟨fd_core_factors, F_core_factors, b_core_factors, k_core_factors, _⟩ := (ok_core_factors (P := P) (w := w) (base := base) T).ex
  obtain ⟨fd_factors_of, F_factors_of, b_factors_of, k_factors_of, _⟩ := (ok_factors_of (P := P) (w := w) (base := base) T).ex
  refine fd_ok T.f_Core_uuinit__ sc_Core_init (fun vs H Q E h => ?_) (fun _ _ _ _ _ _ us hl => match us, hl with | [_, _, _], _ => rfl) (fun cdv A outer s H vs Q E hr h => ?_)
  · obtain ⟨x, r, n, dx, a, b, c, l, v, rfl, _⟩ := h
    rfl
  · obtain ⟨x, r, n, dx, a, b, c, l, v, rfl, hx, nrx, nnx, R, ok, N, fo, q⟩ := h
    have nd := sc_Core_init.nd
    refine ⟨_, (pss_cons (ps_set (i := 3) nd rfl (Or.inl rfl) (pe_meth (pv 2) T.c_Number T.m_Number_shared F_Number_shared (hr.mono (by decide)) b_Number_shared .nil pass0 (pa_cons (pe_fld (pv 1) rfl) pa_nil))) (pss_cons (ps_asg (pe_tup (pa_cons (pv 1) (pa_cons (pe_op op_fdiv (pe_fld (pv 1) rfl) (pv 3)) pa_nil))) (pg_tup rfl (pgs_cons (pg_fld (pv 0)) (pgs_cons (pg_fld (pv 0)) pgs_nil)))) (pss_cons (ps_fld (pv 0) (pe_call F_core_factors (hr.mono (by decide)) rfl T.g_core_factors k_core_factors b_core_factors .nil pass0 (pa_cons (pe_fld (pv 2) rfl) (pa_cons (pv 3) pa_nil))) rfl) (pss_cons (ps_par3 (i := 4) (j := 5) (l := 6) rfl nd rfl rfl rfl (by decide) (by decide) (by decide) rfl rfl rfl (pa_cons (pe_callTy (call_dictT rfl) rfl T.z_dict (by decide +kernel) (pa_cons (pe_fld (pv 0) rfl) pa_nil)) (pa_cons (pe_callTy (call_dictT rfl) rfl T.z_dict (by decide +kernel) (pa_cons (pe_call F_factors_of (hr.mono (by decide)) rfl T.g_factors_of k_factors_of b_factors_of .nil pass0 (pa_cons (pe_fld (pv 1) rfl) pa_nil)) pa_nil)) (pa_cons (pe_callTy (call_dictT rfl) rfl T.z_dict (by decide +kernel) (pa_cons (pe_call F_factors_of (hr.mono (by decide)) rfl T.g_factors_of k_factors_of b_factors_of .nil pass0 (pa_cons (pe_fld (pv 1) rfl) pa_nil)) pa_nil)) pa_nil))) (by rfl)) (pss_cons (ps_set (i := 7) nd rfl (Or.inl rfl) (pe_callB (call_sortedDI rfl) rfl T.z_sorted (by decide +kernel) (pa_cons (pe_star3 (pv 4) (pv 5) (pv 6)) pa_nil))) (pss_cons (ps_fld (pv 0) (pe_lst pa_nil) rfl) (pss_one (ps_for PassesOwn.never rfl (pi_list (pv 7)) (pg_name (i := 8) nd rfl (Or.inl rfl)) (pss_cons (ps_set (i := 9) nd rfl (Or.inl rfl) (pe_dget2 (ru hr) (pv 4) (pv 8) pe_int ⟨rfl, rfl, rfl, rfl⟩)) (pss_one (ps_expr (pe_bm PySem.F.plainAttrs_list PySem.F.slot_list_append PySem.F.type_list_append mt_append (pe_fld (pv 0) rfl) (pa_cons (pe_tup (pa_cons (pv 8) (pa_cons (pe_op op_sub (pe_un un_neg (pv 9)) (pe_dget2 (ru hr) (pv 5) (pv 8) pe_int ⟨rfl, rfl, rfl, rfl⟩)) (pa_cons (pe_op op_add (pv 9) (pe_dget2 (ru hr) (pv 6) (pv 8) pe_int ⟨rfl, rfl, rfl, rfl⟩)) pa_nil)))) pa_nil))))))))))))), ?_⟩
    obtain ⟨dr, mo, hr0, hmo⟩ := R.ex
    obtain ⟨dn, t, hn, hp⟩ := id N.ex
    obtain ⟨⟨a1, a2⟩, hb, hc⟩ := id ok
    obtain ⟨b1, b2, _⟩ := shareB_bd hb
    obtain ⟨c1, c2, _⟩ := shareB_bd hc
    have hsm := shF_mul l a
    obtain ⟨_, _, sh1, sh2⟩ := mul_le2 hsm (by omega)
    have prp := prp_of fo.one
    -- shared = number.shared(rule.parts)
    refine ⟨_, rfl, n, dn, _, rfl, hn, rfl, _, rfl, r, CR K, dr, _, _, rfl, hr0, T.c_Rule, T.n_Rule_parts, rf4_parts _ _ _ _, n, l, v, a, rfl, N, prp, ⟨by omega, by omega⟩, ?_⟩
    have hsd : modF l a = a / (shF l a).2 := rfl
    have hcl : clF l a = (coreF l (shF l a).2).1 := rfl
    generalize (shF l a).2 = sh at sh1 sh2 hsd hcl ⊢
    -- self.rule, self.modulus = ..
    refine ⟨_, rfl, _, rfl, r, CR K, dr, _, _, rfl, hr0, T.c_Rule, T.n_Rule_parts, rf4_parts _ _ _ _, _, rfl, _, _, rfl, rfl, ⟨by omega, by omega⟩, by show 2 ≤ sizeLine; decide, fun p hp0 => ?_⟩
    have npx : x ≠ p := ne_of_none hx hp0
    have em : ((a : Int) / (sh : Int)) = (modF l a : Int) := by rw [hsd]; exact (Int.natCast_ediv a sh).symm
    have e1 := Ext.new hp0 (.tup [.ref r, .int ((a : Int) / (sh : Int))])
    refine ⟨p, _, rfl, SqT.of upd_same, rfl, _, _, rfl, _, rfl, x, CC K, dx, _, rfl, e1 _ _ hx, T.c_Core, T.n_Core_rule, by show 0 < 1000; decide, ?_⟩
    refine ⟨_, _, rfl, _, rfl, x, CC K, dx, _, rfl, upd_same, T.c_Core, T.n_Core_modulus, by show 1 < 1000; decide, rfl, ?_⟩
    have b1' : But x H (upd (upd (upd H p (.tup [.ref r, .int ((a : Int) / (sh : Int))])) x (.ins (CC K) dx (putF "rule" (.ref r) []))) x (.ins (CC K) dx (putF "modulus" (.int ((a : Int) / (sh : Int))) (putF "rule" (.ref r) [])))) := fun y o e ne => by
      rw [upd_ne ne, upd_ne ne]
      exact e1 _ _ e
    have hx1 : upd (upd (upd H p (.tup [.ref r, .int ((a : Int) / (sh : Int))])) x (.ins (CC K) dx (putF "rule" (.ref r) []))) x (.ins (CC K) dx (putF "modulus" (.int ((a : Int) / (sh : Int))) (putF "rule" (.ref r) []))) x = some (.ins (CC K) dx (putF "modulus" (.int ((a : Int) / (sh : Int))) (putF "rule" (.ref r) []))) := upd_same
    generalize upd (upd (upd H p (.tup [.ref r, .int ((a : Int) / (sh : Int))])) x (.ins (CC K) dx (putF "rule" (.ref r) []))) x (.ins (CC K) dx (putF "modulus" (.int ((a : Int) / (sh : Int))) (putF "rule" (.ref r) []))) = H1 at b1' hx1 ⊢
    rw [em] at hx1
    have hr1 := b1' _ _ hr0 nrx
    have hn1 := b1' _ _ hn nnx
    have hp1 := hp.but b1' hx
    -- self.factors = core_factors(number.factors, shared)
    refine ⟨_, rfl, n, CN K, dn, _, _, rfl, hn1, T.c_Number, T.n_Number_factors, nf_factors _ _, _, rfl, t, l, sh, rfl, hp1, prp, Nat.le_trans fo.len (by decide), ⟨sh1, by omega⟩, fun t2 H2 p2 e2 => ?_⟩
    rw [← hcl] at p2
    refine ⟨_, rfl, x, CC K, dx, _, rfl, e2 _ _ hx1, T.c_Core, T.n_Core_factors, by show 2 < 1000; decide, ?_⟩
    have hx2 := e2 _ _ hx1
    have b2' : But x H1 (upd H2 x (.ins (CC K) dx (putF "factors" (.ref t2) (putF "modulus" (.int (modF l a)) (putF "rule" (.ref r) []))))) := fun y o e ne => by
      rw [upd_ne ne]
      exact e2 _ _ e
    have p3 := p2.but (but_of_upd (n := x) (o := .ins (CC K) dx (putF "factors" (.ref t2) (putF "modulus" (.int (modF l a)) (putF "rule" (.ref r) []))))) hx2
    have hx3 : upd H2 x (.ins (CC K) dx (putF "factors" (.ref t2) (putF "modulus" (.int (modF l a)) (putF "rule" (.ref r) [])))) x = some (.ins (CC K) dx (putF "factors" (.ref t2) (putF "modulus" (.int (modF l a)) (putF "rule" (.ref r) [])))) := upd_same
    generalize upd H2 x (.ins (CC K) dx (putF "factors" (.ref t2) (putF "modulus" (.int (modF l a)) (putF "rule" (.ref r) [])))) = H3 at b2' p3 hx3 ⊢
    have hr3 := b2' _ _ hr1 nrx
    have clasc : (clF l a).Pairwise fun x y => x.1 < y.1 := coreF_asc fo.asc
    have cllen : (clF l a).length ≤ 12 := Nat.le_trans (coreF_len _ _) fo.len
    -- here, near, far = ..
    obtain ⟨ps1, pl1, pp1⟩ := dictOf p3
    refine ⟨_, rfl, x, CC K, dx, _, _, rfl, hx3, T.c_Core, T.n_Core_factors, rfl, t2, ps1, _, rfl, pl1, pp1, fun d1 hd1 => ?_⟩
    rw [merge_entI (nodup_asc clasc)]
    have e4 := Ext.new hd1 (.dK ((clF l a).map entI))
    have k1 : upd H3 d1 (.dK ((clF l a).map entI)) d1 = some (.dK ((clF l a).map entI)) := upd_same
    generalize upd H3 d1 (.dK ((clF l a).map entI)) = H4 at e4 k1 ⊢
    refine ⟨_, rfl, r, CR K, dr, _, _, rfl, e4 _ _ hr3, T.c_Rule, T.n_Rule_first, rf4_first _ _ _ _, b, rfl, ⟨b1, by omega⟩, fun t5 H5 p5 e5 => ?_⟩
    obtain ⟨ps2, pl2, pp2⟩ := dictOf p5
    refine ⟨t5, ps2, _, rfl, pl2, pp2, fun d2 hd2 => ?_⟩
    rw [merge_entI (nodup_asc (facN_asc b2))]
    have e6 := Ext.new hd2 (.dK ((toI (facN b)).map entI))
    have k2 : upd H5 d2 (.dK ((toI (facN b)).map entI)) d2 = some (.dK ((toI (facN b)).map entI)) := upd_same
    generalize upd H5 d2 (.dK ((toI (facN b)).map entI)) = H6 at e6 k2 ⊢
    have e36 := (e4.trans e5).trans e6
    refine ⟨_, rfl, r, CR K, dr, _, _, rfl, e36 _ _ hr3, T.c_Rule, T.n_Rule_second, rf4_second _ _ _ _, c, rfl, ⟨c1, by omega⟩, fun t7 H7 p7 e7 => ?_⟩
    obtain ⟨ps3, pl3, pp3⟩ := dictOf p7
    refine ⟨t7, ps3, _, rfl, pl3, pp3, fun d3 hd3 => ?_⟩
    rw [merge_entI (nodup_asc (facN_asc c2))]
    have e8 := Ext.new hd3 (.dK ((toI (facN c)).map entI))
    have k3 : upd H7 d3 (.dK ((toI (facN c)).map entI)) d3 = some (.dK ((toI (facN c)).map entI)) := upd_same
    generalize upd H7 d3 (.dK ((toI (facN c)).map entI)) = H8 at e8 k3 ⊢
    have e38 := (e36.trans e7).trans e8
    have k1 := e8 _ _ (e7 _ _ (e6 _ _ (e5 _ _ k1)))
    have k2 := e8 _ _ (e7 _ _ k2)
    refine ⟨_, _, _, rfl, ?_⟩
    have e39 := e38
    have hx9 := e39 _ _ hx3
    have p9' := p3.ext e39
    have bH8 : But x H H8 := fun y o e ne => e39 _ _ (b2' _ _ (b1' _ _ e ne) ne)
    clear e4 e5 e6 e7 e8 e36 e38 e39 p3 hx3 pl1 pp1 pl2 pp2 pl3 pp3 p5 p7 p2 hx2 e2
    -- primes = sorted({**here, **near, **far})
    intro u hu
    have nu1 : u ≠ d1 := (ne_of_none k1 hu).symm
    have nu2 : u ≠ d2 := (ne_of_none k2 hu).symm
    have nu3 : u ≠ d3 := (ne_of_none k3 hu).symm
    have l2 := facN_len3 b2
    have l3 := facN_len3 c2
    refine ⟨_, rfl, d1, _, [], rfl, by rw [upd_ne nu1.symm]; exact k1, upd_same, nu1, by rw [List.length_map]; exact small_line (by show 0 + _ ≤ 1000; omega), ?_⟩
    rw [upd_upd, merge_entI (nodup_asc clasc)]
    refine ⟨_, rfl, d2, _, _, rfl, by rw [upd_ne nu2.symm]; exact k2, upd_same, nu2, by rw [List.length_map, List.length_map]; exact small_line (by omega), ?_⟩
    rw [upd_upd, merge_mapI]
    have l4 := merge_len (toI (facN b)) (clF l a)
    refine ⟨_, rfl, d3, _, _, rfl, by rw [upd_ne nu3.symm]; exact k3, upd_same, nu3, by rw [List.length_map, List.length_map]; exact small_line (by omega), ?_⟩
    rw [upd_upd, merge_mapI]
    have l5 := merge_len (toI (facN c)) (mergeI (clF l a) (toI (facN b)))
    refine ⟨u, _, (mergeI (mergeI (clF l a) (toI (facN b))) (toI (facN c))).map (·.1), rfl, .inl upd_same, by rw [List.map_map, List.map_map]; rfl, by rw [List.length_map]; omega, fun ys pr perm rise hpr => ?_⟩
    have ylen : ys.length ≤ 18 := by
      have := perm.length_eq
      rw [List.length_map] at this
      omega
    have e10 := (Ext.new hu (.dK ((mergeI (mergeI (clF l a) (toI (facN b))) (toI (facN c))).map entI))).trans (Ext.new hpr (.lst (ys.map V.int)))
    have hys : upd (upd H8 u (.dK ((mergeI (mergeI (clF l a) (toI (facN b))) (toI (facN c))).map entI))) pr (.lst (ys.map V.int)) pr = some (.lst (ys.map V.int)) := upd_same
    generalize upd (upd H8 u (.dK ((mergeI (mergeI (clF l a) (toI (facN b))) (toI (facN c))).map entI))) pr (.lst (ys.map V.int)) = H10 at e10 hys ⊢
    have ykeys : ∀ y, y ∈ ys ↔ y ∈ (clF l a).map (·.1) ∨ y ∈ (toI (facN b)).map (·.1) ∨ y ∈ (toI (facN c)).map (·.1) := fun y => by
      rw [perm.mem_iff, merge_keys, merge_keys, or_assoc]
    have yasc : ys.Pairwise (· < ·) := by
      have nd : ys.Nodup := perm.nodup_iff.mpr (merge_nodup _ _ (merge_nodup _ _ (nodup_asc clasc)))
      exact (List.pairwise_and_iff.mpr ⟨rise, nd⟩).imp fun {x y} h => by
        have h1 : x ≤ y := h.1
        have h2 : x ≠ y := h.2
        omega
    -- self.spans = []
    have hx10 := e10 _ _ hx9
    refine ⟨by show 0 ≤ sizeLine; decide, fun sl hsl => ⟨_, rfl, x, CC K, dx, _, rfl, (Ext.new hsl _) _ _ hx10, T.c_Core, T.n_Core_spans, by show 3 < 1000; decide, ?_⟩⟩
    have nxs : x ≠ sl := ne_of_none hx10 hsl
    have n1 := ne_of_none (e10 _ _ k1) hsl
    have n2 := ne_of_none (e10 _ _ k2) hsl
    have n3 := ne_of_none (e10 _ _ k3) hsl
    have nsp := ne_of_none hys hsl
    have hx11 : upd (upd H10 sl (.lst [])) x (.ins (CC K) dx (putF "spans" (.ref sl) (putF "factors" (.ref t2) (putF "modulus" (.int (modF l a)) (putF "rule" (.ref r) []))))) x = some (.ins (CC K) dx (cf r (modF l a) t2 sl)) := upd_same
    have hs11 : upd (upd H10 sl (.lst [])) x (.ins (CC K) dx (putF "spans" (.ref sl) (putF "factors" (.ref t2) (putF "modulus" (.int (modF l a)) (putF "rule" (.ref r) []))))) sl = some (.lst []) := by rw [upd_ne nxs.symm, upd_same]
    have e11 : But x H10 (upd (upd H10 sl (.lst [])) x (.ins (CC K) dx (putF "spans" (.ref sl) (putF "factors" (.ref t2) (putF "modulus" (.int (modF l a)) (putF "rule" (.ref r) [])))))) := fun y o e ne => by
      rw [upd_ne ne, upd_ne (ne_of_none e hsl)]
      exact e
    generalize upd (upd H10 sl (.lst [])) x (.ins (CC K) dx (putF "spans" (.ref sl) (putF "factors" (.ref t2) (putF "modulus" (.int (modF l a)) (putF "rule" (.ref r) []))))) = H11 at hx11 hs11 e11 ⊢
    have hk : ∀ y o, H10 y = some o → (∀ C dx fs, o ≠ .ins C dx fs) → H11 y = some o := fun y o e hno => e11 _ _ e fun z => by
      rw [z, hx10] at e
      exact hno _ _ _ (Option.some.inj e).symm
    have k1 := hk _ _ (e10 _ _ k1) (by intro _ _ _ z; cases z)
    have k2 := hk _ _ (e10 _ _ k2) (by intro _ _ _ z; cases z)
    have k3 := hk _ _ (e10 _ _ k3) (by intro _ _ _ z; cases z)
    have hys := hk _ _ hys (by intro _ _ _ z; cases z)
    have p11 : PairsAt K H11 t2 (clF l a) := (p9'.ext e10).but e11 hx10
    have b11 : But x H H11 := fun y o e ne => e11 _ _ (e10 _ _ (bH8 _ _ e ne)) ne
    -- the loop
    refine ⟨_, rfl, pr, rfl, ⟨_, SqL.of hys⟩, ?_⟩
    refine for_list (xs := ys.map V.int) (fun i σ H' => ∃ (u v : Option V), σ = [some (.ref x), some (.ref r), some (.ref n), some (.int sh), some (.ref d1), some (.ref d2), some (.ref d3), some (.ref pr), u, v] ∧ (∀ y o, H11 y = some o → y ≠ sl → H' y = some o) ∧ TrisAt H' sl ((ys.take i).map (spanOf (clF l a) b c)))
      ⟨_, _, rfl, fun _ _ e _ => e, [], hs11, .nil⟩ ?_ ?_ ?_
    · rintro i σ H' _ ⟨u, v, rfl, e, _⟩
      exact SqL.of (e _ _ hys nsp)
    · rintro i y0 σ H' hy0 ⟨u, v, rfl, e, ts, hts, hpt⟩
      rw [List.getElem?_map] at hy0
      obtain ⟨y, hy, rfl⟩ := Option.map_eq_some_iff.mp hy0
      have tk : ys.take (i + 1) = ys.take i ++ [y] := by rw [List.take_add_one, hy] <;> rfl
      have il := (List.getElem?_eq_some_iff.mp hy).1
      have tl : ts.length = i := by rw [hpt.length, List.length_map, List.length_take]; omega
      have k1 := e _ _ k1 n1
      have k2 := e _ _ k2 n2
      have k3 := e _ _ k3 n3
      have hx' := e _ _ hx11 nxs
      refine ⟨_, rfl, d1, rfl, .inl ⟨_, .inl k1⟩, _, rfl, _, .inl ⟨(clF l a).map entI, Sum.inl y, .inl k1, rfl, rfl⟩, ?_⟩
      rw [getD_entI]
      refine ⟨_, rfl, x, CC K, dx, _, _, rfl, hx', T.c_Core, T.n_Core_spans, cf_spans _ _ _ _, .inl ⟨rfl, _, SqL.of hts⟩, ?_⟩
      refine ⟨_, rfl, _, rfl, _, rfl, _, rfl, d2, rfl, .inl ⟨_, .inl k2⟩, _, rfl, _, .inl ⟨(toI (facN b)).map entI, Sum.inl y, .inl k2, rfl, rfl⟩, ?_⟩
      rw [getD_entI]
      refine ⟨_, _, rfl, rfl, _, rfl, _, rfl, d3, rfl, .inl ⟨_, .inl k3⟩, _, rfl, _, .inl ⟨(toI (facN c)).map entI, Sum.inl y, .inl k3, rfl, rfl⟩, ?_⟩
      rw [getD_entI]
      refine ⟨_, _, rfl, rfl, by show 3 ≤ sizeLine; decide, fun tp htp => ?_⟩
      have nst : sl ≠ tp := ne_of_none hts htp
      refine ⟨sl, _, _, rfl, rfl, by rw [upd_ne nst]; exact hts, by rw [List.length_map]; exact small_lt (by omega), ?_⟩
      refine ⟨_, _, rfl, fun z o e' ne => ?_, ts ++ [tp], by rw [upd_same, List.map_append]; rfl, ?_⟩
      · rw [upd_ne ne, upd_ne (ne_of_none (e _ _ e' ne) htp)]
        exact e _ _ e' ne
      · rw [tk, List.map_append]
        refine Paired.snoc (L2.Paired.mapP hpt fun q z w => ?_) ?_
        · rw [upd_ne (ne_of w hts (by intro z; cases z)), upd_ne (ne_of_none w htp)]
          exact w
        · rw [upd_ne nst.symm, upd_same]
          rfl
    · rintro σ H' ⟨u, v, rfl, e, tri⟩
      have hyl : (ys.map V.int).length = ys.length := List.length_map _
      rw [hyl, List.take_length] at tri
      refine q _ H' ⟨⟨dx, t2, sl, e _ _ hx11 nxs, ?_, tri⟩, ⟨?_, fun y => ?_, fun q hq => ?_⟩⟩ fun y o e' ne => e _ _ (b11 _ _ e' ne) (ne_of_none (e10 _ _ (bH8 _ _ e' ne)) hsl)
      · exact (p9'.ext e10).but (fun y o e' ne => e _ _ (e11 _ _ e' ne) (ne_of_none e' hsl)) hx10
      · rw [List.pairwise_map]
        exact yasc
      · rw [List.map_map]
        rw [← ykeys y]
        have : ys.map ((fun x : Int × Int × Int => x.1) ∘ spanOf (clF l a) b c) = ys := (List.map_congr_left fun _ _ => rfl).trans (List.map_id ys)
        rw [this]
      · obtain ⟨y, _, rfl⟩ := List.mem_map.mp hq
        exact ⟨rfl, rfl⟩
end
end K75

set_option Elab.async false
set_option linter.all false
set_option maxRecDepth 100000
set_option maxHeartbeats 4000000
namespace K75
open PySem PySem.Spec PyProof.Rows L2 Bk Evl
/-- a row of nats -/
abbrev nv (L : List Nat) : List V := L.map fun k => V.int (k : Nat)
theorem nv_map {α : Type} (f : α → Nat) (l : List α) : nv (l.map f) = l.map fun x => V.int (f x : Nat) := by
  show (l.map f).map _ = _
  rw [List.map_map]
  rfl
theorem nv_at {L : List Nat} {i : Nat} {x : V} (h : (nv L)[i]? = some x) : ∃ k, L[i]? = some k ∧ x = V.int (k : Nat) := by
  rw [List.getElem?_map] at h
  obtain ⟨k, hk, rfl⟩ := Option.map_eq_some_iff.mp h
  exact ⟨k, hk, rfl⟩
theorem given_all (n : Nat) (v : Nat → V) : given n (fun _ => true) v = (List.range n).map v := by
  unfold given
  rw [List.filter_eq_self.mpr fun _ _ => rfl]
section
variable {P : Program} {w : World} {K : PySem.W.Frag} {mg : Str → Option Value} {base : Heap}
/-! ### powers_of -/
def spPowersOf (K : PySem.W.Frag) : Sp := fun vs H Q _ => ∃ (b m : Nat) (lo hi : Int), vs = [.int b, .int m, .int lo, .int hi] ∧ (1 ≤ m ∧ m ≤ 12) ∧ b < m ∧ Nat.gcd b m = 1 ∧ (lo ≤ 0 ∧ 0 ≤ hi) ∧
  ∀ f L H', H' f = some (.lst (nv L)) → (∀ x, x ∈ L ↔ ∃ e : Int, (lo ≤ e ∧ e ≤ hi) ∧ x = pw b e m) → L.length ≤ 12 → H f = none → Ext H H' → Q (.ref f) H'
theorem sc_powers_of : FnScope ["rest", "modulus", "low", "high", "found", "exponent"] ["rest", "modulus", "low", "high"] (defScope s_powers_of) := ⟨rfl, rfl, rfl, by decide +kernel, rfl, by decide +kernel, by decide +kernel⟩
theorem ok_powers_of (T : Txt K mg) : Ok P w K mg base 2 (He.ga K "powers_of") ["rest", "modulus", "low", "high"] (spPowersOf K) := by
  obtain ⟨fd_powers, F_powers, b_powers, k_powers, _⟩ := (ok_powers (P := P) (w := w) (base := base) T).ex
  refine fd_ok T.f_powers_of sc_powers_of (fun vs H Q E h => ?_) (fun _ _ _ _ _ _ us hl => match us, hl with | [_, _, _, _], _ => rfl) (fun cdv A outer s H vs Q E hr h => ?_)
  · obtain ⟨b, m, lo, hi, rfl, _⟩ := h
    rfl
  · obtain ⟨b, m, lo, hi, rfl, ⟨m1, m2⟩, hb, hg, ⟨hlo, hhi⟩, q⟩ := h
    have nd := sc_powers_of.nd
    refine ⟨_, (pss_cons (ps_set (i := 4) nd rfl (Or.inr rfl) (pe_call F_powers (hr.mono (by decide)) rfl T.g_powers k_powers b_powers .nil pass0 (pa_cons (pv 0) (pa_cons (pv 1) pa_nil)))) (pss_cons (ps_if (pt_cmpR op_ge (pe_op op_sub (pv 3) (pv 2)) (pe_callB call_len_seq rfl T.z_len (by decide +kernel) (pa_cons (pv 4) pa_nil)) (nomark _)) (pss_one (ps_ret (pv 4))) pss_nil) (pss_one (ps_ret (pe_lc (own := [("exponent", 5)]) (g := (gName 5)) (tt := tYes) rfl nd (pi_range2 rfl T.z_range (pa_cons (pv 2) (pa_cons (pe_op op_add (pv 3) pe_int) pa_nil))) (blkOk_by (own := [("exponent", 5)]) (N := ["rest", "modulus", "low", "high", "found", "exponent"]) (sc := defScope s_powers_of) (by decide +kernel)) (fun _ _ _ _ _ => (pg_name (i := 5) nd rfl (Or.inl rfl))) (fun _ _ _ _ _ => pts_nil) (fun _ _ _ _ _ => (pe_ix (ixK (K0 := K) (r := rIxL) ix_list) (pv 4) (pe_op op_mod (pe_callTy call_int1 rfl T.z_int (by decide +kernel) (pa_cons (pv 5) pa_nil)) (pe_callB (callK (K0 := K) (r := rLenQ) call_lenS) rfl T.z_len (by decide +kernel) (pa_cons (pv 4) pa_nil))) (by intro _ _; rfl)))))))), ?_⟩
    refine ⟨_, rfl, _, rfl, b, m, rfl, ⟨m1, by omega⟩, by omega, fun f k H1 hf k1 nd hk hf0 e1 => ?_⟩
    obtain ⟨o1, o2, o3⟩ := ord_of m1 m2 hb hg k1 nd hk
    refine ⟨_, rfl, _, rfl, _, _, rfl, rfl, _, rfl, f, _, rfl, .inl (SqL.of hf), _, _, rfl, rfl, _, rfl, ?_⟩
    rw [List.length_map, powL_len]
    refine ite2 (fun hd => ?_) (fun hd => ?_)
    · have hd' : (k : Int) ≤ hi - lo := of_decide_eq_true hd
      exact ⟨_, rfl, q f _ H1 hf (powL_all k1 o1 o2 hd') (by rw [powL_len]; exact o3) hf0 e1⟩
    · have hd' : ¬ (k : Int) ≤ hi - lo := fun z => hd (decide_eq_true z)
      refine ⟨_, rfl, _, rfl, _, _, rfl, rfl, lo, hi + 1, rfl, ⟨by omega, by omega, by omega, by omega⟩, fun D hD => ?_⟩
      refine lc_range (lo := lo) (n := (hi + 1 - lo).toNat) (Cw H1 (fun _ => true) (fun i => V.int (pw b (lo + (i : Int)) m : Nat)) D) ⟨hD, Ex.new hD, upd_same⟩ (fun i H5 hi5 p => ?_) (fun H5 p => ?_)
      · refine ⟨rfl, cw_turn p (by omega) (fun H6 e Q q => q H6 (Ex.refl H6)) (fun _ H6 e Q q => ?_)⟩
        have hf6 := e _ _ hf
        obtain ⟨j1, j2⟩ := powL_at (e := lo + (i : Int)) k1 o1 o2
        have hnn := Int.emod_nonneg (lo + (i : Int)) (show (k : Int) ≠ 0 by omega)
        refine ⟨_, rfl, _, rfl, .inl ⟨_, rfl, _, rfl, f, _, rfl, .inl (SqL.of hf6), _, _, rfl, rfl, ?_, f, _, _, V.int (pw b (lo + (i : Int)) m : Nat), rfl, rfl, SqL.of hf6, ?_, q H6 (Ex.refl H6)⟩⟩
        · rw [List.length_map, powL_len]
          omega
        · rw [List.length_map, powL_len]
          rw [show (lo + (i : Int)) % (k : Int) = (((lo + (i : Int)) % (k : Int)).toNat : Int) by omega]
          exact atI_nat (by rw [List.getElem?_map, j2]; rfl)
      · obtain ⟨p1, p2, p3⟩ := p
        rw [given_all] at p3
        refine q D ((List.range (hi + 1 - lo).toNat).map fun i : Nat => pw b (lo + (i : Int)) m) H5 (by rw [p3, nv_map]) (fun x => ?_) (by rw [List.length_map, List.length_range]; omega) ?_ (e1.trans p2)
        · rw [List.mem_map]
          constructor
          · rintro ⟨i, h1, rfl⟩
            have := List.mem_range.mp h1
            exact ⟨lo + i, by omega, rfl⟩
          · rintro ⟨e, h1, rfl⟩
            exact ⟨(e - lo).toNat, List.mem_range.mpr (by omega), by rw [show lo + (((e - lo).toNat : Nat) : Int) = e by omega]⟩
        · cases z : H D with
          | none => rfl
          | some o => rw [e1 _ _ z] at hD; cases hD
/-! ### spread -/
def tabT (ks : List Nat) : List (Key × V) := ks.map fun k : Nat => ((Sum.inl (k : Int) : Key), V.bl true)
theorem putK_tabT (ks : List Nat) (k : Nat) : putK (tabT ks) (Sum.inl (k : Int) : Key) (.bl true) = tabT (if k ∈ ks then ks else ks ++ [k]) := by
  unfold putK
  have e : ((tabT ks).any fun kv => decide (kv.1 = (Sum.inl (k : Int) : Key))) = decide (k ∈ ks) := by
    unfold tabT
    rw [List.any_map]
    rw [Bool.eq_iff_iff, List.any_eq_true, decide_eq_true_iff]
    constructor
    · rintro ⟨y, hy, h⟩
      have := Sum.inl.inj (of_decide_eq_true h)
      have : y = k := by omega
      rwa [← this]
    · intro h
      exact ⟨k, h, decide_eq_true rfl⟩
  rw [e]
  by_cases h : k ∈ ks
  · rw [decide_eq_true h, if_pos rfl, if_pos h]
    unfold tabT
    rw [List.map_map]
    refine List.map_congr_left fun y _ => ?_
    show (if (Sum.inl (y : Int) : Key) = Sum.inl (k : Int) then ((Sum.inl (y : Int) : Key), V.bl true) else _) = _
    split <;> rfl
  · rw [decide_eq_false h, if_neg Bool.false_ne_true, if_neg h]
    unfold tabT
    rw [List.map_append]
    rfl
theorem put_nodup {ks : List Nat} {k : Nat} (h : ks.Nodup) : (if k ∈ ks then ks else ks ++ [k]).Nodup := by
  split
  · exact h
  · rename_i hk
    rw [List.nodup_append]
    exact ⟨h, by simp, fun a ha b hb z => hk (by simp at hb; rw [← hb, ← z]; exact ha)⟩
theorem put_mem {ks : List Nat} {k x : Nat} : x ∈ (if k ∈ ks then ks else ks ++ [k]) ↔ x ∈ ks ∨ x = k := by
  split
  · rename_i hk
    exact ⟨.inl, fun z => z.elim id fun z => z ▸ hk⟩
  · simp
theorem nodup_lt {ks : List Nat} {m : Nat} (h : ks.Nodup) (hb : ∀ x ∈ ks, x < m) : ks.length ≤ m := by
  have h := List.Nodup.length_le_of_subset h (l₂ := List.range m) fun x hx => List.mem_range.mpr (hb x hx)
  rwa [List.length_range] at h
def spSpread (K : PySem.W.Frag) : Sp := fun vs H Q _ => ∃ (t a : Addr) (L B : List Nat) (m : Nat), vs = [.ref t, .ref a, .int m] ∧ SqT K H t (nv L) ∧ (SqL K H a (nv B) ∨ SqT K H a (nv B)) ∧ (1 ≤ m ∧ m ≤ 12) ∧ (∀ x ∈ L, x ≤ 1000000) ∧
  ∀ t' R H', PlT K H' t' (nv R) → RowOf m (fun x => ∃ r ∈ L, ∃ b ∈ B, x = r * b % m) R → Ext H H' → Q (.ref t') H'
theorem sc_spread : FnScope ["rests", "bases", "modulus", "found", "rest", "base"] ["rests", "bases", "modulus"] (defScope s_spread) := ⟨rfl, rfl, rfl, by decide +kernel, rfl, by decide +kernel, by decide +kernel⟩
theorem ok_spread (T : Txt K mg) : Ok P w K mg base 1 (He.ga K "spread") ["rests", "bases", "modulus"] (spSpread K) := by
  refine fd_ok T.f_spread sc_spread (fun vs H Q E h => ?_) (fun _ _ _ _ _ _ us hl => match us, hl with | [_, _, _], _ => rfl) (fun cdv A outer s H vs Q E hr h => ?_)
  · obtain ⟨t, a, L, B, m, rfl, _⟩ := h
    rfl
  · obtain ⟨t, a, L, B, m, rfl, hL, hB, ⟨m1, m2⟩, hx, q⟩ := h
    have nd := sc_spread.nd
    refine ⟨_, (pss_cons (ps_setDc2 (i := 3) (own := [("rest", 4), ("base", 5)]) (g := (gName 4)) (g1 := (gName 5)) (us := [5]) rfl nd rfl rfl (sw_trueD rfl rfl rfl (by decide +kernel)) (pi_tup (pv 0)) (blkOk_by (own := [("rest", 4), ("base", 5)]) (N := ["rests", "bases", "modulus", "found", "rest", "base"]) (sc := defScope s_spread) (by decide +kernel)) (by decide) (fun _ _ _ _ _ => (pg_name (i := 4) nd rfl (Or.inl rfl))) (fun _ _ _ _ _ => (piLtK (K0 := K) (pv 1))) (fun _ _ _ _ _ => (pg_name (i := 5) nd rfl (Or.inl rfl))) (fun _ _ _ _ _ => (pe_op op_mod (pe_callTy call_int1 rfl T.z_int (by decide +kernel) (pa_cons (pe_op op_mul (pv 4) (pv 5)) pa_nil)) (pv 2))) (fun _ _ _ _ _ => pe_bl)) (pss_one (ps_ret (pe_tupleP rfl T.z_tuple (pe_callB (call_sortedDI rfl) rfl T.z_sorted (by decide +kernel) (pa_cons (pv 3) pa_nil)))))), ?_⟩
    refine ⟨_, rfl, t, rfl, ⟨_, hL⟩, fun D hD => ?_⟩
    refine dc2_seq itseq_t (xs := nv L) (fun i H' => Ext H H' ∧ ∃ ks : List Nat, H' D = some (.dK (tabT ks)) ∧ ks.Nodup ∧ ∀ x, x ∈ ks ↔ ∃ r ∈ L.take i, ∃ b ∈ B, x = r * b % m) ⟨Ext.new hD _, [], upd_same, .nil, fun x => by simp⟩ (fun i H' _ p => sqt_ext hL p.1) (fun i x H' hx' p => ?_) (fun H' p => ?_) ?_ gName_mono
    · obtain ⟨r, hr, rfl⟩ := nv_at hx'
      have rb := hx r (List.mem_of_getElem? hr)
      have tk : L.take (i + 1) = L.take i ++ [r] := by rw [List.take_add_one, hr] <;> rfl
      refine ⟨rfl, _, rfl, a, nv B, rfl, ?_⟩
      have inner : ∃ (Pw : Nat → Hp → Prop), Pw 0 H' ∧ (∀ j H'', j ≤ (nv B).length → Pw j H'' → Ext H H'') ∧
          (∀ j y H'', (nv B)[j]? = some y → Pw j H'' → ∃ b, B[j]? = some b ∧ y = V.int (b : Nat) ∧ ∃ kvs k, V.int ((r : Int) * (b : Int) % (m : Int)) = kV k ∧ H'' D = some (.dK kvs) ∧ kvs.length < sizeLine ∧ Pw (j + 1) (upd H'' D (.dK (putK kvs k (.bl true))))) ∧
          ∀ H'', Pw (nv B).length H'' → Ext H H'' ∧ ∃ ks : List Nat, H'' D = some (.dK (tabT ks)) ∧ ks.Nodup ∧ ∀ x, x ∈ ks ↔ ∃ r ∈ L.take (i + 1), ∃ b ∈ B, x = r * b % m := by
        obtain ⟨e, ks, hks, nd, hm⟩ := p
        refine ⟨fun j H'' => Ext H H'' ∧ ∃ ks : List Nat, H'' D = some (.dK (tabT ks)) ∧ ks.Nodup ∧ ∀ x, x ∈ ks ↔ (∃ r ∈ L.take i, ∃ b ∈ B, x = r * b % m) ∨ ∃ b ∈ B.take j, x = r * b % m, ⟨e, ks, hks, nd, fun x => by rw [hm]; simp⟩, fun j H'' _ p => p.1, fun j y H'' hy p => ?_, fun H'' p => ?_⟩
        · obtain ⟨b, hb, rfl⟩ := nv_at hy
          obtain ⟨e, ks, hks, nd, hm⟩ := p
          have tk2 : B.take (j + 1) = B.take j ++ [b] := by rw [List.take_add_one, hb] <;> rfl
          have kl : ks.length ≤ m := nodup_lt nd fun x hx => by
            rcases (hm x).mp hx with ⟨_, _, _, _, rfl⟩ | ⟨_, _, rfl⟩ <;> exact Nat.mod_lt _ m1
          have ek : V.int ((r : Int) * (b : Int) % (m : Int)) = kV (Sum.inl ((r * b % m : Nat) : Int) : Key) := by
            show _ = V.int _
            rw [Int.natCast_emod, Int.natCast_mul]
          refine ⟨b, hb, rfl, _, _, ek, hks, by unfold tabT; rw [List.length_map]; exact small_lt (by omega), e.mut hD _, _, by rw [upd_same, putK_tabT], put_nodup nd, fun x => ?_⟩
          rw [put_mem, hm, tk2]
          constructor
          · rintro ((h | ⟨b', h1, h2⟩) | h)
            · exact .inl h
            · exact .inr ⟨b', List.mem_append_left _ h1, h2⟩
            · exact .inr ⟨b, by simp, h⟩
          · rintro (h | ⟨b', h1, h2⟩)
            · exact .inl (.inl h)
            · rcases List.mem_append.mp h1 with z | z
              · exact .inl (.inr ⟨b', z, h2⟩)
              · simp at z
                exact .inr (z ▸ h2)
        · obtain ⟨e, ks, hks, nd, hm⟩ := p
          refine ⟨e, ks, hks, nd, fun x => ?_⟩
          rw [hm, List.length_map, List.take_length, tk]
          constructor
          · rintro (⟨r', h1, h2⟩ | ⟨b, h1, h2⟩)
            · exact ⟨r', List.mem_append_left _ h1, h2⟩
            · exact ⟨r, by simp, b, h1, h2⟩
          · rintro ⟨r', h1, h2⟩
            rcases List.mem_append.mp h1 with z | z
            · exact .inl ⟨r', z, h2⟩
            · simp at z
              subst z
              exact .inr h2
      obtain ⟨Pw, w0, w1, w2, w3⟩ := inner
      have turn : ∀ (j : Nat) (y : V) (H'' : Hp), (nv B)[j]? = some y → Pw j H'' → _ := fun j y H'' hy p => w2 j y H'' hy p
      rcases hB with hB | hB
      · refine .inl ⟨sql_ext hB p.1, nv B, _, Pw, itseq_l, w0, fun j H'' hj pw => sql_ext hB (w1 j H'' hj pw), fun j y H'' hy pw => ?_, w3⟩
        obtain ⟨b, hb, rfl, kvs, k, g1, g2, g3, g4⟩ := w2 j y H'' hy pw
        exact ⟨rfl, _, rfl, _, rfl, _, _, rfl, rfl, .inl ⟨by omega, by omega⟩, .inl ⟨_, rfl, _, rfl, _, _, rfl, rfl, by omega, kvs, k, g1, g2, g3, g4⟩⟩
      · refine .inr ⟨sqt_ext hB p.1, nv B, _, Pw, itseq_t, w0, fun j H'' hj pw => sqt_ext hB (w1 j H'' hj pw), fun j y H'' hy pw => ?_, w3⟩
        obtain ⟨b, hb, rfl, kvs, k, g1, g2, g3, g4⟩ := w2 j y H'' hy pw
        exact ⟨rfl, _, rfl, _, rfl, _, _, rfl, rfl, .inl ⟨by omega, by omega⟩, .inl ⟨_, rfl, _, rfl, _, _, rfl, rfl, by omega, kvs, k, g1, g2, g3, g4⟩⟩
    · obtain ⟨e, ks, hks, nd, hm⟩ := p
      rw [List.length_map, List.take_length] at hm
      have klt : ∀ x ∈ ks, x < m := fun x hx => by
        obtain ⟨_, _, _, _, rfl⟩ := (hm x).mp hx
        exact Nat.mod_lt _ m1
      have kl := nodup_lt nd klt
      refine ⟨_, rfl, D, _, ks.map fun k : Nat => (k : Int), rfl, .inl hks, by unfold tabT; rw [List.map_map, List.map_map]; rfl, by rw [List.length_map]; omega, fun ys p perm rise hp => ?_⟩
      refine ⟨p, _, rfl, SqL.of upd_same, fun t' o ht oc od => ?_⟩
      have pos : ∀ y ∈ ys, 0 ≤ y := fun y hy => by
        obtain ⟨k, _, rfl⟩ := List.mem_map.mp (perm.mem_iff.mp hy)
        omega
      have eys : ys.map V.int = nv (ys.map Int.toNat) := by
        show _ = (ys.map Int.toNat).map fun k : Nat => V.int (k : Int)
        rw [List.map_map]
        refine List.map_congr_left fun y hy => ?_
        show V.int y = V.int ((y.toNat : Nat) : Int)
        rw [Int.toNat_of_nonneg (pos y hy)]
      have e3 := e.trans (Ext.new hp (.lst (ys.map V.int)))
      rw [eys] at e3 ht ⊢
      refine q t' (ys.map Int.toNat) _ (plt_new oc od) ⟨?_, fun x => ?_, fun x hx => ?_⟩ (e3.trans (Ext.new ht _))
      · rw [List.pairwise_map]
        have n1 : ys.Nodup := perm.nodup_iff.mpr (List.Pairwise.map _ (fun a b (h : a ≠ b) z => h (by omega)) nd)
        refine (List.pairwise_and_iff.mpr ⟨rise, n1⟩).imp_of_mem fun {a b} ha hb h => ?_
        have h1 : a ≤ b := h.1
        have h2 : a ≠ b := h.2
        have := pos a ha
        omega
      · rw [← hm, List.mem_map]
        constructor
        · rintro ⟨y, hy, rfl⟩
          obtain ⟨k, hk, rfl⟩ := List.mem_map.mp (perm.mem_iff.mp hy)
          exact hk
        · intro hx
          exact ⟨(x : Int), perm.mem_iff.mpr (List.mem_map.mpr ⟨x, hx, rfl⟩), rfl⟩
      · obtain ⟨y, hy, rfl⟩ := List.mem_map.mp hx
        obtain ⟨k, hk, rfl⟩ := List.mem_map.mp (perm.mem_iff.mp hy)
        exact klt k hk
    · rintro σ H' R R' ⟨v, hv, b, xs, e, h⟩ k
      exact ⟨v, hv, b, xs, e, h.imp (fun z => ⟨z.1, k _ _ z.2⟩) fun z => ⟨z.1, k _ _ z.2⟩⟩
end
end K75

set_option Elab.async false
set_option linter.all false
set_option maxRecDepth 100000
set_option maxHeartbeats 4000000
namespace K75
open PySem PySem.Spec PyProof.Rows L2 Bk Evl
def spanU (m b c : Nat) (g : Int → Int) (u : Nat) : Nat × Int × Int := (u, -(g u) - nearR m b u, g u + nearR m c u)
/-- the spans of a pattern with g of each rest -/
def spansU (m b c : Nat) (g : Int → Int) : Sps := (unitsL m).map (spanU m b c g)
theorem sumR_nonneg {m x : Int} : ∀ {l : Prs}, (∀ q ∈ l, 0 ≤ q.2) → 0 ≤ sumR m x l
  | [], _ => Int.le_refl 0
  | q :: l, h => by
    have h1 := h q List.mem_cons_self
    have h2 := sumR_nonneg (m := m) (x := x) fun q' hq' => h q' (List.mem_cons_of_mem _ hq')
    show 0 ≤ (if q.1 % m = x then q.2 else 0) + sumR m x l
    split <;> omega
theorem nearR_nonneg (m b : Nat) (u : Int) : 0 ≤ nearR m b u := by
  unfold nearR
  split
  · refine sumR_nonneg fun q hq => ?_
    obtain ⟨y, _, rfl⟩ := List.mem_map.mp hq
    exact Int.natCast_nonneg _
  · exact Int.le_refl 0
theorem getI_nonneg : ∀ {L : Prs} (x : Int), (∀ e ∈ L, 0 ≤ e.2) → 0 ≤ getI L x
  | [], x, _ => Int.le_refl 0
  | e :: L, x, h => by
    rw [getI_cons]
    split
    · exact h e List.mem_cons_self
    · exact getI_nonneg x fun e' he' => h e' (List.mem_cons_of_mem _ he')
theorem mem_unitsL {m u : Nat} : u ∈ unitsL m ↔ u < m ∧ Nat.gcd u m = 1 := by
  unfold unitsL
  rw [List.mem_filter, List.mem_range, decide_eq_true_iff]
/-- a pattern's counts: its keys ascend, none is negative -/
structure CntOk (L : Prs) : Prop where
  asc : L.Pairwise fun e f => e.1 < f.1
  nn : ∀ e ∈ L, 0 ≤ e.2
end K75

set_option Elab.async false
set_option linter.all false
set_option maxRecDepth 100000
set_option maxHeartbeats 4000000
namespace K75
open PySem PySem.Spec PyProof.Rows L2 Bk Evl
/-! Plain data of any depth, given to the checker. -/
section
variable {K : PySem.W.Frag}
mutual
theorem Dp.ext {H H' : Hp} (k : Ext H H') : ∀ (d : PyData) (v : V), Dp K H v d → Dp K H' v d
  | .none, _, h => by cases h; exact .non
  | .bool b, _, h => by cases h; exact .bl b
  | .int i, _, h => by cases h; exact .int i
  | .str x, _, h => by cases h; exact .str x
  | .list ds, _, h => by
    cases h with
    | lst hs ha => exact .lst (sql_ext hs k) (Dp.extAll k ds _ ha)
  | .tuple ds, _, h => by
    cases h with
    | tup hs ha => exact .tup (sqt_ext hs k) (Dp.extAll k ds _ ha)
  | .dict _, _, h => by cases h
theorem Dp.extAll {H H' : Hp} (k : Ext H H') : ∀ (ds : List PyData) (vs : List V), DpAll K H vs ds → DpAll K H' vs ds
  | [], _, h => by cases h; exact .nil
  | d :: ds, _, h => by
    cases h with
    | cons h1 h2 => exact .cons (Dp.ext k d _ h1) (Dp.extAll k ds _ h2)
end
theorem dpall_len {H : Hp} : ∀ {vs : List V} {ds : List PyData}, DpAll K H vs ds → vs.length = ds.length
  | _, _, .nil => rfl
  | _, _, .cons _ h => congrArg (· + 1) (dpall_len h)
theorem dpall_at {H : Hp} : ∀ {vs : List V} {ds : List PyData}, DpAll K H vs ds → ∀ {i : Nat} {x : V}, vs[i]? = some x → ∃ d, ds[i]? = some d ∧ Dp K H x d
  | _, _, .nil, i, x, h => by cases h
  | _, _, .cons h1 h2, 0, x, h => by
    cases h
    exact ⟨_, rfl, h1⟩
  | _, _, .cons h1 h2, i + 1, x, h => dpall_at h2 (i := i) h
theorem dpall_atD {H : Hp} : ∀ {vs : List V} {ds : List PyData}, DpAll K H vs ds → ∀ {i : Nat} {d : PyData}, ds[i]? = some d → ∃ x, vs[i]? = some x ∧ Dp K H x d
  | _, _, .nil, i, x, h => by cases h
  | _, _, .cons h1 h2, 0, x, h => by
    cases h
    exact ⟨_, rfl, h1⟩
  | _, _, .cons h1 h2, i + 1, x, h => dpall_atD h2 (i := i) h
theorem tyx_lst {H : Hp} {a : Addr} {xs : List V} (h : SqL K H a xs) : TyX K H (.ref a) (.type "list") := by
  rcases h with (e | ⟨o, e⟩) | ⟨o, its, n, e, c, _⟩
  · exact .base (.lst e)
  · exact .base (.frz e)
  · exact .kList e c
def tyD : PyData → String
  | .none => "NoneType"
  | .bool _ => "bool"
  | .int _ => "int"
  | .str _ => "str"
  | .list _ => "list"
  | .tuple _ => "tuple"
  | .dict _ => "dict"
theorem tyx_dp {H : Hp} {x : V} {d : PyData} (h : Dp K H x d) : TyX K H x (.type (tyD d)) := by
  cases h with
  | non => exact .base .non
  | bl b => exact .base (.bl b)
  | int i => exact .base (.int i)
  | str x => exact .base (.str x)
  | lst h _ => exact tyx_lst h
  | tup h _ => exact tyx_tup h
def isI : PyData → Bool
  | .int _ => true
  | _ => false
def isIB : PyData → Bool
  | .int _ => true
  | .bool _ => true
  | _ => false
def isB : PyData → Bool
  | .bool _ => true
  | _ => false
def isT : PyData → Bool
  | .tuple _ => true
  | _ => false
def isS : PyData → Bool
  | .str _ => true
  | _ => false
theorem kit_int (d : PyData) : PySem.W.kitOne K (.type (tyD d)) (.type "int") = some (isIB d) := by cases d <;> rfl
theorem kit_bool (d : PyData) : PySem.W.kitOne K (.type (tyD d)) (.type "bool") = some (isB d) := by cases d <;> rfl
theorem kit_tup (d : PyData) : PySem.W.kitOne K (.type (tyD d)) (.type "tuple") = some (isT d) := by cases d <;> rfl
theorem kit_str (d : PyData) : PySem.W.kitOne K (.type (tyD d)) (.type "str") = some (isS d) := by cases d <;> rfl
theorem isI_eq (d : PyData) : (isIB d && !isB d) = isI d := by cases d <;> rfl
theorem isInt_dp {x : V} {d : PyData} {H : Hp} {Q : VK} {E : XK} (h : Dp K H x d) (q : Q (.bl (isI d)) H) : spIsInt K [x] H Q E :=
  ⟨_, _, isIB d, isB d, rfl, tyx_dp h, kit_int d, kit_bool d, by
    have e : (isIB d && !isB d) = isI d := by cases d <;> rfl
    rw [e]
    exact q⟩
/-- an int from lo to hi -/
def btw (d : PyData) (lo hi : Int) : Bool := match d with
  | .int i => decide (lo ≤ i) && decide (i ≤ hi)
  | _ => false
theorem isI_dp {x : V} {d : PyData} {H : Hp} (h : Dp K H x d) (e : isI d = true) : ∃ i, d = .int i ∧ x = .int i := by
  cases h with
  | int i => exact ⟨i, rfl, rfl⟩
  | _ => cases e
theorem isT_dp {x : V} {d : PyData} {H : Hp} (h : Dp K H x d) (e : isT d = true) : ∃ a xs ds, d = .tuple ds ∧ x = .ref a ∧ SqT K H a xs ∧ DpAll K H xs ds := by
  cases h with
  | tup hs ha => exact ⟨_, _, _, rfl, rfl, hs, ha⟩
  | _ => cases e
/-! rows of nats as data -/
abbrev dN (L : List Nat) : List PyData := L.map fun k => PyData.int (k : Nat)
theorem dpall_nv {H : Hp} : ∀ L : List Nat, DpAll K H (nv L) (dN L)
  | [] => .nil
  | _ :: L => .cons (.int _) (dpall_nv L)
/-- all are ints: a row of ints -/
theorem dpall_ints {H : Hp} : ∀ {vs : List V} {ds : List PyData}, DpAll K H vs ds → (∀ d ∈ ds, isI d = true) → ∃ L : List Int, vs = L.map V.int ∧ ds = L.map PyData.int
  | _, _, .nil, _ => ⟨[], rfl, rfl⟩
  | _, _, .cons h1 h2, e => by
    obtain ⟨i, rfl, rfl⟩ := isI_dp h1 (e _ List.mem_cons_self)
    obtain ⟨L, rfl, rfl⟩ := dpall_ints h2 fun d hd => e d (List.mem_cons_of_mem _ hd)
    exact ⟨i :: L, rfl, rfl⟩
/-- an ascending tuple of ints from 0 to m - 1 -/
def AscL (m : Nat) (L : List Nat) : Prop := L.Pairwise (· < ·) ∧ ∀ k ∈ L, k < m
def RestsD (m : Nat) (d : PyData) : Prop := ∃ L : List Nat, d = .tuple (dN L) ∧ AscL m L
theorem given_bl (n : Nat) (f : Nat → Bool) : given n (fun _ => true) (fun i => V.bl (f i)) = ((List.range n).map f).map V.bl := by
  rw [given_all, List.map_map]
  rfl
open Classical in
noncomputable def dec (p : Prop) : Bool := decide p
theorem dec_iff {p : Prop} : dec p = true ↔ p := by
  unfold dec
  exact @decide_eq_true_iff p (Classical.propDecidable p)
/-- few items -/
def Small (d : PyData) : Prop := ∀ ds, d = .tuple ds → ds.length ≤ 1000
def Small2 (d : PyData) : Prop := Small d ∧ ∀ ds, d = .tuple ds → ∀ e ∈ ds, Small e
theorem all_rng {n : Nat} {f : Nat → Bool} : ((List.range n).map f).all id = true ↔ ∀ i, i < n → f i = true := by
  rw [List.all_map, List.all_eq_true]
  exact ⟨fun h i hi => h i (List.mem_range.mpr hi), fun h i hi => h i (List.mem_range.mp hi)⟩
theorem asc_iff : ∀ L : List Nat, (∀ i, i + 1 < L.length → L.getD i 0 < L.getD (i + 1) 0) ↔ L.Pairwise (· < ·)
  | [] => by simp
  | [a] => by simp
  | a :: b :: L => by
    constructor
    · intro h
      have h1 : a < b := h 0 (by simp)
      have h2 : (b :: L).Pairwise (· < ·) := (asc_iff (b :: L)).mp fun i hi => h (i + 1) (by simp at hi ⊢; omega)
      refine List.pairwise_cons.mpr ⟨fun c hc => ?_, h2⟩
      rcases List.mem_cons.mp hc with rfl | hc
      · exact h1
      · exact Nat.lt_trans h1 ((List.pairwise_cons.mp h2).1 c hc)
    · intro h i hi
      obtain ⟨h1, h2⟩ := List.pairwise_cons.mp h
      match i with
      | 0 => exact h1 b List.mem_cons_self
      | i + 1 => exact (asc_iff (b :: L)).mpr h2 i (by simp at hi ⊢; omega)
theorem dN_inj {L M : List Nat} (h : dN L = dN M) : L = M := by
  induction L generalizing M with
  | nil => cases M with
    | nil => rfl
    | cons => cases h
  | cons a L ih => cases M with
    | nil => cases h
    | cons b M =>
      injection h with h1 h2
      injection h1 with h1
      rw [ih h2, Int.ofNat.inj h1]
theorem dT_inj {L M : List Nat} (h : PyData.tuple (dN L) = .tuple (dN M)) : L = M := by
  injection h with h
  exact dN_inj h
/-- all from 0 to m - 1: a row of nats -/
theorem btw_nats {m : Nat} : ∀ {ds : List PyData}, (∀ d ∈ ds, btw d 0 ((m : Int) - 1) = true) → ∃ L : List Nat, ds = dN L ∧ ∀ k ∈ L, k < m
  | [], _ => ⟨[], rfl, fun k h => by cases h⟩
  | d :: ds, h => by
    obtain ⟨L, rfl, hL⟩ := btw_nats fun d hd => h d (List.mem_cons_of_mem _ hd)
    have h1 := h d List.mem_cons_self
    cases d with
    | int i =>
      simp only [btw, Bool.and_eq_true, decide_eq_true_eq] at h1
      refine ⟨i.toNat :: L, ?_, fun k hk => ?_⟩
      · show _ = PyData.int ((i.toNat : Nat) : Int) :: dN L
        rw [Int.toNat_of_nonneg h1.1]
      · rcases List.mem_cons.mp hk with rfl | hk
        · omega
        · exact hL k hk
    | _ => cases h1
theorem btw_dN {m : Nat} {L : List Nat} (h : ∀ k ∈ L, k < m) : ∀ d ∈ dN L, btw d 0 ((m : Int) - 1) = true := fun d hd => by
  obtain ⟨k, hk, rfl⟩ := List.mem_map.mp hd
  have := h k hk
  simp only [btw, Bool.and_eq_true, decide_eq_true_eq]
  omega
theorem dpall_dN {H : Hp} {vs : List V} {L : List Nat} (h : DpAll K H vs (dN L)) : vs = nv L := by
  induction L generalizing vs with
  | nil => cases h; rfl
  | cons a L ih =>
    cases h with
    | cons h1 h2 =>
      cases h1
      rw [ih h2] <;> rfl
end
end K75

set_option Elab.async false
set_option linter.all false
set_option maxRecDepth 100000
set_option maxHeartbeats 4000000
namespace K75
open PySem PySem.Spec PyProof.Rows L2 Bk Evl
section
variable {P : Program} {w : World} {K : PySem.W.Frag} {mg : Str → Option Value} {base : Heap}
/-! ### is_between, of any data -/
def spBtw (K : PySem.W.Frag) : Sp := fun vs H Q _ => ∃ (x : V) (d : PyData) (lo hi : Int), vs = [x, .int lo, .int hi] ∧ Dp K H x d ∧ Q (.bl (btw d lo hi)) H
theorem sc_is_betweenD : FnScope ["value", "least", "most"] ["value", "least", "most"] (defScope s_is_between) := ⟨rfl, rfl, rfl, by decide +kernel, rfl, by decide +kernel, by decide +kernel⟩
theorem ok_is_betweenD (T : Txt K mg) : Ok P w K mg base 2 (He.ga K "is_between") ["value", "least", "most"] (spBtw K) := by
  obtain ⟨fd_is_integer, F_is_integer, b_is_integer, k_is_integer, _⟩ := (ok_is_integer (P := P) (w := w) (base := base) T).ex
  refine fd_ok T.f_is_between sc_is_betweenD (fun vs H Q E h => ?_) (fun _ _ _ _ _ _ us hl => match us, hl with | [_, _, _], _ => rfl) (fun cdv A outer s H vs Q E hr h => ?_)
  · obtain ⟨x, d, lo, hi, rfl, _⟩ := h
    rfl
  · obtain ⟨x, d, lo, hi, rfl, hx, q⟩ := h
    have nd := sc_is_betweenD.nd
    refine ⟨_, (pss_one (ps_ret (pe_and (pe_call F_is_integer (hr.mono (by decide)) rfl T.g_is_integer k_is_integer b_is_integer .nil pass0 (pa_cons (pv 0) pa_nil)) (pe_one (pe_chain op_le op_le (pv 1) (pv 0) (pv 2)))))), ?_⟩
    refine ⟨_, rfl, _, _, isIB d, isB d, rfl, tyx_dp hx, kit_int d, kit_bool d, _, rfl, ?_⟩
    rw [isI_eq]
    cases e : isI d with
    | false =>
      have e2 : btw d lo hi = false := by cases d <;> first | rfl | cases e
      rw [e2] at q
      exact iteF q
    | true =>
      obtain ⟨i, rfl, rfl⟩ := isI_dp hx e
      refine iteT ⟨_, rfl, _, rfl, _, _, rfl, rfl, _, rfl, ?_⟩
      change Q (.bl (decide (lo ≤ i) && decide (i ≤ hi))) H at q
      cases e : decide (lo ≤ i) with
      | false =>
        rw [e] at q
        exact iteF q
      | true =>
        rw [e] at q
        exact iteT ⟨_, rfl, _, _, rfl, rfl, q⟩
/-! ### is_rests -/
def spIsRests (K : PySem.W.Frag) : Sp := fun vs H Q _ => ∃ (x : V) (d : PyData) (m : Nat), vs = [x, .int m] ∧ Dp K H x d ∧ Small d ∧ 1 ≤ m ∧ ∀ b H', (b = true ↔ RestsD m d) → Ext H H' → Q (.bl b) H'
theorem sc_is_rests : FnScope ["value", "modulus", "rest", "index"] ["value", "modulus"] (defScope s_is_rests) := ⟨rfl, rfl, rfl, by decide +kernel, rfl, by decide +kernel, by decide +kernel⟩
theorem ok_is_rests (T : Txt K mg) : Ok P w K mg base 4 (He.ga K "is_rests") ["value", "modulus"] (spIsRests K) := by
  obtain ⟨fd_is_betweenD, F_is_betweenD, b_is_betweenD, k_is_betweenD, _⟩ := (ok_is_betweenD (P := P) (w := w) (base := base) T).ex
  refine fd_ok T.f_is_rests sc_is_rests (fun vs H Q E h => ?_) (fun _ _ _ _ _ _ us hl => match us, hl with | [_, _], _ => rfl) (fun cdv A outer s H vs Q E hr h => ?_)
  · obtain ⟨x, d, m, rfl, _⟩ := h
    rfl
  · obtain ⟨x, d, m, rfl, hx, sm, m1, q⟩ := h
    have nd := sc_is_rests.nd
    refine ⟨_, (pss_cons (ps_if (PW.pt (pw_or (pt_not (pt_val (pe_callB call_isi rfl T.z_isinstance (by decide +kernel) (pa_cons (pv 0) (pa_cons (pe_bltn rfl T.z_tuple (by decide +kernel) (v := .ty "tuple") rfl) pa_nil))))) (pw_or1 (pt_not (pt_val (pe_callB (cr_all rfl) rfl T.z_all (by decide +kernel) (pa_cons (pe_lc (own := [("rest", 2)]) (g := (gName 2)) (tt := tYes) rfl nd (pi_tup (pv 0)) (blkOk_by (own := [("rest", 2)]) (N := ["value", "modulus", "rest", "index"]) (sc := defScope s_is_rests) (by decide +kernel)) (fun _ _ _ _ _ => (pg_name (i := 2) nd rfl (Or.inl rfl))) (fun _ _ _ _ _ => pts_nil) (fun _ _ _ _ _ => (pe_call F_is_betweenD (hr.mono (by decide)) rfl T.g_is_between k_is_betweenD b_is_betweenD .nil pass0 (pa_cons (pv 2) (pa_cons pe_int (pa_cons (pe_op op_sub (pv 1) pe_int) pa_nil)))))) pa_nil))))))) (pss_one (ps_ret pe_bl)) pss_nil) (pss_one (ps_ret (pe_callB (cr_all rfl) rfl T.z_all (by decide +kernel) (pa_cons (pe_lc (own := [("index", 3)]) (g := (gName 3)) (tt := tYes) rfl nd (pi_range1 rfl T.z_range (pa_cons (pe_op op_sub (pe_callB call_len_seq rfl T.z_len (by decide +kernel) (pa_cons (pv 0) pa_nil)) pe_int) pa_nil)) (blkOk_by (own := [("index", 3)]) (N := ["value", "modulus", "rest", "index"]) (sc := defScope s_is_rests) (by decide +kernel)) (fun _ _ _ _ _ => (pg_name (i := 3) nd rfl (Or.inl rfl))) (fun _ _ _ _ _ => pts_nil) (fun _ _ _ _ _ => (pe_cmpR op_lt (pe_ix (ixK (K0 := K) (r := rIxT) ix_tup) (pv 0) (pv 3) (by intro _ _; rfl)) (pe_ix (ixK (K0 := K) (r := rIxT) ix_tup) (pv 0) (pe_op op_add (pv 3) pe_int) (by intro _ _; rfl)) (nomark _)))) pa_nil))))), ?_⟩
    refine ⟨_, rfl, _, _, _, _, isT d, rfl, .ty _, tyx_dp hx, kit_tup d, isT d, rfl, ?_⟩
    cases e : isT d with
    | false =>
      refine iteT ?_
      exact q false H (Iff.intro (fun z => by cases z) (fun ⟨L, z, _⟩ => by rw [z] at e; cases e)) (Ext.refl H)
    | true =>
      refine iteF ?_
      obtain ⟨a, xs, ds, rfl, rfl, hs, ha⟩ := isT_dp hx e
      have hl := dpall_len ha
      have h1k := sm ds rfl
      refine ⟨_, rfl, a, rfl, ⟨_, hs⟩, fun D hD => ?_⟩
      refine lc_tup (xs := xs) (Cw H (fun _ => true) (fun i => V.bl (btw (ds.getD i .none) 0 ((m : Int) - 1))) D) ⟨hD, Ex.new hD, upd_same⟩ (fun i H' _ p => sqt_ext hs p.2.1) (fun i x H' hx p => ?_) (fun H' p => ?_)
      · have il : i < xs.length := (List.getElem?_eq_some_iff.mp hx).1
        obtain ⟨d, hd, hdp⟩ := dpall_at ha hx
        refine ⟨rfl, cw_turn p (by omega) (fun H1 e Q q => q H1 (Ex.refl H1)) (fun _ H1 e Q q => ?_)⟩
        refine ⟨_, rfl, _, rfl, _, _, rfl, rfl, x, d, 0, (m : Int) - 1, rfl, Dp.ext e d x hdp, ?_⟩
        rw [show d = ds.getD i .none by rw [List.getD_eq_getElem?_getD, hd]; rfl]
        exact q H1 (Ex.refl H1)
      · obtain ⟨p1, p2, p3⟩ := p
        rw [given_bl] at p3
        refine ⟨D, _, rfl, SqL.of p3, _, rfl, ?_⟩
        cases e1 : ((List.range xs.length).map fun i => btw (ds.getD i .none) 0 ((m : Int) - 1)).all id with
        | false =>
          refine iteT (q false H' (Iff.intro (fun z => by cases z) fun ⟨L, z, _, hb⟩ => ?_) p2)
          injection z with z
          subst z
          rw [show ((List.range xs.length).map fun i => btw ((dN L).getD i .none) 0 ((m : Int) - 1)).all id = true from all_rng.mpr fun i hi => ?_] at e1
          · cases e1
          · have hi' : i < (dN L).length := by omega
            rw [List.getD_eq_getElem?_getD, List.getElem?_eq_getElem hi']
            exact btw_dN hb _ (List.getElem_mem hi')
        | true =>
          refine iteF ?_
          obtain ⟨L, rfl, hb⟩ := btw_nats (m := m) (ds := ds) fun d hd => by
            obtain ⟨i, hi⟩ := List.mem_iff_getElem?.mp hd
            have := all_rng.mp e1 i (by have := (List.getElem?_eq_some_iff.mp hi).1; omega)
            rw [List.getD_eq_getElem?_getD, hi] at this
            exact this
          obtain rfl := dpall_dN ha
          have hlv : (nv L).length = L.length := List.length_map _
          refine ⟨_, rfl, a, _, rfl, .inr (sqt_ext hs p2), _, _, rfl, rfl, ?_⟩
          rw [hlv]
          have hk : L.length ≤ 1000 := by rw [List.length_map] at h1k; exact h1k
          refine ⟨(L.length : Int) - 1, rfl, by omega, by omega, fun D2 hD2 => ?_⟩
          refine lc_range (lo := 0) (n := ((L.length : Int) - 1).toNat) (Cw H' (fun _ => true) (fun i => V.bl (decide (L.getD i 0 < L.getD (i + 1) 0))) D2) ⟨hD2, Ex.new hD2, upd_same⟩ (fun i H5 hi p => ?_) (fun H5 p => ?_)
          · refine ⟨rfl, cw_turn p (by omega) (fun H1 e Q q => q H1 (Ex.refl H1)) (fun _ H1 e Q q => ?_)⟩
            have h1 := sqt_ext (sqt_ext hs p2) e
            refine ⟨_, rfl, _, rfl, a, _, (0 + (i : Int)), V.int (L.getD i 0 : Nat), rfl, rfl, h1, ?_, _, rfl, _, rfl, _, _, rfl, rfl, a, _, _, V.int (L.getD (i + 1) 0 : Nat), rfl, rfl, h1, ?_, _, _, rfl, rfl, ?_⟩
            · rw [show (0 + (i : Int)) = ((i : Nat) : Int) by omega]
              exact atI_nat (by rw [List.getElem?_map, List.getD_eq_getElem?_getD, List.getElem?_eq_getElem (show i < L.length by omega)]; rfl)
            · rw [show (0 + (i : Int) + 1) = ((i + 1 : Nat) : Int) by omega]
              exact atI_nat (by rw [List.getElem?_map, List.getD_eq_getElem?_getD, List.getElem?_eq_getElem (show i + 1 < L.length by omega)]; rfl)
            · show Q (.bl (decide (((L.getD i 0 : Nat) : Int) < ((L.getD (i + 1) 0 : Nat) : Int)))) H1
              rw [show decide (((L.getD i 0 : Nat) : Int) < ((L.getD (i + 1) 0 : Nat) : Int)) = decide (L.getD i 0 < L.getD (i + 1) 0) from decide_eq_decide.mpr (by omega)]
              exact q H1 (Ex.refl H1)
          · obtain ⟨p1', p2', p3'⟩ := p
            rw [given_bl] at p3'
            refine ⟨D2, _, rfl, SqL.of p3', ?_⟩
            refine q _ H5 ?_ (Ext.trans p2 p2')
            rw [all_rng]
            constructor
            · intro h
              exact ⟨L, rfl, (asc_iff L).mp fun i hi => of_decide_eq_true (h i (by omega)), hb⟩
            · rintro ⟨M, z, h, _⟩ i hi
              obtain rfl := dT_inj z
              exact decide_eq_true ((asc_iff L).mpr h i (by omega))
end
end K75

set_option Elab.async false
set_option linter.all false
set_option maxRecDepth 100000
set_option maxHeartbeats 4000000
namespace K75
open PySem PySem.Spec PyProof.Rows L2 Bk Evl
abbrev Sps3 : Type := List (Int × Int × Int)
/-- rows of nats as data -/
abbrev dR (rows : List (List Nat)) : List PyData := rows.map fun r => PyData.tuple (dN r)
theorem dR_inj {R S : List (List Nat)} (h : dR R = dR S) : R = S := by
  induction R generalizing S with
  | nil => cases S with
    | nil => rfl
    | cons => cases h
  | cons a R ih => cases S with
    | nil => cases h
    | cons b S =>
      injection h with h1 h2
      rw [ih h2, dT_inj h1]
/-- steps by m: a base without a divisor in common with m, from an exponent up to 0 to one from 0 on -/
def StepsOk (m : Nat) (L : Sps3) : Prop := L.length ≤ 20 ∧ ∀ q ∈ L, ∃ b : Nat, q.1 = (b : Int) ∧ Nat.gcd b m = 1 ∧ q.2.1 ≤ 0 ∧ 0 ≤ q.2.2
/-- where a step leads from a row -/
def GoesTo (m : Nat) (q : Int × Int × Int) (r s : List Nat) : Prop := ∀ x ∈ r, ∀ e : Int, q.2.1 ≤ e ∧ e ≤ q.2.2 → x * pw q.1.toNat e m % m ∈ s
structure RowsAt (m : Nat) (S : List Nat) (L : Sps3) (rows : List (List Nat)) : Prop where
  len : rows.length = L.length + 1
  asc : ∀ r ∈ rows, AscL m r
  start : ∀ x ∈ S, x ∈ rows.getD 0 []
  go : ∀ (i : Nat) (q : Int × Int × Int), L[i]? = some q → GoesTo m q (rows.getD i []) (rows.getD (i + 1) [])
  out : m - 1 ∉ rows.getD L.length []
def RowsD (m : Nat) (S : List Nat) (L : Sps3) (d : PyData) : Prop := ∃ rows, d = .tuple (dR rows) ∧ RowsAt m S L rows
/-- all are rests: rows -/
theorem rests_rows {m : Nat} : ∀ {ds : List PyData}, (∀ d ∈ ds, RestsD m d) → ∃ rows, ds = dR rows ∧ ∀ r ∈ rows, AscL m r
  | [], _ => ⟨[], rfl, fun r h => by cases h⟩
  | d :: ds, h => by
    obtain ⟨rows, rfl, h2⟩ := rests_rows fun d hd => h d (List.mem_cons_of_mem _ hd)
    obtain ⟨L, rfl, h1⟩ := h d List.mem_cons_self
    exact ⟨L :: rows, rfl, fun r hr => by
      rcases List.mem_cons.mp hr with rfl | hr
      · exact h1
      · exact h2 r hr⟩
theorem all_mem {S T : List Nat} : ((List.range S.length).map fun i => decide (S.getD i 0 ∈ T)).all id = true ↔ ∀ x ∈ S, x ∈ T := by
  rw [all_rng]
  constructor
  · intro h x hx
    obtain ⟨i, hi⟩ := List.mem_iff_getElem?.mp hx
    have h1 := of_decide_eq_true (h i (List.getElem?_eq_some_iff.mp hi).1)
    have h2 : S.getD i 0 = x := by rw [List.getD_eq_getElem?_getD, hi]; rfl
    rw [h2] at h1
    exact h1
  · intro h i hi
    refine decide_eq_true (h _ ?_)
    have h2 : S.getD i 0 = S[i] := by rw [List.getD_eq_getElem?_getD, List.getElem?_eq_getElem hi]; rfl
    rw [h2]
    exact List.getElem_mem hi
section
variable {P : Program} {w : World} {K : PySem.W.Frag} {mg : Str → Option Value} {base : Heap}
theorem dpall_rows {H : Hp} : ∀ {rows : List (List Nat)} {vs : List V}, DpAll K H vs (dR rows) → ∀ (i : Nat) (r : List Nat), rows[i]? = some r → ∃ p : Addr, vs[i]? = some (V.ref p) ∧ SqT K H p (nv r) := fun {rows vs} h i r hr => by
  obtain ⟨x, hx, hd⟩ := dpall_atD h (i := i) (d := .tuple (dN r)) (by rw [List.getElem?_map, hr]; rfl)
  cases hd with
  | tup hs ha => exact ⟨_, hx, dpall_dN ha ▸ hs⟩
theorem rIn_nats {H : Hp} {p : Addr} {r : List Nat} {x : Nat} {Q : VK} (h : SqT K H p (nv r)) (q : Q (.bl (decide (x ∈ r))) H) : rIn K false (.int (x : Nat)) (.ref p) H Q :=
  ⟨p, nv r, rfl, .inr h, rfl, flat_nats r, by
    show Q (.bl (inV (.int (x : Nat)) (nv r))) H
    rw [inV_nats]
    exact q⟩
theorem goes_of {m : Nat} {q : Int × Int × Int} {r s B R : List Nat} {b : Nat} (hq : q.1 = (b : Int)) (hB : ∀ x, x ∈ B ↔ ∃ e : Int, (q.2.1 ≤ e ∧ e ≤ q.2.2) ∧ x = pw (b % m) e m) (ro : RowOf m (fun x => ∃ y ∈ r, ∃ z ∈ B, x = y * z % m) R) :
    (∀ x ∈ R, x ∈ s) ↔ GoesTo m q r s := by
  unfold GoesTo
  rw [hq, Int.toNat_natCast]
  constructor
  · intro h x hx e he
    exact h _ ((ro.mem _).mpr ⟨x, hx, pw b e m, (hB _).mpr ⟨e, he, (pw_base b e m).symm⟩, rfl⟩)
  · intro h x hx
    obtain ⟨y, hy, z, hz, rfl⟩ := (ro.mem _).mp hx
    obtain ⟨e, he, rfl⟩ := (hB _).mp hz
    rw [pw_base]
    exact h y hy e he
/-- a comprehension's walk over J -/
def LcW (J : It) (g : TG) (tt : TT) (te : TE) (vs : List Nat) (σ : L2.St) (H1 : Hp) (D : Addr) (Qd : Hp → Prop) : Prop := ∃ W : Nat → Nat → Hp → Prop, (∃ m, W 0 m (upd H1 D (.lst []))) ∧ ∀ i m H, W i m H →
  (J.stop i H ∧ Qd H) ∨ (J.go i H ∧ ∃ Nx : Hp → Prop, (∀ H', Nx H' → ∃ m', m' < m ∧ W (i + 1) m' H') ∧ ∀ x H', J.yld i H x H' → g x (wipe σ vs) H' fun σ2 H2 => wipe σ2 vs = wipe σ vs ∧ tt σ2 H2 fun b H3 =>
    if b = true then te σ2 H3 fun y H4 => ∃ acc, H4 D = some (.lst acc) ∧ acc.length < sizeLine ∧ Nx (upd H4 D (.lst (acc ++ [y]))) else Nx H3)
/-- over a list or a tuple -/
theorem lc_lt {st : Addr} {xs : List V} {g : TG} {tt : TT} {te : TE} {vs : List Nat} {σ : L2.St} {H1 : Hp} {Qd : Addr → Hp → Prop} (h : SqL K H1 st xs ∨ SqT K H1 st xs) (k : ∀ (J : It) (G : Hp → Prop), ItSeq J xs G → (∀ H', Ext H1 H' → G H') → ∀ D, H1 D = none → LcW J g tt te vs σ H1 D (Qd D)) :
    ∃ a ys, V.ref st = V.ref a ∧ ((SqL K H1 a ys ∧ ∀ D, H1 D = none → LcW (Itl K a) g tt te vs σ H1 D (Qd D)) ∨ (SqT K H1 a ys ∧ ∀ D, H1 D = none → LcW (Itt K a) g tt te vs σ H1 D (Qd D))) := by
  rcases h with h | h
  · exact ⟨st, xs, rfl, .inl ⟨h, k _ _ (itseq_l (K := K) (a := st)) fun H' k => sql_ext h k⟩⟩
  · exact ⟨st, xs, rfl, .inr ⟨h, k _ _ (itseq_t (K := K) (a := st)) fun H' k => sqt_ext h k⟩⟩
/-! ### are_rows -/
def spAreRows (K : PySem.W.Frag) : Sp := fun vs H Q _ => ∃ (x : V) (d : PyData) (m : Nat) (st sp : Addr) (S : List Nat) (L : Sps3), vs = [x, .int m, .ref st, .ref sp] ∧ Dp K H x d ∧ Small2 d ∧ (1 ≤ m ∧ m ≤ 12) ∧ (SqL K H st (nv S) ∨ SqT K H st (nv S)) ∧ S.length ≤ 1000 ∧ TrisAt H sp L ∧ StepsOk m L ∧
  ∀ b H', (b = true ↔ RowsD m S L d) → Ext H H' → Q (.bl b) H'
theorem sc_are_rows : FnScope ["value", "modulus", "start", "steps", "index", "base", "low", "high", "goals", "row", "rest"] ["value", "modulus", "start", "steps"] (defScope s_are_rows) := ⟨rfl, rfl, rfl, by decide +kernel, rfl, by decide +kernel, by decide +kernel⟩
theorem ok_are_rows (T : Txt K mg) : Ok P w K mg base 5 (He.ga K "are_rows") ["value", "modulus", "start", "steps"] (spAreRows K) := by
  obtain ⟨fd_is_rests, F_is_rests, b_is_rests, k_is_rests, _⟩ := (ok_is_rests (P := P) (w := w) (base := base) T).ex
  obtain ⟨fd_spread, F_spread, b_spread, k_spread, _⟩ := (ok_spread (P := P) (w := w) (base := base) T).ex
  obtain ⟨fd_powers_of, F_powers_of, b_powers_of, k_powers_of, _⟩ := (ok_powers_of (P := P) (w := w) (base := base) T).ex
  refine fd_ok T.f_are_rows sc_are_rows (fun vs H Q E h => ?_) (fun _ _ _ _ _ _ us hl => match us, hl with | [_, _, _, _], _ => rfl) (fun cdv A outer s H vs Q E hr h => ?_)
  · obtain ⟨x, d, m, st, sp, S, L, rfl, _⟩ := h
    rfl
  · obtain ⟨x, d, m, st, sp, S, L, rfl, hx, ⟨sm1, sm2⟩, ⟨m1, m2⟩, hS, hS1, hL, ok, q⟩ := h
    have nd := sc_are_rows.nd
    refine ⟨_, (pss_cons (ps_if (PW.pt (pw_or (pt_not (pt_val (pe_callB call_isi rfl T.z_isinstance (by decide +kernel) (pa_cons (pv 0) (pa_cons (pe_bltn rfl T.z_tuple (by decide +kernel) (v := .ty "tuple") rfl) pa_nil))))) (pw_or1 (pt_cmpR op_ne (pe_callB call_len_seq rfl T.z_len (by decide +kernel) (pa_cons (pv 0) pa_nil)) (pe_op op_add (pe_callB call_len_seq rfl T.z_len (by decide +kernel) (pa_cons (pv 3) pa_nil)) pe_int) (nomark _))))) (pss_one (ps_ret pe_bl)) pss_nil) (pss_cons (ps_if (PW.pt (pw_or (pt_not (pt_val (pe_callB (cr_all rfl) rfl T.z_all (by decide +kernel) (pa_cons (pe_lc (own := [("row", 9)]) (g := (gName 9)) (tt := tYes) rfl nd (pi_tup (pv 0)) (blkOk_by (own := [("row", 9)]) (N := ["value", "modulus", "start", "steps", "index", "base", "low", "high", "goals", "row", "rest"]) (sc := defScope s_are_rows) (by decide +kernel)) (fun _ _ _ _ _ => (pg_name (i := 9) nd rfl (Or.inl rfl))) (fun _ _ _ _ _ => pts_nil) (fun _ _ _ _ _ => (pe_call F_is_rests (hr.mono (by decide)) rfl T.g_is_rests k_is_rests b_is_rests .nil pass0 (pa_cons (pv 9) (pa_cons (pv 1) pa_nil))))) pa_nil)))) (pw_or1 (pt_not (pt_val (pe_callB (cr_all rfl) rfl T.z_all (by decide +kernel) (pa_cons (pe_lc (own := [("rest", 10)]) (g := (gName 10)) (tt := tYes) rfl nd (pi_lt (pv 2)) (blkOk_by (own := [("rest", 10)]) (N := ["value", "modulus", "start", "steps", "index", "base", "low", "high", "goals", "row", "rest"]) (sc := defScope s_are_rows) (by decide +kernel)) (fun _ _ _ _ _ => (pg_name (i := 10) nd rfl (Or.inl rfl))) (fun _ _ _ _ _ => pts_nil) (fun _ _ _ _ _ => (pe_cmpR (opK (K0 := K) (r := fun K => rIn K false) op_in_seq) (pv 10) (pe_ix (ixK (K0 := K) (r := rIxT) ix_tup) (pv 0) pe_int (by intro _ _; rfl)) rfl))) pa_nil))))))) (pss_one (ps_ret pe_bl)) pss_nil) (pss_cons (ps_for PassesOwn.never rfl (pi_enum rfl T.z_enumerate (pa_cons (pv 3) pa_nil)) (pg_tup rfl (pgs_cons (pg_name (i := 4) nd rfl (Or.inr rfl)) (pgs_cons (pg_tup rfl (pgs_cons (pg_name (i := 5) nd rfl (Or.inl rfl)) (pgs_cons (pg_name (i := 6) nd rfl (Or.inl rfl)) (pgs_cons (pg_name (i := 7) nd rfl (Or.inl rfl)) pgs_nil)))) pgs_nil))) (pss_cons (ps_set (i := 8) nd rfl (Or.inl rfl) (pe_call F_spread (hr.mono (by decide)) rfl T.g_spread k_spread b_spread .nil pass0 (pa_cons (pe_ix ix_tup (pv 0) (pv 4) (by intro _ _; rfl)) (pa_cons (pe_call F_powers_of (hr.mono (by decide)) rfl T.g_powers_of k_powers_of b_powers_of .nil pass0 (pa_cons (pe_op op_mod (pe_callTy call_int1 rfl T.z_int (by decide +kernel) (pa_cons (pv 5) pa_nil)) (pv 1)) (pa_cons (pv 1) (pa_cons (pv 6) (pa_cons (pv 7) pa_nil))))) (pa_cons (pv 1) pa_nil))))) (pss_one (ps_if (pt_not (pt_val (pe_callB (cr_all rfl) rfl T.z_all (by decide +kernel) (pa_cons (pe_lc (own := [("rest", 10)]) (g := (gName 10)) (tt := tYes) rfl nd (pi_tup (pv 8)) (blkOk_by (own := [("rest", 10)]) (N := ["value", "modulus", "start", "steps", "index", "base", "low", "high", "goals", "row", "rest"]) (sc := defScope s_are_rows) (by decide +kernel)) (fun _ _ _ _ _ => (pg_name (i := 10) nd rfl (Or.inl rfl))) (fun _ _ _ _ _ => pts_nil) (fun _ _ _ _ _ => (pe_cmpR (opK (K0 := K) (r := fun K => rIn K false) op_in_seq) (pv 10) (pe_ix (ixK (K0 := K) (r := rIxT) ix_tup) (pv 0) (pe_op op_add (pv 4) pe_int) (by intro _ _; rfl)) rfl))) pa_nil)))) (pss_one (ps_ret pe_bl)) pss_nil)))) (pss_one (ps_ret (pe_cmpR op_notIn_seq (pe_op op_sub (pv 1) pe_int) (pe_ix ix_tup (pv 0) (pe_un un_neg pe_int) (by intro _ _; rfl)) rfl)))))), ?_⟩
    refine ⟨_, rfl, _, _, _, _, isT d, rfl, .ty _, tyx_dp hx, kit_tup d, isT d, rfl, ?_⟩
    obtain ⟨ts, hts, hpt⟩ := id hL
    have hno : ∀ H', Ext H H' → isT d = false → Q (.bl false) H' := fun H' k e => q false H' (Iff.intro (fun z => by cases z) fun ⟨R, z, _⟩ => by rw [z] at e; cases e) k
    cases e : isT d with
    | false => exact iteT (hno H (Ext.refl H) e)
    | true =>
      refine iteF ?_
      obtain ⟨a, xs, ds, rfl, rfl, hs, ha⟩ := isT_dp hx e
      have hl := dpall_len ha
      have h1k := sm1 ds rfl
      refine ⟨_, rfl, a, _, rfl, .inr hs, _, rfl, sp, _, rfl, .inl (SqL.of hts), _, _, rfl, rfl, rfl, _, rfl, ?_⟩
      have tl : ts.length = L.length := hpt.length
      have hb : (!decide (V.int (xs.length : Int) = V.int (((ts.map V.ref).length : Nat) + 1 : Int))) = !decide (ds.length = L.length + 1) := by
        rw [List.length_map, hl, tl]
        congr 1
        exact decide_eq_decide.mpr ⟨fun z => by injection z with z; omega, fun z => by rw [z]; rfl⟩
      show if (!decide (V.int (xs.length : Int) = V.int (((ts.map V.ref).length : Nat) + 1 : Int))) = true then _ else _
      rw [hb]
      by_cases hlen : ¬ ds.length = L.length + 1
      · rw [decide_eq_false hlen]
        refine iteT (q false H (Iff.intro (fun z => by cases z) fun ⟨R, z, r⟩ => absurd ?_ hlen) (Ext.refl H))
        injection z with z
        rw [z, List.length_map, r.len]
      have hlen := Decidable.not_not.mp hlen
      rw [decide_eq_true hlen]
      refine iteF ?_
      refine ⟨_, rfl, a, rfl, ⟨_, hs⟩, fun D hD => ?_⟩
      refine lc_tup (xs := xs) (Cw H (fun _ => true) (fun i => V.bl (dec (RestsD m (ds.getD i .none)))) D) ⟨hD, Ex.new hD, upd_same⟩ (fun i H' _ p => sqt_ext hs p.2.1) (fun i x H' hx p => ?_) (fun H' p => ?_)
      · have il : i < xs.length := (List.getElem?_eq_some_iff.mp hx).1
        obtain ⟨d, hd, hdp⟩ := dpall_at ha hx
        have hdm := sm2 ds rfl d (List.mem_of_getElem? hd)
        refine ⟨rfl, cw_turn p (by omega) (fun H1 e Q q => q H1 (Ex.refl H1)) (fun _ H1 e Q q => ?_)⟩
        refine ⟨_, rfl, _, rfl, x, d, m, rfl, Dp.ext e d x hdp, hdm, m1, fun b H2 hb e2 => ?_⟩
        rw [show ds.getD i .none = d by rw [List.getD_eq_getElem?_getD, hd]; rfl] at q
        rw [show b = dec (RestsD m d) by rw [Bool.eq_iff_iff, hb, dec_iff]]
        exact q H2 e2
      · obtain ⟨p1, p2, p3⟩ := p
        rw [given_bl] at p3
        refine ⟨D, _, rfl, SqL.of p3, _, rfl, ?_⟩
        cases e1 : ((List.range xs.length).map fun i => dec (RestsD m (ds.getD i .none))).all id with
        | false =>
          refine iteT (q false H' (Iff.intro (fun z => by cases z) fun ⟨R, z, r⟩ => ?_) p2)
          injection z with z
          rw [show ((List.range xs.length).map fun i => dec (RestsD m (ds.getD i .none))).all id = true from all_rng.mpr fun i hi => ?_] at e1
          · cases e1
          · rw [z]
            have hi' : i < R.length := by rw [z, List.length_map] at hl; omega
            rw [List.getD_eq_getElem?_getD, List.getElem?_map, List.getElem?_eq_getElem hi']
            exact dec_iff.mpr ⟨R[i], rfl, r.asc _ (List.getElem_mem hi')⟩
        | true =>
          refine iteF ?_
          obtain ⟨rows, rfl, hra⟩ := rests_rows (m := m) (ds := ds) fun d hd => by
            obtain ⟨i, hi⟩ := List.mem_iff_getElem?.mp hd
            have := all_rng.mp e1 i (by have := (List.getElem?_eq_some_iff.mp hi).1; omega)
            rw [List.getD_eq_getElem?_getD, hi] at this
            exact dec_iff.mp this
          have hrl : rows.length = L.length + 1 := by rw [List.length_map] at hlen; exact hlen
          have row : ∀ i, i < rows.length → ∃ p : Addr, xs[i]? = some (V.ref p) ∧ SqT K H p (nv (rows.getD i [])) := fun i hi => by
            obtain ⟨p, h1, h2⟩ := dpall_rows ha i rows[i] (List.getElem?_eq_getElem hi)
            refine ⟨p, h1, ?_⟩
            rw [List.getD_eq_getElem?_getD, List.getElem?_eq_getElem hi]
            exact h2
          have inj : ∀ {R}, PyData.tuple (dR rows) = PyData.tuple (dR R) → R = rows := fun z => by
            injection z with z
            exact (dR_inj z).symm
          clear e1 p3
          -- the start
          obtain ⟨pr0, hp0, hq0⟩ := row 0 (by omega)
          refine ⟨_, rfl, lc_lt (hS.imp (fun z => sql_ext z p2) fun z => sqt_ext z p2) fun J G S1 hG D2 hD2 => ?_⟩
          refine lc_seq S1 (Cw H' (fun _ => true) (fun i => V.bl (decide (S.getD i 0 ∈ rows.getD 0 []))) D2) ⟨hD2, Ex.new hD2, upd_same⟩ (fun i H5 _ p => hG _ p.2.1) (fun i x H5 hx p => ?_) (fun H5 p => ?_)
          · have il : i < (nv S).length := (List.getElem?_eq_some_iff.mp hx).1
            obtain ⟨k, hk, rfl⟩ := nv_at hx
            rw [List.length_map] at il
            refine ⟨rfl, cw_turn p (by omega) (fun H1 e Q q => q H1 (Ex.refl H1)) (fun _ H1 e Q q => ?_)⟩
            refine ⟨_, rfl, _, rfl, a, xs, 0, .ref pr0, rfl, rfl, sqt_ext (sqt_ext hs p2) e, atI_nat hp0, rIn_nats (sqt_ext (sqt_ext hq0 p2) e) ?_⟩
            rw [show k = S.getD i 0 by rw [List.getD_eq_getElem?_getD, hk]; rfl]
            exact q H1 (Ex.refl H1)
          · obtain ⟨p1', p2', p3'⟩ := p
            rw [given_bl] at p3'
            have e05 := Ext.trans p2 p2'
            rw [show (nv S).length = S.length from List.length_map _] at p3'
            refine ⟨D2, _, rfl, SqL.of p3', _, rfl, ?_⟩
            cases e1 : ((List.range S.length).map fun i => decide (S.getD i 0 ∈ rows.getD 0 [])).all id with
            | false =>
              refine iteT (q false H5 (Iff.intro (fun z => by cases z) fun ⟨R, z, r⟩ => ?_) e05)
              obtain rfl := inj z
              rw [all_mem.mpr r.start] at e1
              cases e1
            | true =>
              refine iteF ?_
              have start := all_mem.mp e1
              have hts5 := e05 _ _ hts
              refine ⟨_, rfl, sp, _, rfl, SqL.of hts5, ?_⟩
              refine for_it (walk_enum (xs := ts.map V.ref)) (fun j σ H' => ∃ u4 u5 u6 u7 u8, σ = [some (V.ref a), some (.int m), some (.ref st), some (.ref sp), u4, u5, u6, u7, u8, none, none] ∧ Ext H H' ∧ ∀ i, i < j → ∀ q, L[i]? = some q → GoesTo m q (rows.getD i []) (rows.getD (i + 1) []))
                ⟨_, _, _, _, _, rfl, e05, fun i hi => by omega⟩ ?_ ?_ ?_
              · rintro j σ H6 _ ⟨u4, u5, u6, u7, u8, rfl, e06, _⟩
                exact SqL.of (e06 _ _ hts)
              · rintro j x σ H6 H7 hj ⟨u4, u5, u6, u7, u8, rfl, e06, gone⟩ ⟨T, y1, y2, rfl, hT, rfl, hy1, hy2⟩
                obtain rfl := Option.some.inj hy1
                replace hy2 : (ts.map V.ref)[j]? = some y2 := hy2
                rw [List.getElem?_map] at hy2
                obtain ⟨tp, htp, rfl⟩ := Option.map_eq_some_iff.mp hy2
                obtain ⟨⟨q1, q2, q3⟩, hLj, htr⟩ := paired_at hpt j tp htp
                dsimp only at htr
                obtain ⟨b, hqb, hgb, hlo, hhi⟩ := ok.2 _ (List.mem_of_getElem? hLj)
                dsimp only at hqb hlo hhi
                subst hqb
                have e07 := e06.trans (Ext.new hT (.tup [.int (j : Nat), .ref tp]))
                have jl : j < L.length := (List.getElem?_eq_some_iff.mp hLj).1
                obtain ⟨pj, hpj, hqj⟩ := row j (by omega)
                obtain ⟨pj', hpj', hqj'⟩ := row (j + 1) (by omega)
                have hT7 : upd H6 T (.tup [.int (j : Nat), .ref tp]) T = some (.tup [.int (j : Nat), .ref tp]) := upd_same
                generalize upd H6 T (.tup [.int (j : Nat), .ref tp]) = H7 at e07 hT7 ⊢
                refine ⟨T, _, rfl, SqT.of hT7, rfl, _, _, rfl, _, _, rfl, tp, _, rfl, SqT.of (e07 _ _ htr), rfl, _, _, rfl, _, _, rfl, _, _, rfl, rfl, rfl, ?_⟩
                refine ⟨_, rfl, _, rfl, a, xs, (j : Nat), .ref pj, rfl, rfl, sqt_ext hs e07, atI_nat hpj, ?_⟩
                refine ⟨_, rfl, .inl ⟨_, rfl, _, rfl, _, _, rfl, rfl, by omega, _, rfl, _, rfl, _, rfl, ?_⟩⟩
                refine ⟨b % m, m, q2, q3, ?_, ⟨m1, m2⟩, Nat.mod_lt _ m1, ?_, ⟨hlo, hhi⟩, fun f B H8 hf hB hBl hf0 e78 => ?_⟩
                · show [V.int ((b : Int) % (m : Int)), _, _, _] = [V.int ((b % m : Nat) : Int), _, _, _]
                  rw [Int.natCast_emod]
                · rw [← Nat.gcd_rec m b, Nat.gcd_comm]
                  exact hgb
                have e08 := e07.trans e78
                refine ⟨_, rfl, pj, f, rows.getD j [], B, m, rfl, sqt_ext hqj e08, .inl (SqL.of hf), ⟨m1, m2⟩, fun x hx => ?_, fun t' R H9 hR ro e89 => ?_⟩
                · have : x < m := (hra (rows.getD j []) (by rw [List.getD_eq_getElem?_getD, List.getElem?_eq_getElem (show j < rows.length by omega)]; exact List.getElem_mem _)).2 x hx
                  omega
                have e09 := e08.trans e89
                have hgo := goes_of (s := rows.getD (j + 1) []) (q := ((b : Int), q2, q3)) rfl hB ro
                refine ⟨_, rfl, t', rfl, ⟨_, hR.sqt⟩, fun D3 hD3 => ?_⟩
                have hR' := hR.sqt
                refine lc_tup (xs := nv R) (Cw H9 (fun _ => true) (fun i => V.bl (decide (R.getD i 0 ∈ rows.getD (j + 1) []))) D3) ⟨hD3, Ex.new hD3, upd_same⟩ (fun i H5 _ p => sqt_ext hR' p.2.1) (fun i x H5 hx p => ?_) (fun H5 p => ?_)
                · have il : i < (nv R).length := (List.getElem?_eq_some_iff.mp hx).1
                  have hRl := ro.len
                  obtain ⟨k, hk, rfl⟩ := nv_at hx
                  rw [List.length_map] at il
                  refine ⟨rfl, cw_turn p (by omega) (fun H1 e Q q => q H1 (Ex.refl H1)) (fun _ H1 e Q q => ?_)⟩
                  refine ⟨_, rfl, _, rfl, _, rfl, _, _, rfl, rfl, a, xs, _, .ref pj', rfl, rfl, sqt_ext (sqt_ext hs e09) e, ?_, rIn_nats (sqt_ext (sqt_ext hqj' e09) e) ?_⟩
                  · rw [show ((j : Nat) : Int) + 1 = ((j + 1 : Nat) : Int) by omega]
                    exact atI_nat hpj'
                  · rw [show k = R.getD i 0 by rw [List.getD_eq_getElem?_getD, hk]; rfl]
                    exact q H1 (Ex.refl H1)
                · obtain ⟨p1', p2', p3'⟩ := p
                  rw [given_bl] at p3'
                  rw [show (nv R).length = R.length from List.length_map _] at p3'
                  refine ⟨D3, _, rfl, SqL.of p3', _, rfl, ?_⟩
                  have e010 := e09.trans p2'
                  cases e1 : ((List.range R.length).map fun i => decide (R.getD i 0 ∈ rows.getD (j + 1) [])).all id with
                  | false =>
                    refine iteT (q false H5 (Iff.intro (fun z => by cases z) fun ⟨R', z, r⟩ => ?_) e010)
                    obtain rfl := inj z
                    rw [all_mem.mpr (hgo.mpr (r.go j _ hLj))] at e1
                    cases e1
                  | true =>
                    refine iteF ⟨_, _, _, _, _, rfl, e010, fun i hi q hq => ?_⟩
                    rcases Nat.lt_succ_iff_lt_or_eq.mp hi with z | z
                    · exact gone i z q hq
                    · subst z
                      rw [hLj] at hq
                      obtain rfl := Option.some.inj hq
                      exact hgo.mp (all_mem.mp e1)
              · rintro σ H6 ⟨u4, u5, u6, u7, u8, rfl, e06, gone⟩
                rw [List.length_map, tl] at gone
                obtain ⟨pl, hpl, hql⟩ := row L.length (by omega)
                refine ⟨_, rfl, _, _, rfl, rfl, _, rfl, _, rfl, a, xs, -1, .ref pl, rfl, rfl, sqt_ext hs e06, ?_, pl, nv (rows.getD L.length []), rfl, .inr (sqt_ext hql e06), rfl, flat_nats _, ?_⟩
                · have e : xs = xs.take L.length ++ [.ref pl] := by
                    have h1 : xs.length = L.length + 1 := by rw [hl, List.length_map, hrl]
                    have h2 := List.take_append_drop L.length xs
                    rw [List.drop_eq_getElem_cons (by omega), List.drop_eq_nil_of_le (by omega)] at h2
                    have h3 : xs[L.length] = .ref pl := (List.getElem?_eq_some_iff.mp hpl).2
                    rw [h3] at h2
                    exact h2.symm
                  rw [e]
                  exact atI_last _ _
                · show Q (.bl (!inV (.int ((m : Int) - 1)) (nv (rows.getD L.length [])))) H6
                  rw [show ((m : Int) - 1) = ((m - 1 : Nat) : Int) by omega, inV_nats]
                  refine q _ H6 ?_ e06
                  rw [Bool.not_eq_true', decide_eq_false_iff_not]
                  constructor
                  · intro h
                    exact ⟨rows, rfl, hrl, hra, start, fun i q hq => gone i (List.getElem?_eq_some_iff.mp hq).1 q hq, h⟩
                  · rintro ⟨R, z, r⟩
                    obtain rfl := inj z
                    exact r.out
end
end K75

set_option Elab.async false
set_option linter.all false
set_option maxRecDepth 100000
set_option maxHeartbeats 4000000
namespace K75
open PySem PySem.Spec PyProof.Rows L2 Bk Evl
theorem cutV_nv (r : List Nat) (lo hi : Option Int) : ∃ r', cutV (nv r) lo hi = nv r' ∧ r'.Sublist r := by
  refine ⟨(r.drop (HT.sIx (nv r).length 0 lo)).take (HT.sIx (nv r).length (nv r).length hi - HT.sIx (nv r).length 0 lo), ?_, (List.take_sublist _ _).trans (List.drop_sublist _ _)⟩
  unfold cutV
  rw [← List.map_drop, ← List.map_take]
theorem sIx_hi (n k : Nat) : HT.sIx n n (some (k : Int)) ≤ k := by
  unfold HT.sIx
  dsimp only
  split <;> omega
theorem sIx_lo (n k : Nat) (h : k < n) : k + 1 ≤ HT.sIx n 0 (some ((k : Int) + 1)) := by
  unfold HT.sIx
  dsimp only
  split <;> omega
theorem cut_hi (xs : List V) (k : Nat) : (cutV xs none (some (k : Int))).length ≤ k := by
  unfold cutV
  rw [List.length_take]
  have := sIx_hi xs.length k
  omega
theorem cut_lo (xs : List V) (k : Nat) (h : k < xs.length) : (cutV xs (some ((k : Int) + 1)) none).length ≤ xs.length - (k + 1) := by
  unfold cutV
  rw [List.length_take, List.length_drop]
  have := sIx_lo xs.length k h
  omega
section
variable {P : Program} {w : World} {K : PySem.W.Frag} {mg : Str → Option Value} {base : Heap}
theorem slA {H : Hp} {a : Addr} {xs : List V} {lo hi : Option Int} {Q : VK} (h : SqT K H a xs) (q : ∀ p H', SqT K H' p (cutV xs lo hi) → Ext H H' → Q (.ref p) H') : rSlA K (.ref a) lo hi H Q := by
  refine ⟨a, xs, rfl, h, fun hw => q a H ?_ (Ext.refl H), fun _ p hp => q p _ (SqT.of upd_same) (Ext.new hp _)⟩
  have e : cutV xs lo hi = xs := by
    unfold cutV
    rw [hw.1, hw.2, List.drop_zero, Nat.sub_zero, List.take_of_length_le (Nat.le_refl _)]
  rw [e]
  exact h
theorem catA {H : Hp} {a b : Addr} {xs ys : List V} {Q : VK} (ha : SqT K H a xs) (hb : SqT K H b ys) (hl : xs.length + ys.length ≤ 1000) (q : ∀ p H', SqT K H' p (xs ++ ys) → Ext H H' → Q (.ref p) H') : rCatA K (.ref a) (.ref b) H Q := by
  refine ⟨a, b, xs, ys, rfl, rfl, ha, hb, small_line hl, fun e => q b H ?_ (Ext.refl H), fun _ e => q a H ?_ (Ext.refl H), fun _ _ p hp => q p _ (SqT.of upd_same) (Ext.new hp _)⟩
  · rw [e]; exact hb
  · rw [e, List.append_nil]; exact ha
end
end K75

set_option Elab.async false
set_option linter.all false
set_option maxRecDepth 100000
set_option maxHeartbeats 4000000
namespace K75
open PySem PySem.Spec PyProof.Rows L2 Bk Evl
theorem TabAt.ext {H H' : Hp} {d : Addr} {es : Prs} (t : TabAt H d es) (k : Ext H H') : TabAt H' d es := ⟨k _ _ t.1, t.2⟩
theorem nat_list : ∀ {l : List Int}, (∀ x ∈ l, ∃ p : Nat, x = (p : Int)) → ∃ N : List Nat, l = N.map fun p : Nat => (p : Int)
  | [], _ => ⟨[], rfl⟩
  | x :: l, h => by
    obtain ⟨p, rfl⟩ := h x List.mem_cons_self
    obtain ⟨N, rfl⟩ := nat_list fun x hx => h x (List.mem_cons_of_mem _ hx)
    exact ⟨p :: N, rfl⟩
theorem asc_len12 {m : Nat} {L : List Nat} (h : AscL m L) : L.length ≤ m := asc_len (a := 0) h.1 fun x hx => ⟨Nat.zero_le _, h.2 x hx⟩
theorem FacOk.nn {l : Prs} (f : FacOk l) : ∀ e ∈ l, 0 ≤ e.2 := fun e he => by
  obtain ⟨_, _, _, _, _, h, _⟩ := f.one e he
  omega
end K75

set_option Elab.async false
set_option linter.all false
set_option maxRecDepth 100000
set_option maxHeartbeats 4000000
namespace K75
open PySem PySem.Spec PyProof.Rows L2 Bk Evl
/-! ### the text of a rule, in numbers -/
def natS (k : Nat) : Str := Str.ofString (toString ((k : Nat) : Int))
theorem natS_eq (k : Nat) : natS k = SX.S (TL.numL k) := SX.num_S k
def ruleT (a b c : Nat) : Str := natS a ++ ("/n = " : Str) ++ natS b ++ ("/x + " : Str) ++ natS c ++ ("/y" : Str)
/-- the word of a number -/
def wordT (k z : Nat) : Str := SX.S (TL.numL k ++ [47, z])
theorem t1 : ("/n = " : Str) = SX.S [47, 110, 32, 61, 32] := by decide +kernel
theorem t2 : ("/x + " : Str) = SX.S [47, 120, 32, 43, 32] := by decide +kernel
theorem t3 : ("/y" : Str) = SX.S [47, 121] := by decide +kernel
theorem t4 : (" " : Str) = SX.S [32] := by decide +kernel
theorem t5 : ("=" : Str) = SX.S [61] := by decide +kernel
theorem t6 : ("+" : Str) = SX.S [43] := by decide +kernel
theorem ruleT_eq (a b c : Nat) : ruleT a b c = SX.S (TL.joinL [32] [TL.numL a ++ [47, 110], [61], TL.numL b ++ [47, 120], [43], TL.numL c ++ [47, 121]]) := by
  unfold ruleT
  rw [t1, t2, t3, natS_eq, natS_eq, natS_eq, SX.S_cat, SX.S_cat, SX.S_cat, SX.S_cat, SX.S_cat]
  congr 1
  simp [TL.joinL]
theorem num_sp : ∀ k : Fin 13, 32 ∉ TL.numL k.val ∧ (TL.numL k.val).length ≤ 2 := by decide +kernel
theorem rule_split {a b c : Nat} (ha : a ≤ 12) (hb : b ≤ 12) (hc : c ≤ 12) : Txt.split (ruleT a b c) (" " : Str) = [wordT a 110, "=", wordT b 120, "+", wordT c 121] := by
  have na := (num_sp ⟨a, by omega⟩).1
  have nb := (num_sp ⟨b, by omega⟩).1
  have nc := (num_sp ⟨c, by omega⟩).1
  dsimp only at na nb nc
  rw [ruleT_eq, t4, SX.split_S (by simp) (by decide), SX.spl_join (by simp) (fun p hp => by
    simp only [List.mem_cons, List.not_mem_nil, or_false] at hp
    rcases hp with rfl | rfl | rfl | rfl | rfl
    · simp [na]
    · decide
    · simp [nb]
    · decide
    · simp [nc])]
  rw [t5, t6]
  rfl
theorem rule_len {a b c : Nat} (ha : a ≤ 12) (hb : b ≤ 12) (hc : c ≤ 12) : (ruleT a b c).length ≤ 100 := by
  have na := (num_sp ⟨a, by omega⟩).2
  have nb := (num_sp ⟨b, by omega⟩).2
  have nc := (num_sp ⟨c, by omega⟩).2
  dsimp only at na nb nc
  rw [ruleT_eq, SX.S_len]
  simp [TL.joinL]
  omega
theorem natS_len {k : Nat} (hk : k ≤ 12) : (natS k).length ≤ 2 := by
  rw [natS_eq, SX.S_len]
  exact (num_sp ⟨k, by omega⟩).2
theorem word_cut : ∀ k : Fin 13, cutS (wordT k.val 110) none (some (-2)) = SX.S (TL.numL k.val) ∧ cutS (wordT k.val 120) none (some (-2)) = SX.S (TL.numL k.val) ∧ cutS (wordT k.val 121) none (some (-2)) = SX.S (TL.numL k.val) := by decide +kernel
theorem word_end : ∀ k : Fin 13, Txt.endswith (wordT k.val 110) "/n" = true ∧ Txt.endswith (wordT k.val 120) "/x" = true ∧ Txt.endswith (wordT k.val 121) "/y" = true := by decide +kernel
theorem word_len {k z : Nat} (hk : k ≤ 12) : (wordT k z).length ≤ 4 := by
  unfold wordT
  rw [SX.S_len, List.length_append]
  have := (num_sp ⟨k, by omega⟩).2
  dsimp only at this
  simp
  omega
theorem dec_ok : ∀ k : Fin 13, 1 ≤ k.val → SX.S (TL.numL k.val) ≠ ("" : Str) ∧ Txt.stripChars (SX.S (TL.numL k.val)) ("0123456789" : Str) = ("" : Str) ∧ PySem.intText? (SX.S (TL.numL k.val)) = some (k.val : Int) ∧ ∃ d, atI (TL.numL k.val) 0 = some d ∧ d ≠ 48 ∧ d = (TL.numL k.val).headD 0 := by
  intro k hk
  refine ⟨?_, ?_, ?_, (TL.numL k.val).headD 0, ?_, ?_, rfl⟩ <;> revert hk <;> revert k <;> decide +kernel
theorem zero_t : ("0" : Str) = ⟨#[48]⟩ := by decide +kernel
section
variable {P : Program} {w : World} {K : PySem.W.Frag} {mg : Str → Option Value} {base : Heap}
/-! ### decimal, of the text of a number to 12 -/
def spDecimal : Sp := fun vs H Q _ => ∃ k : Nat, vs = [.str (SX.S (TL.numL k)), .int 2] ∧ (1 ≤ k ∧ k ≤ 12) ∧ Q (.int (k : Nat)) H
theorem sc_decimal : FnScope ["text", "figures"] ["text", "figures"] (defScope s_decimal) := ⟨rfl, rfl, rfl, by decide +kernel, rfl, by decide +kernel, by decide +kernel⟩
theorem ok_decimal (T : Txt K mg) : Ok P w K mg base 1 (He.ga K "decimal") ["text", "figures"] spDecimal := by
  obtain ⟨t_FIGURES, m_FIGURES⟩ := T.t_FIGURES
  refine fd_ok T.f_decimal sc_decimal (fun vs H Q E h => ?_) (fun _ _ _ _ _ _ us hl => match us, hl with | [_, _], _ => rfl) (fun cdv A outer s H vs Q E hr h => ?_)
  · obtain ⟨k, rfl, _⟩ := h
    rfl
  · obtain ⟨k, rfl, ⟨k1, k2⟩, q⟩ := h
    have nd := sc_decimal.nd
    refine ⟨_, (pss_cons (ps_if (PW.pt (pw_or (pt_cmpR op_eq (pv 0) pe_str (nomark _)) (pw_or (pt_cmpR op_gt (pe_callB call_len_str rfl T.z_len (by decide +kernel) (pa_cons (pv 0) pa_nil)) (pv 1) (nomark _)) (pw_or (pt_cmpR op_eq (pe_ix ix_str (pv 0) pe_int (by intro _ _; rfl)) pe_str (nomark _)) (pw_or1 (pt_cmpR op_ne (pe_m1 F.slot_str_strip F.type_str_strip mt_stripChars (pv 0) (pe_glob (v := .str "0123456789") rfl m_FIGURES ⟨_, rfl⟩)) pe_str (nomark _))))))) (pss_one (ps_ret pe_non)) pss_nil) (pss_one (ps_ret (pe_callTy call_int_str rfl T.z_int (by decide +kernel) (pa_cons (pv 0) pa_nil))))), ?_⟩
    obtain ⟨h1, h2, h3, d, h4, h5, _⟩ := dec_ok ⟨k, by omega⟩ k1
    have h6 := (num_sp ⟨k, by omega⟩).2
    dsimp only at h1 h2 h3 h4 h5 h6
    have hl : (SX.S (TL.numL k)).length ≤ 2 := by rw [SX.S_len]; exact h6
    refine ⟨_, rfl, rfl, _, rfl, ?_⟩
    show if decide (V.str (SX.S (TL.numL k)) = V.str ("" : Str)) = true then _ else _
    rw [decide_eq_false fun z => h1 (by injection z)]
    refine iteF ?_
    refine ⟨_, rfl, _, rfl, small_line (by omega), _, rfl, _, _, rfl, rfl, _, rfl, ?_⟩
    refine ite2 (fun z => absurd (of_decide_eq_true z) (by omega)) (fun _ => ?_)
    refine ⟨_, rfl, _, 0, d, rfl, rfl, small_line (by omega), h4, rfl, _, rfl, ?_⟩
    show if decide (V.str ⟨#[d]⟩ = V.str ("0" : Str)) = true then _ else _
    rw [zero_t, decide_eq_false fun z => h5 (by injection z with z; injection z with z; injection z with z; injection z)]
    refine iteF ?_
    refine ⟨_, rfl, ⟨_, rfl⟩, _, _, rfl, rfl, small_line (by omega), rfl, _, rfl, ?_⟩
    show if (!decide (V.str (Txt.stripChars (SX.S (TL.numL k)) ("0123456789" : Str)) = V.str ("" : Str))) = true then _ else _
    rw [h2, decide_eq_true rfl]
    refine iteF ⟨_, rfl, _, _, rfl, h3, by omega, q⟩
/-! ### rule_of, of the text of a rule -/
def spRuleOf (K : PySem.W.Frag) : Sp := fun vs H Q _ => ∃ a b c : Nat, vs = [.str (ruleT a b c)] ∧ okRule a b c ∧ ∀ r H', RuleAt K H' r a b c → Ext H H' → Q (.ref r) H'
theorem sc_rule_of : FnScope ["text", "words", "parts", "first", "second", "place"] ["text"] (defScope s_rule_of) := ⟨rfl, rfl, rfl, by decide +kernel, rfl, by decide +kernel, by decide +kernel⟩
theorem ok_rule_of (T : Txt K mg) : Ok P w K mg base 6 (He.ga K "rule_of") ["text"] (spRuleOf K) := by
  obtain ⟨fd_decimal, F_decimal, b_decimal, k_decimal, _⟩ := (ok_decimal (P := P) (w := w) (base := base) T).ex
  obtain ⟨fd_is_share, F_is_share, b_is_share, k_is_share, _⟩ := (ok_is_share (P := P) (w := w) (base := base) T).ex
  obtain ⟨fd_is_between, F_is_between, b_is_between, k_is_between, _⟩ := (ok_is_between (P := P) (w := w) (base := base) T).ex
  obtain ⟨fd_Rule_init, F_Rule_init, b_Rule_init, k_Rule_init, _⟩ := (ok_Rule_init (P := P) (w := w) (base := base) T).ex
  obtain ⟨t_MOST_PARTS, m_MOST_PARTS⟩ := T.i_MOST_PARTS
  refine fd_ok T.f_rule_of sc_rule_of (fun vs H Q E h => ?_) (fun _ _ _ _ _ _ us hl => match us, hl with | [_], _ => rfl) (fun cdv A outer s H vs Q E hr h => ?_)
  · obtain ⟨a, b, c, rfl, _⟩ := h
    rfl
  · obtain ⟨a, b, c, rfl, ok, q⟩ := h
    have nd := sc_rule_of.nd
    refine ⟨_, (pss_cons (ps_if (pt_not (pt_val (pe_callB call_isi rfl T.z_isinstance (by decide +kernel) (pa_cons (pv 0) (pa_cons (pe_bltn rfl T.z_str (by decide +kernel) (v := .ty "str") rfl) pa_nil))))) (pss_one (ps_ret pe_non)) pss_nil) (pss_cons (ps_set (i := 1) nd rfl (Or.inr rfl) (pe_split (pv 0) pe_str)) (pss_cons (ps_if (PW.pt (pw_or (pt_cmpR op_ne (pe_callB call_len_seq rfl T.z_len (by decide +kernel) (pa_cons (pv 1) pa_nil)) pe_int (nomark _)) (pw_or (pt_cmpR op_ne (pe_ix ix_list (pv 1) pe_int (by intro _ _; rfl)) pe_str (nomark _)) (pw_or1 (pt_cmpR op_ne (pe_ix ix_list (pv 1) pe_int (by intro _ _; rfl)) pe_str (nomark _)))))) (pss_one (ps_ret pe_non)) pss_nil) (pss_cons (ps_if (PW.pt (pw_or (pt_not (pt_val (pe_m1 F.slot_str_endswith F.type_str_endswith mt_endswith (pe_ix ix_list (pv 1) pe_int (by intro _ _; rfl)) pe_str))) (pw_or (pt_not (pt_val (pe_m1 F.slot_str_endswith F.type_str_endswith mt_endswith (pe_ix ix_list (pv 1) pe_int (by intro _ _; rfl)) pe_str))) (pw_or1 (pt_not (pt_val (pe_m1 F.slot_str_endswith F.type_str_endswith mt_endswith (pe_ix ix_list (pv 1) pe_int (by intro _ _; rfl)) pe_str))))))) (pss_one (ps_ret pe_non)) pss_nil) (pss_cons (ps_asg (pe_lc (own := [("place", 5)]) (g := (gName 5)) (tt := tYes) rfl nd (pi_tup (pe_tup (pa_cons pe_int (pa_cons pe_int (pa_cons pe_int pa_nil))))) (blkOk_by (own := [("place", 5)]) (N := ["text", "words", "parts", "first", "second", "place"]) (sc := defScope s_rule_of) (by decide +kernel)) (fun _ _ _ _ _ => (pg_name (i := 5) nd rfl (Or.inl rfl))) (fun _ _ _ _ _ => pts_nil) (fun _ _ _ _ _ => (pe_call F_decimal (hr.mono (by decide)) rfl T.g_decimal k_decimal b_decimal .nil pass0 (pa_cons (pe_slice sl_str (pe_ix (ixK (K0 := K) (r := rIxL) ix_list) (pv 1) (pv 5) (by intro _ _; rfl)) po_none (po_some (pe_un un_neg pe_int))) (pa_cons pe_int pa_nil))))) (pg_unl rfl (pgs_cons (pg_name (i := 2) nd rfl (Or.inl rfl)) (pgs_cons (pg_name (i := 3) nd rfl (Or.inl rfl)) (pgs_cons (pg_name (i := 4) nd rfl (Or.inl rfl)) pgs_nil))))) (pss_cons (ps_if (PW.pt (pw_or (pt_not (pt_val (pe_call F_is_between (hr.mono (by decide)) rfl T.g_is_between k_is_between b_is_between .nil pass0 (pa_cons (pv 2) (pa_cons pe_int (pa_cons (pe_glob (v := .int 12) rfl m_MOST_PARTS ⟨_, rfl⟩) pa_nil)))))) (pw_or (pt_not (pt_val (pe_call F_is_share (hr.mono (by decide)) rfl T.g_is_share k_is_share b_is_share .nil pass0 (pa_cons (pv 2) (pa_cons (pv 3) pa_nil))))) (pw_or1 (pt_not (pt_val (pe_call F_is_share (hr.mono (by decide)) rfl T.g_is_share k_is_share b_is_share .nil pass0 (pa_cons (pv 2) (pa_cons (pv 4) pa_nil))))))))) (pss_one (ps_ret pe_non)) pss_nil) (pss_one (ps_ret (pe_make T.mk_Rule F_Rule_init (hr.mono (by decide)) rfl T.g_Rule b_Rule_init .nil pass0 (pa_cons (pv 2) (pa_cons (pv 3) (pa_cons (pv 4) pa_nil)))))))))))), ?_⟩
    obtain ⟨⟨a1, a2⟩, hb, hc⟩ := id ok
    obtain ⟨b1, b2, b3⟩ := shareB_bd hb
    obtain ⟨c1, c2, c3⟩ := shareB_bd hc
    refine ⟨_, rfl, _, _, _, _, true, rfl, .ty _, .base (.str _), by rfl, true, rfl, iteF ?_⟩
    refine ⟨_, rfl, ⟨_, rfl⟩, _, _, rfl, rfl, rfl, small_line (by have := rule_len a2 b2 c2; omega), fun p hp => ?_⟩
    rw [rule_split a2 b2 c2]
    have e1 := Ext.new hp (.lst ([wordT a 110, "=", wordT b 120, "+", wordT c 121].map V.str))
    have k1 : upd H p (.lst ([wordT a 110, "=", wordT b 120, "+", wordT c 121].map V.str)) p = some (.lst [.str (wordT a 110), .str "=", .str (wordT b 120), .str "+", .str (wordT c 121)]) := upd_same
    generalize upd H p (.lst ([wordT a 110, "=", wordT b 120, "+", wordT c 121].map V.str)) = H1 at e1 k1 ⊢
    have sk := SqL.of (K := K) k1
    refine ⟨_, rfl, p, _, rfl, .inl sk, rfl, _, rfl, ?_⟩
    refine iteF ⟨_, rfl, p, _, 1, _, rfl, rfl, sk, rfl, rfl, _, rfl, ?_⟩
    show if (!decide (V.str ("=" : Str) = V.str "=")) = true then _ else _
    rw [decide_eq_true rfl]
    refine iteF ⟨_, rfl, p, _, 3, _, rfl, rfl, sk, rfl, rfl, _, rfl, ?_⟩
    show if (!decide (V.str ("+" : Str) = V.str "+")) = true then _ else _
    rw [decide_eq_true rfl]
    refine iteF ?_
    have wa := word_end ⟨a, by omega⟩
    have wb := word_end ⟨b, by omega⟩
    have wc := word_end ⟨c, by omega⟩
    dsimp only at wa wb wc
    refine ⟨_, rfl, p, _, 0, _, rfl, rfl, sk, rfl, ⟨_, rfl⟩, _, _, rfl, rfl, _, rfl, ?_⟩
    show if (!Txt.endswith (wordT a 110) "/n") = true then _ else _
    rw [wa.1]
    refine iteF ⟨_, rfl, p, _, 2, _, rfl, rfl, sk, rfl, ⟨_, rfl⟩, _, _, rfl, rfl, _, rfl, ?_⟩
    show if (!Txt.endswith (wordT b 120) "/x") = true then _ else _
    rw [wb.2.1]
    refine iteF ⟨_, rfl, p, _, 4, _, rfl, rfl, sk, rfl, ⟨_, rfl⟩, _, _, rfl, rfl, _, rfl, ?_⟩
    show if (!Txt.endswith (wordT c 121) "/y") = true then _ else _
    rw [wc.2.2]
    refine iteF ?_
    refine ⟨by show 3 ≤ sizeLine; decide, fun tp htp => ⟨tp, rfl, ⟨_, SqT.of upd_same⟩, fun D hD => ?_⟩⟩
    have e2 := e1.trans (Ext.new htp (.tup [.int 0, .int 2, .int 4]))
    have k2 : upd H1 tp (.tup [.int 0, .int 2, .int 4]) tp = some (.tup [.int 0, .int 2, .int 4]) := upd_same
    have k1 := (Ext.new htp (.tup [.int 0, .int 2, .int 4])) _ _ k1
    generalize upd H1 tp (.tup [.int 0, .int 2, .int 4]) = H2 at e2 k1 k2 hD ⊢
    refine lc_tup (xs := [.int 0, .int 2, .int 4]) (Cw H2 (fun _ => true) (fun i => V.int ([a, b, c].getD i 0 : Nat)) D) ⟨hD, Ex.new hD, upd_same⟩ (fun i H' _ p => SqT.of (p.2.1 _ _ k2)) (fun i x H' hx p' => ?_) (fun H' p' => ?_)
    · have il : i < 3 := (List.getElem?_eq_some_iff.mp hx).1
      refine ⟨rfl, cw_turn p' (by omega) (fun H1 e Q q => q H1 (Ex.refl H1)) (fun _ H3 e Q q => ?_)⟩
      have k3 := SqL.of (K := K) (e _ _ k1)
      match i, hx, q with
      | 0, hx, q =>
        cases hx
        exact ⟨_, rfl, _, rfl, p, _, 0, _, rfl, rfl, k3, rfl, _, rfl, _, rfl, _, rfl, small_line (by have := word_len (z := 110) a2; omega), a, congrArg (fun z => [V.str z, V.int 2]) (word_cut ⟨a, by omega⟩).1, ⟨by omega, a2⟩, q H3 (Ex.refl H3)⟩
      | 1, hx, q =>
        cases hx
        exact ⟨_, rfl, _, rfl, p, _, 2, _, rfl, rfl, k3, rfl, _, rfl, _, rfl, _, rfl, small_line (by have := word_len (z := 120) b2; omega), b, congrArg (fun z => [V.str z, V.int 2]) (word_cut ⟨b, by omega⟩).2.1, ⟨b1, b2⟩, q H3 (Ex.refl H3)⟩
      | 2, hx, q =>
        cases hx
        exact ⟨_, rfl, _, rfl, p, _, 4, _, rfl, rfl, k3, rfl, _, rfl, _, rfl, _, rfl, small_line (by have := word_len (z := 121) c2; omega), c, congrArg (fun z => [V.str z, V.int 2]) (word_cut ⟨c, by omega⟩).2.2, ⟨c1, c2⟩, q H3 (Ex.refl H3)⟩
    · obtain ⟨p1, p2, p3⟩ := p'
      rw [given_all] at p3
      refine ⟨D, _, rfl, SqL.of p3, rfl, _, _, rfl, _, _, rfl, _, _, rfl, rfl, ?_⟩
      have e3 := e2.trans p2
      refine ⟨_, rfl, (a : Int), 2, 12, rfl, _, rfl, ?_⟩
      rw [decide_eq_true (show (2 : Int) ≤ (a : Int) by omega), decide_eq_true (show (a : Int) ≤ 12 by omega)]
      refine iteF ?_
      refine ⟨_, rfl, _, rfl, a, b, rfl, _, rfl, ?_⟩
      rw [hb]
      refine iteF ⟨_, rfl, _, rfl, a, c, rfl, _, rfl, ?_⟩
      rw [hc]
      refine iteF ⟨_, rfl, _, rfl, _, rfl, ?_⟩
      intro r dr hr0 hdr nr
      refine ⟨r, dr, a, b, c, rfl, upd_same, ok, fun H7 R7 k7 => ⟨rfl, ?_⟩⟩
      refine q r H7 R7 fun x o e => ?_
      have x1 := ne_of_none (e3 _ _ e) hr0
      exact k7 x o (by rw [upd_ne x1, upd_ne (ne_of_none (e3 _ _ e) hdr)]; exact e3 _ _ e) x1
end
end K75

set_option Elab.async false
set_option linter.all false
set_option maxRecDepth 100000
set_option maxHeartbeats 4000000
namespace K75
open PySem PySem.Spec PyProof.Rows L2 Bk Evl
/-! ### check_rule, check_value, check_pair (left out where the program has none) -/
section
variable {P : Program} {w : World} {K : PySem.W.Frag} {mg : Str → Option Value} {base : Heap}
def spCheckRule (K : PySem.W.Frag) : Sp := fun vs H Q _ => ∃ (r dx : Addr) (fs : List (Str × V)), vs = [.ref r] ∧ H r = some (.ins (CR K) dx fs) ∧ Q .non H
theorem sc_check_rule : FnScope ["value"] ["value"] (defScope s_check_rule) := ⟨rfl, rfl, rfl, by decide +kernel, rfl, by decide +kernel, by decide +kernel⟩
theorem ok_check_rule (T : Txt K mg) : Ok P w K mg base 1 (He.ga K "check_rule") ["value"] (spCheckRule K) := by
  refine fd_ok T.f_check_rule sc_check_rule (fun vs H Q E h => ?_) (fun _ _ _ _ _ _ us hl => match us, hl with | [_], _ => rfl) (fun cdv A outer s H vs Q E hr h => ?_)
  · obtain ⟨r, dx, fs, rfl, _⟩ := h
    rfl
  · obtain ⟨r, dx, fs, rfl, h1, q⟩ := h
    refine ⟨_, pss_one (ps_if (pt_not (pt_val (pe_callB call_isi rfl T.z_isinstance (by decide +kernel) (pa_cons (pv 0) (pa_cons (pe_glob (v := .ref (CR K)) rfl T.g_Rule rfl) pa_nil))))) (pss_one ps_never) pss_nil), ?_⟩
    refine ⟨_, rfl, _, _, _, _, true, rfl, .own _, .base (T.ty_Rule h1), kit_self _, true, rfl, ?_⟩
    exact iteF q
def spCheckValue (K : PySem.W.Frag) : Sp := fun vs H Q _ => ∃ (r dx : Addr) (fs : List (Str × V)), vs = [.ref r] ∧ H r = some (.ins (CN K) dx fs) ∧ Q .non H
theorem sc_check_value : FnScope ["value"] ["value"] (defScope s_check_value) := ⟨rfl, rfl, rfl, by decide +kernel, rfl, by decide +kernel, by decide +kernel⟩
theorem ok_check_value (T : Txt K mg) : Ok P w K mg base 1 (He.ga K "check_value") ["value"] (spCheckValue K) := by
  refine fd_ok T.f_check_value sc_check_value (fun vs H Q E h => ?_) (fun _ _ _ _ _ _ us hl => match us, hl with | [_], _ => rfl) (fun cdv A outer s H vs Q E hr h => ?_)
  · obtain ⟨r, dx, fs, rfl, _⟩ := h
    rfl
  · obtain ⟨r, dx, fs, rfl, h1, q⟩ := h
    refine ⟨_, pss_one (ps_if (pt_not (pt_val (pe_callB call_isi rfl T.z_isinstance (by decide +kernel) (pa_cons (pv 0) (pa_cons (pe_glob (v := .ref (CN K)) rfl T.g_Number rfl) pa_nil))))) (pss_one ps_never) pss_nil), ?_⟩
    refine ⟨_, rfl, _, _, _, _, true, rfl, .own _, .base (T.ty_Number h1), kit_self _, true, rfl, ?_⟩
    exact iteF q
def spCheckPair (K : PySem.W.Frag) : Sp := fun vs H Q _ => ∃ (r n : Addr) (a b c : Nat) (l : Prs) (v : V), vs = [.ref r, .ref n] ∧ RuleAt K H r a b c ∧ NumAt K H n l v ∧ Q .non H
theorem sc_check_pair : FnScope ["rule", "number"] ["rule", "number"] (defScope s_check_pair) := ⟨rfl, rfl, rfl, by decide +kernel, rfl, by decide +kernel, by decide +kernel⟩
theorem ok_check_pair (T : Txt K mg) : Ok P w K mg base 2 (He.ga K "check_pair") ["rule", "number"] (spCheckPair K) := by
  obtain ⟨fd1, F1, b1, k1, _⟩ := (ok_check_rule (P := P) (w := w) (base := base) T).ex
  obtain ⟨fd2, F2, b2, k2, _⟩ := (ok_check_value (P := P) (w := w) (base := base) T).ex
  refine fd_ok T.f_check_pair sc_check_pair (fun vs H Q E h => ?_) (fun _ _ _ _ _ _ us hl => match us, hl with | [_, _], _ => rfl) (fun cdv A outer s H vs Q E hr h => ?_)
  · obtain ⟨r, n, a, b, c, l, v, rfl, _⟩ := h
    rfl
  · obtain ⟨r, n, a, b, c, l, v, rfl, R, N, q⟩ := h
    obtain ⟨dx, m, h1, _⟩ := R.ex
    obtain ⟨dy, t, h2, _⟩ := N.ex
    exact ⟨_, pss_cons (ps_expr (pe_call F1 hr rfl T.g_check_rule k1 b1 .nil pass0 (pa_cons (pv 0) pa_nil))) (pss_one (ps_expr (pe_call F2 hr rfl T.g_check_value k2 b2 .nil pass0 (pa_cons (pv 1) pa_nil)))),
      ⟨_, rfl, r, dx, _, rfl, h1, _, rfl, n, dy, _, rfl, h2, q⟩⟩
end
end K75

set_option Elab.async false
set_option linter.all false
set_option maxRecDepth 100000
set_option maxHeartbeats 4000000
namespace K75
open PySem PySem.Spec PyProof.Rows L2 Bk Evl
section
variable {P : Program} {w : World} {K : PySem.W.Frag} {mg : Str → Option Value} {base : Heap}
/-! ### power_rest of the cores -/
def spPowRest : Sp := fun vs H Q _ => ∃ (b m : Nat) (e : Int), vs = [.int b, .int e, .int m] ∧ (1 ≤ m ∧ m ≤ 12) ∧ Nat.gcd b m = 1 ∧ ∀ H', Ext H H' → Q (.int (pw b e m : Nat)) H'
theorem sc_power_rest_cores : FnScope ["base", "exponent", "modulus", "found"] ["base", "exponent", "modulus"] (defScope s_power_rest_cores) := ⟨rfl, rfl, rfl, by decide +kernel, rfl, by decide +kernel, by decide +kernel⟩
theorem ok_power_rest_cores (T : Txt K mg) : Ok P w K mg base 2 (He.ga K "power_rest_cores") ["base", "exponent", "modulus"] spPowRest := by
  obtain ⟨fd_powers, F_powers, b_powers, k_powers, _⟩ := (ok_powers (P := P) (w := w) (base := base) T).ex
  refine fd_ok T.f_power_rest_cores sc_power_rest_cores (fun vs H Q E h => ?_) (fun _ _ _ _ _ _ us hl => match us, hl with | [_, _, _], _ => rfl) (fun cdv A outer s H vs Q E hr h => ?_)
  · obtain ⟨b, m, e, rfl, _⟩ := h
    rfl
  · obtain ⟨b, m, e, rfl, ⟨m1, m2⟩, hg, q⟩ := h
    have nd := sc_power_rest_cores.nd
    refine ⟨_, (pss_cons (ps_set (i := 3) nd rfl (Or.inl rfl) (pe_call F_powers (hr.mono (by decide)) rfl T.g_powers k_powers b_powers .nil pass0 (pa_cons (pe_op op_mod (pe_callTy call_int1 rfl T.z_int (by decide +kernel) (pa_cons (pv 0) pa_nil)) (pv 2)) (pa_cons (pv 2) pa_nil)))) (pss_one (ps_ret (pe_ix ix_list (pv 3) (pe_op op_mod (pe_callTy call_int1 rfl T.z_int (by decide +kernel) (pa_cons (pv 1) pa_nil)) (pe_callB call_len_seq rfl T.z_len (by decide +kernel) (pa_cons (pv 3) pa_nil))) (by intro _ _; rfl))))), ?_⟩
    have hbm : b % m < m := Nat.mod_lt _ m1
    refine ⟨_, rfl, .inl ⟨_, rfl, _, rfl, _, _, rfl, rfl, by omega, _, rfl, b % m, m, ?_, ⟨m1, by omega⟩, by omega, fun f k H1 hf k1 nd hk hf0 e1 => ?_⟩⟩
    · show [V.int ((b : Int) % (m : Int)), _] = [V.int ((b % m : Nat) : Int), _]
      rw [Int.natCast_emod]
    obtain ⟨o1, o2, o3⟩ := ord_of m1 m2 hbm (by rw [← Nat.gcd_rec m b, Nat.gcd_comm]; exact hg) k1 nd hk
    obtain ⟨j1, j2⟩ := powL_at (e := e) k1 o1 o2
    have hnn := Int.emod_nonneg e (show (k : Int) ≠ 0 by omega)
    refine ⟨_, rfl, _, rfl, .inl ⟨_, rfl, _, rfl, f, _, rfl, .inl (SqL.of hf), _, _, rfl, rfl, ?_, f, _, _, V.int (pw (b % m) e m : Nat), rfl, rfl, SqL.of hf, ?_, ?_⟩⟩
    · rw [List.length_map, powL_len]
      omega
    · rw [List.length_map, powL_len]
      rw [show e % (k : Int) = ((e % (k : Int)).toNat : Int) by omega]
      exact atI_nat (by rw [List.getElem?_map, j2]; rfl)
    · rw [pw_base]
      exact q H1 e1
end
end K75

set_option Elab.async false
set_option linter.all false
set_option maxRecDepth 100000
set_option maxHeartbeats 4000000
namespace K75
open PySem PySem.Spec PyProof.Rows L2 Bk Evl
/-! ### steps as data -/
def pairD (q : Int × Int) : PyData := .tuple [.int q.1, .int q.2]
theorem pairD_inj {q r : Int × Int} (h : pairD q = pairD r) : q = r := by
  unfold pairD at h
  injection h with h
  injection h with h1 h2
  injection h1 with h1
  injection h2 with h2 _
  injection h2 with h2
  exact Prod.ext h1 h2
theorem pairsD_inj : ∀ {L M : Prs}, L.map pairD = M.map pairD → L = M
  | [], [], _ => rfl
  | [], _ :: _, h => by cases h
  | _ :: _, [], h => by cases h
  | q :: L, r :: M, h => by
    injection h with h1 h2
    rw [pairD_inj h1, pairsD_inj h2]
structure StepOk (S : Sps3) (L : Prs) : Prop where
  asc : L.Pairwise fun e f => e.1 < f.1
  ok : ∀ q ∈ L, q.2 ≠ 0 ∧ ∃ lo hi, (q.1, lo, hi) ∈ S ∧ lo ≤ q.2 ∧ q.2 ≤ hi
def StepD (S : Sps3) (d : PyData) : Prop := ∃ L : Prs, d = .tuple (L.map pairD) ∧ StepOk S L
theorem step_nil (S : Sps3) : StepOk S [] := ⟨.nil, fun q h => by cases h⟩
theorem step_snoc {S : Sps3} {L : Prs} {q : Int × Int} {lo hi : Int} (h : StepOk S L) (h0 : q.2 ≠ 0) (hs : (q.1, lo, hi) ∈ S) (h1 : lo ≤ q.2) (h2 : q.2 ≤ hi) (hl : ∀ q' ∈ L, q'.1 < q.1) : StepOk S (L ++ [q]) := by
  refine ⟨List.pairwise_append.mpr ⟨h.asc, by simp, fun a ha b hb => by rw [List.mem_singleton.mp hb]; exact hl a ha⟩, fun r hr => ?_⟩
  rcases List.mem_append.mp hr with hr | hr
  · exact h.ok r hr
  · rw [List.mem_singleton.mp hr]
    exact ⟨h0, lo, hi, hs, h1, h2⟩
theorem step_at {S : Sps3} {ds : List PyData} {L : Prs} {i : Nat} {d : PyData} (hL : ds.take i = L.map pairD) (hd : ds[i]? = some d) (h : StepD S (.tuple ds)) :
    ∃ q, d = pairD q ∧ q.2 ≠ 0 ∧ (∃ lo hi, (q.1, lo, hi) ∈ S ∧ lo ≤ q.2 ∧ q.2 ≤ hi) ∧ ∀ q' ∈ L, q'.1 < q.1 := by
  obtain ⟨M, e, ok⟩ := h
  injection e with e
  subst e
  rw [List.getElem?_map] at hd
  obtain ⟨q, hq, rfl⟩ := Option.map_eq_some_iff.mp hd
  rw [← List.map_take] at hL
  obtain rfl := pairsD_inj hL
  obtain ⟨h0, h1⟩ := ok.ok q (List.mem_of_getElem? hq)
  refine ⟨q, rfl, h0, h1, fun q' hq' => ?_⟩
  obtain ⟨j, hj⟩ := List.mem_iff_getElem?.mp hq'
  have jl := (List.getElem?_eq_some_iff.mp hj).1
  rw [List.length_take] at jl
  rw [List.getElem?_take, if_pos (by omega)] at hj
  obtain ⟨a1, a2⟩ := List.getElem?_eq_some_iff.mp hj
  obtain ⟨b1, b2⟩ := List.getElem?_eq_some_iff.mp hq
  have := List.pairwise_iff_getElem.mp ok.asc j i a1 b1 (by omega)
  rw [a2, b2] at this
  exact this
/-- the last one is the greatest -/
theorem asc_last {L : Prs} {j : Nat} {p : Int × Int} {x : Int} (h : L.Pairwise fun e f => e.1 < f.1) (hj : L[j]? = some p) (hl : L.length = j + 1) (hx : p.1 < x) : ∀ q ∈ L, q.1 < x := fun q hq => by
  obtain ⟨i, hi⟩ := List.mem_iff_getElem?.mp hq
  obtain ⟨a1, a2⟩ := List.getElem?_eq_some_iff.mp hi
  obtain ⟨b1, b2⟩ := List.getElem?_eq_some_iff.mp hj
  by_cases e : i = j
  · subst e
    rw [hi] at hj
    obtain rfl := Option.some.inj hj
    exact hx
  · have := List.pairwise_iff_getElem.mp h i j a1 b1 (by omega)
    rw [a2, b2] at this
    omega
/-- each base stands once -/
def KeysU (S : Sps3) : Prop := S.Pairwise fun e f => e.1 < f.1
theorem keysU_eq {S : Sps3} (h : KeysU S) {i lo hi lo' hi' : Int} (h1 : (i, lo, hi) ∈ S) (h2 : (i, lo', hi') ∈ S) : lo = lo' ∧ hi = hi' := by
  obtain ⟨j, hj⟩ := List.mem_iff_getElem?.mp h1
  obtain ⟨k, hk⟩ := List.mem_iff_getElem?.mp h2
  obtain ⟨a1, a2⟩ := List.getElem?_eq_some_iff.mp hj
  obtain ⟨b1, b2⟩ := List.getElem?_eq_some_iff.mp hk
  rcases Nat.lt_trichotomy j k with z | z | z
  · have := List.pairwise_iff_getElem.mp h j k a1 b1 z
    rw [a2, b2] at this
    exact absurd this (Int.lt_irrefl _)
  · subst z
    rw [hj] at hk
    injection hk with hk
    injection hk with _ hk
    injection hk with hk1 hk2
    exact ⟨hk1, hk2⟩
  · have := List.pairwise_iff_getElem.mp h k j b1 a1 z
    rw [a2, b2] at this
    exact absurd this (Int.lt_irrefl _)
/-- what a step leaves -/
def leavesL (m : Nat) (L : Prs) : Nat := L.foldl (fun a q => a * pw q.1.toNat q.2 m % m) (1 % m)
theorem leaves_snoc (m : Nat) (L : Prs) (q : Int × Int) : leavesL m (L ++ [q]) = leavesL m L * pw q.1.toNat q.2 m % m := by
  unfold leavesL
  rw [List.foldl_append]
  rfl
theorem leaves_lt {m : Nat} (m1 : 1 ≤ m) (L : Prs) : leavesL m L < m := by
  rcases List.eq_nil_or_concat L with rfl | ⟨M, q, rfl⟩
  · exact Nat.mod_lt _ m1
  · rw [List.concat_eq_append, leaves_snoc]
    exact Nat.mod_lt _ m1
/-- the paper of a pattern that goes -/
def ShowsD (m : Nat) (S : Sps3) (d : PyData) : Prop := if m < 3 then d = .tuple [] else ∃ L : Prs, d = .tuple (L.map pairD) ∧ StepOk S L ∧ leavesL m L = m - 1
section
variable {P : Program} {w : World} {K : PySem.W.Frag} {mg : Str → Option Value} {base : Heap}
/-- data, or an empty dict -/
def Dx (K : PySem.W.Frag) (H : Hp) (x : V) (d : PyData) : Prop := Dp K H x d ∨ ∃ a, x = .ref a ∧ H a = some (.dK []) ∧ d = .dict []
theorem Dx.ext {H H' : Hp} {x : V} {d : PyData} (h : Dx K H x d) (k : Ext H H') : Dx K H' x d := by
  rcases h with h | ⟨a, h1, h2, h3⟩
  · exact .inl (Dp.ext k d x h)
  · exact .inr ⟨a, h1, k _ _ h2, h3⟩
theorem tyx_dx {H : Hp} {x : V} {d : PyData} (h : Dx K H x d) : TyX K H x (.type (tyD d)) := by
  rcases h with h | ⟨a, rfl, h2, rfl⟩
  · exact tyx_dp h
  · exact .base (.dK h2)
theorem isT_dx {H : Hp} {x : V} {d : PyData} (h : Dx K H x d) (e : isT d = true) : ∃ a xs ds, d = .tuple ds ∧ x = .ref a ∧ SqT K H a xs ∧ DpAll K H xs ds := by
  rcases h with h | ⟨a, rfl, h2, rfl⟩
  · exact isT_dp h e
  · cases e
/-- it can be compared -/
def ShX (d : PyData) : Prop := SeqAt.shaped d = true ∨ d = .dict []
/-- a table of spans: a base to its two exponents -/
def TabS (H : Hp) (kvs : List (Key × V)) (S : Sps3) : Prop := Paired (fun (kv : Key × V) (q : Int × Int × Int) => kv.1 = Sum.inl q.1 ∧ ∃ t, kv.2 = .ref t ∧ H t = some (.tup [.int q.2.1, .int q.2.2])) kvs S
theorem TabS.mapP {H H' : Hp} {kvs : List (Key × V)} {S : Sps3} (h : TabS H kvs S) (k : ∀ x xs, H x = some (.tup xs) → H' x = some (.tup xs)) : TabS H' kvs S :=
  L2.Paired.mapP h fun _ _ ⟨e, t, e2, e3⟩ => ⟨e, t, e2, k _ _ e3⟩
theorem TabS.ext {H H' : Hp} {kvs : List (Key × V)} {S : Sps3} (h : TabS H kvs S) (k : Ext H H') : TabS H' kvs S := h.mapP fun _ _ e => k _ _ e
theorem tab_get {H : Hp} : ∀ {kvs : List (Key × V)} {S : Sps3}, TabS H kvs S → ∀ i : Int, (∃ lo hi t, (i, lo, hi) ∈ S ∧ valV kvs (Sum.inl i : Key) = some (.ref t) ∧ H t = some (.tup [.int lo, .int hi])) ∨ (valV kvs (Sum.inl i : Key) = none ∧ ∀ lo hi, (i, lo, hi) ∉ S)
  | _, _, .nil, i => .inr ⟨rfl, fun _ _ h => by cases h⟩
  | _, _, .cons (a := kv) (b := q) h t, i => by
    obtain ⟨h1, tt, h2, h3⟩ := h
    by_cases e : q.1 = i
    · subst e
      exact .inl ⟨q.2.1, q.2.2, tt, List.mem_cons_self, by rw [valV_pos h1, h2], h3⟩
    · have e' : kv.1 ≠ (Sum.inl i : Key) := fun z => e (Sum.inl.inj (h1.symm.trans z))
      rw [valV_neg e']
      rcases tab_get t i with ⟨lo, hi, t', g1, g2, g3⟩ | ⟨g1, g2⟩
      · exact .inl ⟨lo, hi, t', List.mem_cons_of_mem _ g1, g2, g3⟩
      · refine .inr ⟨g1, fun lo hi h => ?_⟩
        rcases List.mem_cons.mp h with z | z
        · rw [← z] at e
          exact e rfl
        · exact g2 lo hi z
/-- the table grows by a new base -/
theorem tab_new {H : Hp} {kvs : List (Key × V)} {S : Sps3} (h : TabS H kvs S) {q : Int × Int × Int} (hq : ∀ r ∈ S, r.1 < q.1) : valV kvs (Sum.inl q.1 : Key) = none := valV_nokey fun kv hkv z => by
  obtain ⟨y, hy, hyk, _⟩ := paired_mem h kv hkv
  rw [hyk] at z
  have := Sum.inl.inj z
  have := hq y hy
  omega
end
end K75

set_option Elab.async false
set_option linter.all false
set_option maxRecDepth 100000
set_option maxHeartbeats 4000000
namespace K75
open PySem PySem.Spec PyProof.Rows L2 Bk Evl
section
variable {P : Program} {w : World} {K : PySem.W.Frag} {mg : Str → Option Value} {base : Heap}
/-- a key's elements as they lie -/
def KeyIn (K : PySem.W.Frag) (H : Hp) (t : Addr) (ps : List Addr) (L : Prs) : Prop := SqT K H t (ps.map V.ref) ∧ Paired (fun p (q : Int × Int) => SqT K H p [.int q.1, .int q.2]) ps L
theorem KeyIn.ext {H H' : Hp} {t : Addr} {ps : List Addr} {L : Prs} (h : KeyIn K H t ps L) (k : Ext H H') : KeyIn K H' t ps L := ⟨sqt_ext h.1 k, L2.Paired.mapP h.2 fun p q z => sqt_ext z k⟩
/-- what the table knows: a rest to a short key -/
structure Known (K : PySem.W.Frag) (H : Hp) (kvs : List (Key × V)) (m n : Nat) : Prop where
  nd : (kvs.map (fun kv => kv.1)).Nodup
  ok : ∀ kv ∈ kvs, ∃ (r : Nat) (t : Addr) (ps : List Addr) (L : Prs), kv.1 = Sum.inl (r : Int) ∧ r < m ∧ kv.2 = .ref t ∧ KeyIn K H t ps L ∧ L.length ≤ n ∧ ∀ q ∈ L, q.1.natAbs < 2 ^ 60 ∧ q.2.natAbs < 2 ^ 1000
theorem Known.len {H : Hp} {kvs : List (Key × V)} {m n : Nat} (h : Known K H kvs m n) : kvs.length ≤ m := by
  have h1 := List.Nodup.length_le_of_subset h.nd (l₂ := (List.range m).map fun r : Nat => (Sum.inl (r : Int) : Key)) fun x hx => by
    obtain ⟨kv, hkv, rfl⟩ := List.mem_map.mp hx
    obtain ⟨r, t, ps, L, h1, h2, _⟩ := h.ok kv hkv
    rw [h1]
    exact List.mem_map.mpr ⟨r, List.mem_range.mpr h2, rfl⟩
  rw [List.length_map, List.length_map, List.length_range] at h1
  exact h1
theorem Known.mono {H H' : Hp} {kvs : List (Key × V)} {m n n' : Nat} (h : Known K H kvs m n) (hn : n ≤ n') (k : ∀ x xs, SqT K H x xs → SqT K H' x xs) : Known K H' kvs m n' := ⟨h.nd, fun kv hkv => by
  obtain ⟨r, t, ps, L, h1, h2, h3, h4, h5, h6⟩ := h.ok kv hkv
  exact ⟨r, t, ps, L, h1, h2, h3, ⟨k _ _ h4.1, L2.Paired.mapP h4.2 fun p q z => k _ _ z⟩, by omega, h6⟩⟩
theorem sqt_upd {H : Hp} {p x : Addr} {o o' : HO} {xs : List V} (h : SqT K H x xs) (hp : H p = some o') (n : ∀ z, o' ≠ .tup z) (n2 : ∀ a z, o' ≠ .frz a z) : SqT K (upd H p o) x xs := by
  rcases h with (e | ⟨ob, e⟩) | h
  · exact .inl (.inl (by rw [upd_ne (ne_of e hp fun z => n _ z.symm)]; exact e))
  · exact .inl (.inr ⟨ob, by rw [upd_ne (ne_of e hp fun z => n2 _ _ z.symm)]; exact e⟩)
  · exact .inr h
/-- a new rest -/
theorem Known.put {H : Hp} {kvs : List (Key × V)} {m n : Nat} {g : Nat} {t : Addr} {ps : List Addr} {L : Prs} (h : Known K H kvs m n) (hg : g < m) (hn : valV kvs (Sum.inl (g : Int) : Key) = none) (hk : KeyIn K H t ps L) (hl : L.length ≤ n) (hb : ∀ q ∈ L, q.1.natAbs < 2 ^ 60 ∧ q.2.natAbs < 2 ^ 1000) : Known K H (kvs ++ [((Sum.inl (g : Int) : Key), V.ref t)]) m n := by
  refine ⟨?_, fun kv hkv => ?_⟩
  · rw [List.map_append, List.nodup_append]
    refine ⟨h.nd, by simp, fun a ha b hb z => ?_⟩
    simp at hb
    obtain ⟨kv, hkv, e⟩ := List.mem_map.mp ha
    have : valV kvs (Sum.inl (g : Int) : Key) ≠ none := by
      intro hn'
      clear hn
      have hz : kv.1 = (Sum.inl (g : Int) : Key) := by rw [e, z, hb]
      clear e z hb ha h
      induction kvs with
      | nil => cases hkv
      | cons kw kvs ih =>
        by_cases q : kw.1 = (Sum.inl (g : Int) : Key)
        · rw [valV_pos q] at hn'
          cases hn'
        · rw [valV_neg q] at hn'
          rcases List.mem_cons.mp hkv with y | y
          · exact q (y ▸ hz)
          · exact ih y hn'
    exact this hn
  · rcases List.mem_append.mp hkv with z | z
    · exact h.ok kv z
    · rw [List.mem_singleton.mp z]
      exact ⟨g, t, ps, L, rfl, hg, rfl, hk, hl, hb⟩
theorem known_get {H : Hp} {kvs : List (Key × V)} {m n : Nat} (h : Known K H kvs m n) {k : Key} {v : V} (hv : valV kvs k = some v) : ∃ (t : Addr) (ps : List Addr) (L : Prs), v = .ref t ∧ KeyIn K H t ps L ∧ L.length ≤ n ∧ ∀ q ∈ L, q.1.natAbs < 2 ^ 60 ∧ q.2.natAbs < 2 ^ 1000 := by
  have hm : ∃ kv ∈ kvs, kv.2 = v := by
    clear h
    induction kvs with
    | nil => cases hv
    | cons kw kvs ih =>
      by_cases q : kw.1 = k
      · rw [valV_pos q] at hv
        exact ⟨kw, List.mem_cons_self, Option.some.inj hv⟩
      · rw [valV_neg q] at hv
        obtain ⟨kv, h1, h2⟩ := ih hv
        exact ⟨kv, List.mem_cons_of_mem _ h1, h2⟩
  obtain ⟨kv, h1, h2⟩ := hm
  obtain ⟨r, t, ps, L, _, _, h3, h4, h5, h6⟩ := h.ok kv h1
  exact ⟨t, ps, L, h2.symm.trans h3, h4, h5, h6⟩
end
end K75

set_option Elab.async false
set_option linter.all false
set_option maxRecDepth 100000
set_option maxHeartbeats 4000000
namespace K75
open PySem PySem.Spec PyProof.Rows L2 Bk Evl
/-! ### numerals and the texts of numbers, plainly -/
theorem numL_head : ∀ n : Nat, 1 ≤ n → ∃ d r, TL.numL n = d :: r ∧ d ≠ 48 ∧ 49 ≤ d ∧ d ≤ 57 := by
  intro n
  induction n using Nat.strongRecOn with
  | _ n ih =>
    intro h
    by_cases h10 : n < 10
    · exact ⟨48 + n, [], TL.numL_lt h10, by omega, by omega, by omega⟩
    · obtain ⟨d, r, h1, h2⟩ := ih (n / 10) (by omega) (by omega)
      exact ⟨d, r ++ [48 + n % 10], by rw [TL.numL_step (by omega), h1]; rfl, h2⟩
theorem numL_dig {n c : Nat} (h : c ∈ TL.numL n) : 48 ≤ c ∧ c ≤ 57 := TL.numL_digits n c h
theorem numL_int {n : Nat} (hl : (TL.numL n).length ≤ 4300) : PySem.intText? (SX.S (TL.numL n)) = some (n : Int) := by
  have h := SX.int_S (a := TL.numL n) (List.all_eq_true.mpr fun c hc => by
    obtain ⟨h1, h2⟩ := numL_dig hc
    rw [Bool.and_eq_true, decide_eq_true_eq, decide_eq_true_eq]
    exact ⟨h1, h2⟩) (TL.numL_ne n) hl
  rw [TL.numL_val] at h
  exact h
theorem tw_all {p : Nat → Bool} : ∀ l : List Nat, (∀ c ∈ l, p c = true) → l.takeWhile p = l
  | [], _ => rfl
  | c :: l, h => by rw [List.takeWhile_cons, if_pos (h c List.mem_cons_self), tw_all l fun x hx => h x (List.mem_cons_of_mem _ hx)]
/-- all of it is stripped -/
theorem strip_all {a b : List Nat} (ha : a ≠ []) (h : ∀ c ∈ a, c ∈ b) : Txt.stripChars (SX.S a) (SX.S b) = SX.S [] := by
  have hc : ∀ c ∈ a, (SX.S b).cps.contains c = true := fun c hc => by
    rw [Array.contains_iff_mem]
    exact List.mem_toArray.mpr (h c hc)
  have e1 : (SX.S a).cps.toList.takeWhile (SX.S b).cps.contains = a := tw_all a hc
  have e0 : stripLo (SX.S b).cps.contains true (SX.S a) = a.length := by
    unfold stripLo
    rw [if_pos rfl, e1]
  have e3 : stripHi (SX.S b).cps.contains true (SX.S a) a.length = a.length := by
    unfold stripHi
    rw [if_pos rfl]
    show (SX.S a).length - ((a.drop a.length).reverse.takeWhile _).length = _
    rw [List.drop_length, SX.S_len]
    rfl
  unfold Txt.stripChars Txt.stripBy stripSame stripped
  rw [e0, e3, if_neg]
  · refine TL.ext_tl ?_
    rw [TL.tl_strSub]
    show (a.drop a.length).take _ = []
    rw [List.drop_length, List.take_nil]
  · intro z
    rw [Bool.and_eq_true, beq_iff_eq] at z
    exact ha (List.eq_nil_of_length_eq_zero z.1)
theorem figs_S : ("0123456789" : Str) = SX.S [48, 49, 50, 51, 52, 53, 54, 55, 56, 57] := by decide +kernel
theorem empty_S : ("" : Str) = SX.S [] := by decide +kernel
theorem strip_num (n : Nat) : Txt.stripChars (SX.S (TL.numL n)) ("0123456789" : Str) = ("" : Str) := by
  rw [figs_S, empty_S]
  refine strip_all (TL.numL_ne n) fun c hc => ?_
  obtain ⟨h1, h2⟩ := numL_dig hc
  simp only [List.mem_cons, List.not_mem_nil, or_false]
  omega
theorem num_nonempty (n : Nat) : SX.S (TL.numL n) ≠ ("" : Str) := by
  rw [empty_S]
  exact fun z => TL.numL_ne n (SX.S_inj z)
/-- the word of a prime and its exponent -/
def wordQ (q : Int × Int) : List Nat := if 1 < q.2 then TL.numL q.1.toNat ++ 94 :: TL.numL q.2.toNat else TL.numL q.1.toNat
def numT (l : Prs) : Str := if l = [] then ("1" : Str) else SX.S (TL.joinL [42] (l.map wordQ))
theorem star_S : ("*" : Str) = SX.S [42] := by decide +kernel
theorem hat_S : ("^" : Str) = SX.S [94] := by decide +kernel
theorem one_S : ("1" : Str) = SX.S [49] := by decide +kernel
theorem word_free (q : Int × Int) : 42 ∉ wordQ q := by
  unfold wordQ
  split
  · rw [List.mem_append, List.mem_cons]
    rintro (h | h | h)
    · have := numL_dig h; omega
    · omega
    · have := numL_dig h; omega
  · intro h
    have := numL_dig h
    omega
theorem num_split {l : Prs} (h : l ≠ []) : Txt.split (numT l) ("*" : Str) = (l.map wordQ).map SX.S := by
  unfold numT
  rw [if_neg h, star_S, SX.split_S (by simp) (by decide), SX.spl_join (by simpa using h) (fun p hp => by
    obtain ⟨q, _, rfl⟩ := List.mem_map.mp hp
    exact word_free q)]
theorem word_split1 {q : Int × Int} (h : 1 < q.2) : Txt.split (SX.S (wordQ q)) ("^" : Str) = [SX.S (TL.numL q.1.toNat), SX.S (TL.numL q.2.toNat)] := by
  unfold wordQ
  rw [if_pos h, hat_S, SX.split_S (by simp) (by decide)]
  have e : TL.numL q.1.toNat ++ 94 :: TL.numL q.2.toNat = TL.joinL [94] [TL.numL q.1.toNat, TL.numL q.2.toNat] := by simp [TL.joinL]
  rw [e, SX.spl_join (by simp) (fun p hp => by
    simp only [List.mem_cons, List.not_mem_nil, or_false] at hp
    rcases hp with rfl | rfl <;> exact fun z => by have := numL_dig z; omega)]
  rfl
theorem word_split0 {q : Int × Int} (h : ¬ 1 < q.2) : Txt.split (SX.S (wordQ q)) ("^" : Str) = [SX.S (TL.numL q.1.toNat)] := by
  unfold wordQ
  rw [if_neg h, hat_S, SX.split_S (by simp) (by decide)]
  have e : TL.numL q.1.toNat = TL.joinL [94] [TL.numL q.1.toNat] := by simp [TL.joinL]
  rw [e, SX.spl_join (by simp) (fun p hp => by
    simp only [List.mem_cons, List.not_mem_nil, or_false] at hp
    rcases hp with rfl
    exact fun z => by have := numL_dig z; omega)]
  simp [TL.joinL]
theorem facOne_bd {q : Int × Int} (h : FacOne q) : (∃ p e : Nat, q = ((p : Int), (e : Int)) ∧ 2 ≤ p ∧ p < 10 ^ 7 ∧ 1 ≤ e ∧ e < 10 ^ 31) := by
  obtain ⟨p, h1, h2, h3, _, h4, h5⟩ := h
  obtain ⟨q1, q2⟩ := q
  dsimp only at h1 h4 h5
  exact ⟨p, q2.toNat, by rw [h1, Int.toNat_of_nonneg (by omega)], h2, by omega, by omega, by
    have : (10 : Int) ^ 30 = ((10 ^ 30 : Nat) : Int) := by decide
    have : (10 : Nat) ^ 31 = 10 * 10 ^ 30 := by decide
    omega⟩
theorem word_lenQ {q : Int × Int} (h : FacOne q) : (wordQ q).length ≤ 39 := by
  obtain ⟨p, e, rfl, h1, h2, h3, h4⟩ := facOne_bd h
  have l1 := TL.numL_len (n := p) (k := 7) (by decide) h2
  have l2 := TL.numL_len (n := e) (k := 31) (by decide) h4
  unfold wordQ
  split
  · rw [List.length_append, List.length_cons]
    show (TL.numL p).length + ((TL.numL e).length + 1) ≤ 39
    omega
  · show (TL.numL p).length ≤ 39
    omega
theorem join_len {c k : Nat} : ∀ {ws : List (List Nat)}, (∀ x ∈ ws, x.length ≤ k) → (TL.joinL [c] ws).length ≤ ws.length * (k + 1)
  | [], _ => by simp [TL.joinL]
  | [a], h => by
    have := h a List.mem_cons_self
    simp [TL.joinL]
    omega
  | a :: b :: ws, h => by
    have h1 := h a List.mem_cons_self
    have h2 := join_len (c := c) (k := k) (ws := b :: ws) fun x hx => h x (List.mem_cons_of_mem _ hx)
    have e : TL.joinL [c] (a :: b :: ws) = a ++ ([c] ++ TL.joinL [c] (b :: ws)) := by simp [TL.joinL]
    rw [e, List.length_append, List.length_append, List.length_singleton]
    rw [List.length_cons, Nat.add_mul]
    omega
theorem numT_len {l : Prs} (h : FacOk l) : (numT l).length ≤ 600 := by
  unfold numT
  split
  · decide +kernel
  · rw [SX.S_len]
    refine Nat.le_trans (join_len (k := 39) fun x hx => ?_) ?_
    · obtain ⟨q, hq, rfl⟩ := List.mem_map.mp hx
      exact word_lenQ (h.one q hq)
    · rw [List.length_map]
      have := h.len
      omega
/-- only the number 1 has the text 1 -/
theorem numT_one {l : Prs} (h : FacOk l) (hn : l ≠ []) : numT l ≠ ("1" : Str) := by
  intro z
  have hs := num_split hn
  rw [z, one_S] at hs
  have e1 : Txt.split (SX.S [49]) ("*" : Str) = [SX.S [49]] := by
    rw [star_S, SX.split_S (by simp) (by decide)]
    rfl
  rw [e1] at hs
  cases l with
  | nil => exact hn rfl
  | cons q l =>
    rw [List.map_cons, List.map_cons] at hs
    injection hs with hs _
    have hs := SX.S_inj hs
    obtain ⟨p, e, rfl, h1, h2, h3, h4⟩ := facOne_bd (h.one q List.mem_cons_self)
    unfold wordQ at hs
    have n1 : TL.numL 1 = [49] := by decide +kernel
    split at hs
    · have hl : 1 = (TL.numL p).length + ((TL.numL e).length + 1) := by
        have := congrArg List.length hs
        rw [List.length_append, List.length_cons] at this
        exact this
      have l1 := List.length_pos_iff.mpr (TL.numL_ne p)
      omega
    · have : p = 1 := TL.numL_inj (show TL.numL p = TL.numL 1 by rw [n1]; exact hs.symm)
      omega
end K75

set_option Elab.async false
set_option linter.all false
set_option maxRecDepth 100000
set_option maxHeartbeats 4000000
namespace K75
open PySem PySem.Spec PyProof.Rows L2 Bk Evl
/-! ### the primes of the core have no divisor in common with the modulus -/
theorem div7 : ∀ p : Fin 49, 12 < p.val → p.val % 2 ≠ 0 → p.val % 3 ≠ 0 → p.val % 5 ≠ 0 → p.val % 7 ≠ 0 := by decide +kernel
theorem div11 : ∀ p : Fin 121, 12 < p.val → p.val % 2 ≠ 0 → p.val % 3 ≠ 0 → p.val % 5 ≠ 0 → p.val % 7 ≠ 0 → p.val % 11 ≠ 0 := by decide +kernel
theorem prime_big {p : Nat} (hp : primeB p = true) (h : 12 < p) : p % 2 ≠ 0 ∧ p % 3 ≠ 0 ∧ p % 5 ≠ 0 ∧ p % 7 ≠ 0 ∧ p % 11 ≠ 0 := by
  unfold primeB at hp
  rw [if_neg (by omega)] at hp
  by_cases h2 : p % 2 = 0
  · rw [if_pos h2] at hp
    cases hp
  rw [if_neg h2] at hp
  have go : ∀ f k, primeGo p (f + 1) k = true → k * k ≤ p → p % k ≠ 0 ∧ primeGo p f (k + 2) = true := fun f k h hk => by
    unfold primeGo at h
    rw [if_pos hk] at h
    by_cases e : p % k = 0
    · rw [if_pos e] at h
      cases h
    · rw [if_neg e] at h
      exact ⟨e, h⟩
  obtain ⟨h3, g5⟩ := go 499 3 hp (by omega)
  have h5 : p % 5 ≠ 0 := by
    by_cases z : 25 ≤ p
    · exact (go 498 5 g5 z).1
    · omega
  have h7 : p % 7 ≠ 0 := by
    by_cases z : 49 ≤ p
    · exact (go 497 7 (go 498 5 g5 (by omega)).2 z).1
    · exact div7 ⟨p, by omega⟩ h h2 h3 h5
  have h11 : p % 11 ≠ 0 := by
    by_cases z : 121 ≤ p
    · exact (go 495 11 (go 496 9 (go 497 7 (go 498 5 g5 (by omega)).2 (by omega)).2 (by omega)).2 z).1
    · exact div11 ⟨p, by omega⟩ h h2 h3 h5 h7
  exact ⟨h2, h3, h5, h7, h11⟩
theorem cop_big {p m : Nat} (hp : primeB p = true) (h : 12 < p) (m1 : 1 ≤ m) (m2 : m ≤ 12) : Nat.gcd p m = 1 := by
  obtain ⟨h2, h3, h5, h7, h11⟩ := prime_big hp h
  have d1 := Nat.gcd_dvd_left p m
  have d2 := Nat.gcd_dvd_right p m
  have g1 : Nat.gcd p m ≤ 12 := Nat.le_trans (Nat.le_of_dvd m1 d2) m2
  have g0 : 0 < Nat.gcd p m := Nat.gcd_pos_of_pos_right _ m1
  have e := Nat.mod_eq_zero_of_dvd d1
  generalize Nat.gcd p m = g at *
  have : g = 1 ∨ g = 2 ∨ g = 3 ∨ g = 4 ∨ g = 5 ∨ g = 6 ∨ g = 7 ∨ g = 8 ∨ g = 9 ∨ g = 10 ∨ g = 11 ∨ g = 12 := by omega
  rcases this with rfl | rfl | rfl | rfl | rfl | rfl | rfl | rfl | rfl | rfl | rfl | rfl <;> omega
theorem cop_small : ∀ p m : Fin 13, primeB p.val = true → 1 ≤ m.val → m.val % p.val ≠ 0 → Nat.gcd p.val m.val = 1 := by decide +kernel
theorem cop_two : ∀ p q : Fin 13, primeB p.val = true → primeB q.val = true → p.val ≠ q.val → Nat.gcd p.val q.val = 1 := by decide +kernel
/-- a prime to 12 and another prime -/
theorem cop_primes {p q : Nat} (hp : primeB p = true) (hq : primeB q = true) (h1 : 1 ≤ p) (h2 : p ≤ 12) (hne : p ≠ q) : Nat.gcd p q = 1 := by
  by_cases z : q ≤ 12
  · exact cop_two ⟨p, by omega⟩ ⟨q, by omega⟩ hp hq hne
  · rw [Nat.gcd_comm]
    exact cop_big hq (by omega) h1 h2
theorem takeUp_full : ∀ (f v p : Nat) (e : Int), 1 ≤ v → v < 2 ^ f → 2 ≤ p → 0 ≤ e → (takeUp f v p e).1 % p = 0 → ((takeUp f v p e).2 : Int) = e
  | 0, v, p, e, h1, h2, _, _, _ => by simp at h2; omega
  | f + 1, v, p, e, h1, h2, hp, he, h => by
    by_cases c : 0 < e ∧ v % p = 0
    · rw [takeUp_step _ _ _ _ c] at h ⊢
      dsimp only at h ⊢
      have hv : p * (v / p) = v := by
        have := Nat.div_add_mod v p
        omega
      have h3 : 1 ≤ v / p := by
        rcases Nat.eq_zero_or_pos (v / p) with z | z
        · rw [z] at hv; omega
        · exact z
      have h4 : v / p < 2 ^ f := by
        have : 2 * (v / p) ≤ p * (v / p) := Nat.mul_le_mul_right _ hp
        rw [Nat.pow_succ] at h2
        omega
      have := takeUp_full f (v / p) p (e - 1) h3 h4 hp (by omega) h
      omega
    · rw [takeUp_stop _ _ _ _ c] at h ⊢
      dsimp only at h ⊢
      have : ¬ 0 < e := fun z => c ⟨z, h⟩
      omega
theorem takeOut_mul : ∀ (f s p : Nat), (takeOut f s p).1 * p ^ (takeOut f s p).2 = s
  | 0, s, p => by show s * p ^ 0 = s; rw [Nat.pow_zero, Nat.mul_one]
  | f + 1, s, p => by
    unfold takeOut
    by_cases h : s % p = 0
    · rw [if_pos h]
      dsimp only
      rw [Nat.pow_succ, ← Nat.mul_assoc, takeOut_mul f (s / p) p]
      have := Nat.div_add_mod s p
      rw [h, Nat.add_zero, Nat.mul_comm] at this
      exact this
    · rw [if_neg h]
      show s * p ^ 0 = s
      rw [Nat.pow_zero, Nat.mul_one]
theorem takeOut_ge : ∀ (f s p k : Nat), 1 ≤ s → s < 2 ^ f → 2 ≤ p → p ^ k ∣ s → k ≤ (takeOut f s p).2
  | _, _, _, 0, _, _, _, _ => Nat.zero_le _
  | 0, s, p, k + 1, h1, h2, _, _ => by simp at h2; omega
  | f + 1, s, p, k + 1, h1, h2, hp, hd => by
    have hm : s % p = 0 := Nat.mod_eq_zero_of_dvd (Nat.dvd_trans ⟨p ^ k, by rw [Nat.pow_succ, Nat.mul_comm]⟩ hd)
    unfold takeOut
    rw [if_pos hm]
    dsimp only
    have hv : p * (s / p) = s := by
      have := Nat.div_add_mod s p
      omega
    have h3 : 1 ≤ s / p := by
      rcases Nat.eq_zero_or_pos (s / p) with z | z
      · rw [z] at hv; omega
      · exact z
    have h4 : s / p < 2 ^ f := by
      have : 2 * (s / p) ≤ p * (s / p) := Nat.mul_le_mul_right _ hp
      rw [Nat.pow_succ] at h2
      omega
    have h5 : p ^ k ∣ s / p := by
      obtain ⟨c, hc⟩ := hd
      refine ⟨c, ?_⟩
      have : p * (s / p) = p * (p ^ k * c) := by rw [hv, hc, Nat.pow_succ]; ac_rfl
      exact Nat.eq_of_mul_eq_mul_left (by omega) this
    have := takeOut_ge f (s / p) p k h3 h4 hp h5
    omega
theorem shGo_dvd : ∀ (l : Prs) (s : Nat × Nat), (l.foldl shStep s).1 ∣ s.1 ∧ s.2 ∣ (l.foldl shStep s).2
  | [], s => ⟨Nat.dvd_refl _, Nat.dvd_refl _⟩
  | q :: l, s => by
    obtain ⟨h1, h2⟩ := shGo_dvd l (shStep s q)
    refine ⟨Nat.dvd_trans h1 ?_, Nat.dvd_trans ?_ h2⟩
    · unfold shStep
      exact ⟨_, (takeUp_mul 20 s.1 q.1.toNat q.2).symm⟩
    · unfold shStep
      exact ⟨_, rfl⟩
theorem modF_eq {l : Prs} {a : Nat} (a1 : 1 ≤ a) : modF l a = (shF l a).1 := by
  unfold modF
  have h := shF_mul l a
  obtain ⟨_, _, f1, _⟩ := mul_le2 h a1
  have : a / (shF l a).2 = ((shF l a).1 * (shF l a).2) / (shF l a).2 := by rw [h]
  rw [this, Nat.mul_div_cancel _ f1]
theorem coreStep_none {s : Prs × Nat} {q : Int × Int} (h : ¬ 0 < q.2 - ((takeOut 20 s.2 q.1.toNat).2 : Int)) : (coreStep s q).1 = s.1 := by
  unfold coreStep
  exact if_neg h
theorem coreGo_keep {p e : Nat} : ∀ (l : Prs) (s : Prs × Nat), (∀ q ∈ l, Nat.gcd p q.1.toNat = 1) → p ^ e ∣ s.2 → p ^ e ∣ (l.foldl coreStep s).2
  | [], s, _, h => h
  | q :: l, s, hc, h => by
    refine coreGo_keep l (coreStep s q) (fun r hr => hc r (List.mem_cons_of_mem _ hr)) ?_
    have hq := hc q List.mem_cons_self
    have hm := takeOut_mul 20 s.2 q.1.toNat
    rw [← hm] at h
    show p ^ e ∣ (takeOut 20 s.2 q.1.toNat).1
    exact Nat.Coprime.dvd_of_dvd_mul_right (Nat.Coprime.pow _ _ hq) h
theorem coreGo_pos2 : ∀ (l : Prs) (s : Prs × Nat), 1 ≤ s.2 → 1 ≤ (l.foldl coreStep s).2 ∧ (l.foldl coreStep s).2 ∣ s.2
  | [], s, h => ⟨h, Nat.dvd_refl _⟩
  | q :: l, s, h => by
    have hm := takeOut_mul 20 s.2 q.1.toNat
    obtain ⟨h1, h2⟩ := coreGo_pos2 l (coreStep s q) (mul_le2 hm h).1
    exact ⟨h1, Nat.dvd_trans h2 ⟨_, hm.symm⟩⟩
theorem core_cop {l : Prs} {a : Nat} (fo : FacOk l) (a1 : 1 ≤ a) (a2 : a ≤ 12) : ∀ q ∈ clF l a, ∃ p : Nat, q.1 = (p : Int) ∧ 2 ≤ p ∧ p ≤ 1000000 ∧ Nat.gcd p (modF l a) = 1 := by
  intro q hq
  have hsm := shF_mul l a
  obtain ⟨v1, v2, f1, f2⟩ := mul_le2 hsm a1
  rw [modF_eq a1]
  have hk : q.1 ∈ l.map (·.1) := (coreF_sub l (shF l a).2).subset (List.mem_map.mpr ⟨q, hq, rfl⟩)
  obtain ⟨r, hr, hrq⟩ := List.mem_map.mp hk
  obtain ⟨p, e1, p2, pM, pp, ex1, _⟩ := fo.one r hr
  refine ⟨p, by rw [← hrq]; exact e1, p2, pM, ?_⟩
  by_cases big : 12 < p
  · exact cop_big pp big v1 (by omega)
  refine cop_small ⟨p, by omega⟩ ⟨(shF l a).1, by omega⟩ pp v1 fun hz => ?_
  dsimp only at hz
  obtain ⟨l1, l2, hl⟩ := List.append_of_mem hr
  have hkeys := (List.pairwise_map.mpr (fo.asc.imp fun {x y} h => (by omega : x.1 ≠ y.1)) : (l.map (·.1)).Pairwise (· ≠ ·))
  rw [hl, List.map_append, List.map_cons, List.pairwise_append, List.pairwise_cons] at hkeys
  obtain ⟨_, ⟨k2, _⟩, k1⟩ := hkeys
  -- all of p was taken
  have hsh : shF l a = (l2.foldl shStep (shStep (shF l1 a) r)) := by unfold shF; rw [hl, List.foldl_append]; rfl
  obtain ⟨d1, d2⟩ := shGo_dvd l2 (shStep (shF l1 a) r)
  rw [← hsh] at d1 d2
  have s1 := shF_mul l1 a
  obtain ⟨w1, w2, _, _⟩ := mul_le2 s1 a1
  have er : r.1.toNat = p := by rw [e1]; rfl
  have full : ((takeUp 20 (shF l1 a).1 p r.2).2 : Int) = r.2 := by
    refine takeUp_full 20 (shF l1 a).1 p r.2 w1 (lt20 (by omega)) p2 (by omega) ?_
    refine Nat.mod_eq_zero_of_dvd (Nat.dvd_trans (Nat.dvd_of_mod_eq_zero hz) ?_)
    have : (shStep (shF l1 a) r).1 = (takeUp 20 (shF l1 a).1 p r.2).1 := by unfold shStep; rw [er]
    rw [← this]
    exact d1
  have hpd : p ^ r.2.toNat ∣ (shF l a).2 := by
    refine Nat.dvd_trans ?_ d2
    unfold shStep
    dsimp only
    rw [er, show r.2.toNat = (takeUp 20 (shF l1 a).1 p r.2).2 by omega]
    exact ⟨_, Nat.mul_comm _ _⟩
  -- so the core has none of it
  have hcop1 : ∀ q' ∈ l1, Nat.gcd p q'.1.toNat = 1 := fun q' hq' => by
    obtain ⟨p', e', _, _, pp', _, _⟩ := fo.one q' (by rw [hl]; exact List.mem_append_left _ hq')
    rw [e']
    refine cop_primes pp pp' (by omega) (by omega) fun z => ?_
    have := k1 q'.1 (List.mem_map.mpr ⟨q', hq', rfl⟩) r.1 List.mem_cons_self
    rw [e', e1, z] at this
    exact this rfl
  have hc1 := coreGo_keep (e := r.2.toNat) l1 ([], (shF l a).2) hcop1 hpd
  obtain ⟨c1p, c1d⟩ := coreGo_pos2 l1 ([], (shF l a).2) f1
  have c1le : (l1.foldl coreStep ([], (shF l a).2)).2 ≤ 12 := Nat.le_trans (Nat.le_of_dvd f1 c1d) (by omega)
  have hge := takeOut_ge 20 (l1.foldl coreStep ([], (shF l a).2)).2 p r.2.toNat c1p (lt20 (by omega)) p2 hc1
  have hcore : clF l a = (l2.foldl coreStep (coreStep (l1.foldl coreStep ([], (shF l a).2)) r)).1 := by
    have : ∀ s, (coreF l s).1 = (l2.foldl coreStep (coreStep (l1.foldl coreStep ([], s)) r)).1 := fun s => by
      unfold coreF
      rw [hl, List.foldl_append]
      rfl
    exact this _
  have hstep : (coreStep (l1.foldl coreStep ([], (shF l a).2)) r).1 = (l1.foldl coreStep ([], (shF l a).2)).1 := by
    refine coreStep_none ?_
    rw [er]
    omega
  rw [hcore] at hq
  have hin := (coreGo_sub l2 (coreStep (l1.foldl coreStep ([], (shF l a).2)) r)).subset (List.mem_map.mpr ⟨q, hq, rfl⟩)
  rw [hstep] at hin
  rcases List.mem_append.mp hin with z | z
  · have z := (coreGo_sub l1 ([], (shF l a).2)).subset z
    rcases List.mem_append.mp z with y | y
    · cases y
    · exact k1 _ y r.1 List.mem_cons_self hrq.symm
  · exact k2 _ z hrq
/-! ### spans of a core -/
theorem asc_extZ : ∀ {L M : List Int}, L.Pairwise (· < ·) → M.Pairwise (· < ·) → (∀ x, x ∈ L ↔ x ∈ M) → L = M
  | [], [], _, _, _ => rfl
  | [], y :: M, _, _, h => absurd ((h y).mpr List.mem_cons_self) (by simp)
  | x :: L, [], _, _, h => absurd ((h x).mp List.mem_cons_self) (by simp)
  | x :: L, y :: M, h1, h2, h => by
    rw [List.pairwise_cons] at h1 h2
    have e : x = y := by
      rcases List.mem_cons.mp ((h x).mp List.mem_cons_self) with z | z
      · exact z
      · rcases List.mem_cons.mp ((h y).mpr List.mem_cons_self) with w | w
        · exact w.symm
        · have := h1.1 y w
          have := h2.1 x z
          omega
    subst e
    rw [asc_extZ h1.2 h2.2 fun z => ⟨fun hz => ?_, fun hz => ?_⟩]
    · rcases List.mem_cons.mp ((h z).mp (List.mem_cons_of_mem _ hz)) with w | w
      · have := h1.1 z hz
        omega
      · exact w
    · rcases List.mem_cons.mp ((h z).mpr (List.mem_cons_of_mem _ hz)) with w | w
      · have := h2.1 z hz
        omega
      · exact w
theorem SpansOf.map {cl : Prs} {b c : Nat} {L : Trs} (h : SpansOf cl b c L) : L = (L.map (·.1)).map (spanOf cl b c) := by
  rw [List.map_map]
  refine (List.map_id' L).symm.trans (List.map_congr_left fun q hq => ?_)
  obtain ⟨e1, e2⟩ := h.ends q hq
  exact Prod.ext rfl (Prod.ext e1 e2)
theorem SpansOf.eq {cl : Prs} {b c : Nat} {L M : Trs} (h : SpansOf cl b c L) (g : SpansOf cl b c M) : L = M := by
  rw [h.map, g.map, asc_extZ (List.pairwise_map.mpr h.asc) (List.pairwise_map.mpr g.asc) fun x => by rw [h.keys, g.keys]]
theorem fac_copM : ∀ b m : Fin 13, Nat.gcd b.val m.val = 1 → ∀ p ∈ (facN b.val).map (·.1), Nat.gcd p m.val = 1 ∧ 2 ≤ p := by decide +kernel
theorem facN_keyI {b : Nat} {x : Int} (h : x ∈ (toI (facN b)).map (·.1)) : ∃ p ∈ (facN b).map (·.1), x = ((p : Nat) : Int) := by
  unfold toI at h
  rw [List.map_map] at h
  obtain ⟨q, hq, rfl⟩ := List.mem_map.mp h
  exact ⟨q.1, List.mem_map.mpr ⟨q, hq, rfl⟩, rfl⟩
theorem facN_lt13 : ∀ b : Fin 13, ∀ p ∈ (facN b.val).map (·.1), p < 13 := by decide +kernel
theorem getI_nn : ∀ {L : Prs} (x : Int), (∀ e ∈ L, 0 ≤ e.2) → 0 ≤ getI L x
  | [], x, _ => Int.le_refl 0
  | e :: L, x, h => by
    rw [getI_cons]
    split
    · exact h e List.mem_cons_self
    · exact getI_nn x fun e' he' => h e' (List.mem_cons_of_mem _ he')
theorem facI_nn (b : Nat) : ∀ e ∈ toI (facN b), 0 ≤ e.2 := fun e he => by
  obtain ⟨y, _, rfl⟩ := List.mem_map.mp he
  exact Int.natCast_nonneg _
theorem coreStep_pos' {s : Prs × Nat} {q : Int × Int} (h : ∀ e ∈ s.1, 0 < e.2) : ∀ e ∈ (coreStep s q).1, 0 < e.2 := by
  unfold coreStep
  dsimp only
  split
  · intro e he
    rcases List.mem_append.mp he with z | z
    · exact h e z
    · rw [List.mem_singleton.mp z]
      assumption
  · exact h
theorem coreGo_pos' : ∀ (l : Prs) {s : Prs × Nat}, (∀ e ∈ s.1, 0 < e.2) → ∀ e ∈ (l.foldl coreStep s).1, 0 < e.2
  | [], _, h => h
  | q :: l, _, h => coreGo_pos' l (coreStep_pos' h)
theorem clF_pos (l : Prs) (a : Nat) : ∀ e ∈ clF l a, 0 < e.2 := coreGo_pos' l (fun e he => by cases he)
/-- the spans of a core are fit for rows and steps -/
structure CoreSp (m : Nat) (L : Trs) : Prop where
  ok : StepsOk m L
  keys : KeysU L
  pos : ∀ q ∈ L, 0 < q.1 ∧ q.1.natAbs < 2 ^ 60
theorem core_spans {l : Prs} {a b c : Nat} {L : Trs} (fo : FacOk l) (ok : okRule a b c) (h : SpansOf (clF l a) b c L) : CoreSp (modF l a) L := by
  obtain ⟨⟨a1, a2⟩, hb, hc⟩ := id ok
  obtain ⟨b1, b2, b3⟩ := shareB_bd hb
  obtain ⟨c1, c2, c3⟩ := shareB_bd hc
  have hm : modF l a ∣ a := by
    rw [modF_eq (by omega)]
    exact ⟨_, (shF_mul l a).symm⟩
  have m2 : modF l a ≤ 12 := Nat.le_trans (Nat.le_of_dvd (by omega) hm) a2
  have cop : ∀ {z : Nat}, z ≤ 12 → Nat.gcd z a = 1 → ∀ p ∈ (facN z).map (·.1), Nat.gcd p (modF l a) = 1 ∧ 2 ≤ p := fun {z} hz hg => fac_copM ⟨z, by omega⟩ ⟨modF l a, by omega⟩ (Nat.Coprime.coprime_dvd_right hm hg)
  have base : ∀ q ∈ L, ∃ p : Nat, q.1 = (p : Int) ∧ 2 ≤ p ∧ p ≤ 1000000 ∧ Nat.gcd p (modF l a) = 1 := fun q hq => by
    rcases (h.keys q.1).mp (List.mem_map.mpr ⟨q, hq, rfl⟩) with z | z | z
    · obtain ⟨r, hr, e⟩ := List.mem_map.mp z
      rw [← e]
      exact core_cop fo (by omega) a2 r hr
    · obtain ⟨p, hp, e⟩ := facN_keyI z
      have := facN_lt13 ⟨b, by omega⟩ p hp
      exact ⟨p, e, (cop b2 b3 p hp).2, by omega, (cop b2 b3 p hp).1⟩
    · obtain ⟨p, hp, e⟩ := facN_keyI z
      have := facN_lt13 ⟨c, by omega⟩ p hp
      exact ⟨p, e, (cop c2 c3 p hp).2, by omega, (cop c2 c3 p hp).1⟩
  have len : L.length ≤ 18 := by
    have hn : (L.map (·.1)).Nodup := List.pairwise_map.mpr (h.asc.imp fun {x y} z => by omega)
    have hs := List.Nodup.length_le_of_subset hn (l₂ := (clF l a).map (·.1) ++ ((toI (facN b)).map (·.1) ++ (toI (facN c)).map (·.1))) fun x hx => by
      rw [List.mem_append, List.mem_append]
      exact (h.keys x).mp hx
    rw [List.length_map, List.length_append, List.length_append, List.length_map, List.length_map, List.length_map] at hs
    have h1 : (clF l a).length ≤ 12 := Nat.le_trans (coreF_len l _) fo.len
    have h2 := facN_len3 b2
    have h3 := facN_len3 c2
    omega
  refine ⟨⟨by omega, fun q hq => ?_⟩, h.asc, fun q hq => ?_⟩
  · obtain ⟨p, e, _, _, g⟩ := base q hq
    obtain ⟨e1, e2⟩ := h.ends q hq
    have n1 := getI_nn (L := clF l a) q.1 fun e he => Int.le_of_lt (clF_pos l a e he)
    have n2 := getI_nn q.1 (facI_nn b)
    have n3 := getI_nn q.1 (facI_nn c)
    exact ⟨p, e, g, by omega, by omega⟩
  · obtain ⟨p, e, h2, h6, _⟩ := base q hq
    refine ⟨by omega, ?_⟩
    rw [e, Int.natAbs_natCast]
    exact Nat.lt_of_le_of_lt h6 (by decide)
end K75

set_option Elab.async false
set_option linter.all false
set_option maxRecDepth 100000
set_option maxHeartbeats 4000000
namespace K75
open PySem PySem.Spec PyProof.Rows L2 Bk Evl
section
variable {P : Program} {w : World} {K : PySem.W.Frag} {mg : Str → Option Value} {base : Heap}
/-! ### decimal, of a numeral -/
def spDecimalN : Sp := fun vs H Q _ => ∃ k f : Nat, vs = [.str (SX.S (TL.numL k)), .int f] ∧ (1 ≤ k ∧ k < 10 ^ f) ∧ (1 ≤ f ∧ f ≤ 40) ∧ Q (.int (k : Nat)) H
theorem sc_decimalN : FnScope ["text", "figures"] ["text", "figures"] (defScope s_decimal) := ⟨rfl, rfl, rfl, by decide +kernel, rfl, by decide +kernel, by decide +kernel⟩
theorem ok_decimalN (T : Txt K mg) : Ok P w K mg base 1 (He.ga K "decimal") ["text", "figures"] spDecimalN := by
  obtain ⟨t_FIGURES, m_FIGURES⟩ := T.t_FIGURES
  refine fd_ok T.f_decimal sc_decimalN (fun vs H Q E h => ?_) (fun _ _ _ _ _ _ us hl => match us, hl with | [_, _], _ => rfl) (fun cdv A outer s H vs Q E hr h => ?_)
  · obtain ⟨k, f, rfl, _⟩ := h
    rfl
  · obtain ⟨k, f, rfl, ⟨k1, k2⟩, ⟨f1, f2⟩, q⟩ := h
    have nd := sc_decimalN.nd
    refine ⟨_, (pss_cons (ps_if (PW.pt (pw_or (pt_cmpR op_eq (pv 0) pe_str (nomark _)) (pw_or (pt_cmpR op_gt (pe_callB call_len_str rfl T.z_len (by decide +kernel) (pa_cons (pv 0) pa_nil)) (pv 1) (nomark _)) (pw_or (pt_cmpR op_eq (pe_ix ix_str (pv 0) pe_int (by intro _ _; rfl)) pe_str (nomark _)) (pw_or1 (pt_cmpR op_ne (pe_m1 F.slot_str_strip F.type_str_strip mt_stripChars (pv 0) (pe_glob (v := .str "0123456789") rfl m_FIGURES ⟨_, rfl⟩)) pe_str (nomark _))))))) (pss_one (ps_ret pe_non)) pss_nil) (pss_one (ps_ret (pe_callTy call_int_str rfl T.z_int (by decide +kernel) (pa_cons (pv 0) pa_nil))))), ?_⟩
    have hlen := TL.numL_len (by omega) k2
    have hl : (SX.S (TL.numL k)).length ≤ f := by rw [SX.S_len]; exact hlen
    obtain ⟨d, r, hd, h48, _⟩ := numL_head k k1
    refine ⟨_, rfl, rfl, _, rfl, ?_⟩
    show if decide (V.str (SX.S (TL.numL k)) = V.str ("" : Str)) = true then _ else _
    rw [decide_eq_false fun z => num_nonempty k (by injection z)]
    refine iteF ?_
    refine ⟨_, rfl, _, rfl, small_line (by omega), _, rfl, _, _, rfl, rfl, _, rfl, ?_⟩
    refine ite2 (fun z => absurd (of_decide_eq_true z) (by omega)) (fun _ => ?_)
    refine ⟨_, rfl, _, 0, d, rfl, rfl, small_line (by omega), by rw [hd]; exact atI_nat (j := 0) rfl, rfl, _, rfl, ?_⟩
    show if decide (V.str ⟨#[d]⟩ = V.str ("0" : Str)) = true then _ else _
    rw [zero_t, decide_eq_false fun z => h48 (by injection z with z; injection z with z; injection z with z; injection z)]
    refine iteF ?_
    refine ⟨_, rfl, ⟨_, rfl⟩, _, _, rfl, rfl, small_line (by omega), rfl, _, rfl, ?_⟩
    show if (!decide (V.str (Txt.stripChars (SX.S (TL.numL k)) ("0123456789" : Str)) = V.str ("" : Str))) = true then _ else _
    rw [strip_num, decide_eq_true rfl]
    exact iteF ⟨_, rfl, _, _, rfl, numL_int (by omega), by omega, q⟩
/-! ### read_factor, of a right word -/
def spReadFac : Sp := fun vs H Q _ => ∃ x : Int × Int, vs = [.str (SX.S (wordQ x))] ∧ FacOne x ∧ ∀ p H', H' p = some (.tup [.int x.1, .int x.2]) → H p = none → Ext H H' → Q (.ref p) H'
theorem sc_read_factor : FnScope ["word", "parts", "prime", "exponent"] ["word"] (defScope s_read_factor) := ⟨rfl, rfl, rfl, by decide +kernel, rfl, by decide +kernel, by decide +kernel⟩
theorem ok_read_factor (T : Txt K mg) : Ok P w K mg base 2 (He.ga K "read_factor") ["word"] spReadFac := by
  obtain ⟨fd_decimalN, F_decimalN, b_decimalN, k_decimalN, _⟩ := (ok_decimalN (P := P) (w := w) (base := base) T).ex
  refine fd_ok T.f_read_factor sc_read_factor (fun vs H Q E h => ?_) (fun _ _ _ _ _ _ us hl => match us, hl with | [_], _ => rfl) (fun cdv A outer s H vs Q E hr h => ?_)
  · obtain ⟨x, rfl, _⟩ := h
    rfl
  · obtain ⟨x, rfl, fo, q⟩ := h
    have nd := sc_read_factor.nd
    refine ⟨_, (pss_cons (ps_set (i := 1) nd rfl (Or.inl rfl) (pe_split (pv 0) pe_str)) (pss_cons (ps_set (i := 2) nd rfl (Or.inl rfl) (pe_call F_decimalN (hr.mono (by decide)) rfl T.g_decimal k_decimalN b_decimalN .nil pass0 (pa_cons (pe_ix ix_list (pv 1) pe_int (by intro _ _; rfl)) (pa_cons pe_int pa_nil)))) (pss_cons (ps_if (PW.pt (pw_or (pt_cmpR op_isN (pv 2) pe_non (nomark _)) (pw_or1 (pt_cmpR op_gt (pe_callB call_len_seq rfl T.z_len (by decide +kernel) (pa_cons (pv 1) pa_nil)) pe_int (nomark _))))) (pss_one (ps_ret pe_non)) pss_nil) (pss_cons (ps_if (pt_cmpR op_eq (pe_callB call_len_seq rfl T.z_len (by decide +kernel) (pa_cons (pv 1) pa_nil)) pe_int (nomark _)) (pss_one (ps_ret (pe_tup (pa_cons (pv 2) (pa_cons pe_int pa_nil))))) pss_nil) (pss_cons (ps_set (i := 3) nd rfl (Or.inl rfl) (pe_call F_decimalN (hr.mono (by decide)) rfl T.g_decimal k_decimalN b_decimalN .nil pass0 (pa_cons (pe_ix ix_list (pv 1) pe_int (by intro _ _; rfl)) (pa_cons pe_int pa_nil)))) (pss_one (ps_ret (pe_ifExp (PW.pt (pw_or (pt_cmpR op_isN (pv 3) pe_non (nomark _)) (pw_or1 (pt_cmpR op_eq (pv 3) pe_int (nomark _))))) pe_non (pe_tup (pa_cons (pv 2) (pa_cons (pv 3) pa_nil))))))))))), ?_⟩
    obtain ⟨p, e, rfl, h1, h2, h3, h4⟩ := facOne_bd fo
    have hwl := word_lenQ fo
    refine ⟨_, rfl, ⟨_, rfl⟩, _, _, rfl, rfl, rfl, small_line (by rw [SX.S_len]; omega), fun pl hpl => ?_⟩
    have sk : ∀ {xs : List Str} {H' : Hp}, Ext (upd H pl (.lst (xs.map V.str))) H' → SqL K H' pl (xs.map V.str) := fun k => SqL.of (k _ _ upd_same)
    by_cases h : 1 < ((p : Int), (e : Int)).2
    · rw [word_split1 h]
      have e1 := Ext.new hpl (.lst ([SX.S (TL.numL ((p : Int), (e : Int)).1.toNat), SX.S (TL.numL ((p : Int), (e : Int)).2.toNat)].map V.str))
      have k1 : SqL K (upd H pl (.lst ([SX.S (TL.numL ((p : Int), (e : Int)).1.toNat), SX.S (TL.numL ((p : Int), (e : Int)).2.toNat)].map V.str))) pl [.str (SX.S (TL.numL p)), .str (SX.S (TL.numL e))] := SqL.of upd_same
      generalize upd H pl (.lst ([SX.S (TL.numL ((p : Int), (e : Int)).1.toNat), SX.S (TL.numL ((p : Int), (e : Int)).2.toNat)].map V.str)) = H1 at e1 k1 ⊢
      have h' : 1 < e := by have : (1 : Int) < (e : Int) := h; omega
      refine ⟨_, rfl, pl, _, 0, _, rfl, rfl, k1, rfl, p, 7, rfl, ⟨by omega, h2⟩, ⟨by decide, by decide⟩, ?_⟩
      refine ⟨_, rfl, rfl, _, rfl, ?_⟩
      rw [decide_eq_false (by intro z; cases z)]
      refine iteF ⟨_, rfl, pl, _, rfl, .inl k1, _, _, rfl, rfl, _, rfl, ?_⟩
      refine ite2 (fun z => absurd (of_decide_eq_true z) (by show ¬ (2 : Int) < 2; decide)) (fun _ => ?_)
      refine ⟨_, rfl, pl, _, rfl, .inl k1, rfl, _, rfl, ?_⟩
      refine ite2 (fun z => absurd (of_decide_eq_true z) (by intro z; injection z with z; exact absurd z (by show ¬ (2 : Int) = 1; decide))) (fun _ => ?_)
      refine ⟨_, rfl, pl, _, 1, _, rfl, rfl, k1, rfl, e, 31, rfl, ⟨by omega, h4⟩, ⟨by decide, by decide⟩, ?_⟩
      refine ⟨_, rfl, rfl, _, rfl, ?_⟩
      rw [decide_eq_false (by intro z; cases z)]
      refine iteF ⟨_, rfl, rfl, _, rfl, ?_⟩
      rw [decide_eq_false (show ¬ (V.int (e : Nat) = V.int 1) from fun z => by injection z with z; omega)]
      refine iteF ⟨_, rfl, _, rfl, by show 2 ≤ sizeLine; decide, fun tp htp => ?_⟩
      refine q tp _ upd_same ?_ (e1.trans (Ext.new htp _))
      cases z : H tp with
      | none => rfl
      | some o => rw [e1 _ _ z] at htp; cases htp
    · rw [word_split0 h]
      have e1 := Ext.new hpl (.lst ([SX.S (TL.numL ((p : Int), (e : Int)).1.toNat)].map V.str))
      have k1 : SqL K (upd H pl (.lst ([SX.S (TL.numL ((p : Int), (e : Int)).1.toNat)].map V.str))) pl [.str (SX.S (TL.numL p))] := SqL.of upd_same
      generalize upd H pl (.lst ([SX.S (TL.numL ((p : Int), (e : Int)).1.toNat)].map V.str)) = H1 at e1 k1 ⊢
      have h' : e = 1 := by
        have : ¬ (1 : Int) < (e : Int) := h
        omega
      subst h'
      refine ⟨_, rfl, pl, _, 0, _, rfl, rfl, k1, rfl, p, 7, rfl, ⟨by omega, h2⟩, ⟨by decide, by decide⟩, ?_⟩
      refine ⟨_, rfl, rfl, _, rfl, ?_⟩
      rw [decide_eq_false (by intro z; cases z)]
      refine iteF ⟨_, rfl, pl, _, rfl, .inl k1, _, _, rfl, rfl, _, rfl, ?_⟩
      refine ite2 (fun z => absurd (of_decide_eq_true z) (by show ¬ (2 : Int) < 1; decide)) (fun _ => ?_)
      refine ⟨_, rfl, pl, _, rfl, .inl k1, rfl, _, rfl, ?_⟩
      refine iteT ⟨_, rfl, by show 2 ≤ sizeLine; decide, fun tp htp => ?_⟩
      refine q tp _ upd_same ?_ (e1.trans (Ext.new htp _))
      cases z : H tp with
      | none => rfl
      | some o => rw [e1 _ _ z] at htp; cases htp
theorem ru65 {k : Nat} {A : Around} (h : Room k A) : A.units + 65 < cLine := by have := h.un; omega
/-! ### number_of, of a right text -/
theorem none_any (l : Prs) : ((l.map pairD).any fun z => PyData.eqv z .none) = false := by
  rw [List.any_eq_false]
  intro x hx
  obtain ⟨q, _, rfl⟩ := List.mem_map.mp hx
  exact Bool.false_ne_true
theorem pairs_shaped (l : Prs) : SeqAt.shaped (.list (l.map pairD)) = true := by
  have h1 : ∀ l : Prs, PyData.canLayAll0 (l.map pairD) = true := fun l => by
    induction l with
    | nil => rfl
    | cons q l ih => show ((pairD q).canLay0 && PyData.canLayAll0 (l.map pairD)) = true; rw [ih]; rfl
  have h2 : ∀ l : Prs, PyData.depthAll (l.map pairD) ≤ 2 := fun l => by
    induction l with
    | nil => exact Nat.zero_le _
    | cons q l ih => show max (pairD q).depth (PyData.depthAll (l.map pairD)) ≤ 2; exact Nat.max_le.mpr ⟨by show 1 ≤ 2; decide, ih⟩
  show (PyData.canLayAll0 (l.map pairD) && decide ((PyData.list (l.map pairD)).depth ≤ 64)) = true
  rw [h1, Bool.true_and]
  refine decide_eq_true ?_
  have := h2 l
  show PyData.depthAll (l.map pairD) + 1 ≤ 64
  omega
theorem dpall_of_tups {H : Hp} : ∀ {ts : List Addr} {l : Prs}, Paired (fun p (q : Int × Int) => H p = some (.tup [.int q.1, .int q.2])) ts l → DpAll K H (ts.map V.ref) (l.map pairD)
  | _, _, .nil => .nil
  | _, _, .cons h t => .cons (.tup (SqT.of h) (.cons (.int _) (.cons (.int _) .nil))) (dpall_of_tups t)
def spNumberOf (K : PySem.W.Frag) : Sp := fun vs H Q _ => ∃ t : V, vs = [t] ∧ ((t = .non ∧ Q .non H) ∨ ∃ l : Prs, t = .str (numT l) ∧ FacOk l ∧ ∀ n v H', NumAt K H' n l v → Ext H H' → Q (.ref n) H')
theorem sc_number_of : FnScope ["text", "factors", "word"] ["text"] (defScope s_number_of) := ⟨rfl, rfl, rfl, by decide +kernel, rfl, by decide +kernel, by decide +kernel⟩
theorem ok_number_of (T : Txt K mg) : Ok P w K mg base 7 (He.ga K "number_of") ["text"] (spNumberOf K) := by
  obtain ⟨fd_read_factor, F_read_factor, b_read_factor, k_read_factor, _⟩ := (ok_read_factor (P := P) (w := w) (base := base) T).ex
  obtain ⟨fd_Number_init, F_Number_init, b_Number_init, k_Number_init, _⟩ := (ok_Number_init (P := P) (w := w) (base := base) T).ex
  obtain ⟨fdN, FN, _, _, _, ds0, v0, b0⟩ := (ok_Number_init_w (P := P) (w := w) (base := base) T).ex
  refine fd_ok T.f_number_of sc_number_of (fun vs H Q E h => ?_) (fun _ _ _ _ _ _ us hl => match us, hl with | [_], _ => rfl) (fun cdv A outer s H vs Q E hr h => ?_)
  · obtain ⟨t, rfl, _⟩ := h
    rfl
  · obtain ⟨t, rfl, q⟩ := h
    have nd := sc_number_of.nd
    refine ⟨_, (pss_cons (ps_if (pt_not (pt_val (pe_callB call_isi rfl T.z_isinstance (by decide +kernel) (pa_cons (pv 0) (pa_cons (pe_bltn rfl T.z_str (by decide +kernel) (v := .ty "str") rfl) pa_nil))))) (pss_one (ps_ret pe_non)) pss_nil) (pss_cons (ps_if (pt_cmpR op_eq (pv 0) pe_str (nomark _)) (pss_one (ps_ret (pe_make0 T.mk_Number FN (hr.mono (by decide)) rfl T.g_Number b0 v0 pass0))) pss_nil) (pss_cons (ps_setLc (i := 1) (own := [("word", 2)]) (g := (gName 2)) (tt := tYes) rfl nd rfl rfl (sw_true rfl rfl rfl (by decide +kernel)) (pi_list (pe_split (pv 0) pe_str)) (blkOk_by (own := [("word", 2)]) (N := ["text", "factors", "word"]) (sc := defScope s_number_of) (by decide +kernel)) (fun _ _ _ _ _ => (pg_name (i := 2) nd rfl (Or.inl rfl))) (fun _ _ _ _ _ => pts_nil) (fun _ _ _ _ _ => (pe_call F_read_factor (hr.mono (by decide)) rfl T.g_read_factor k_read_factor b_read_factor .nil pass0 (pa_cons (pv 2) pa_nil)))) (pss_cons (ps_if (pt_cmpR (op_inD (ru65 hr)) pe_non (pv 1) rfl) (pss_one (ps_ret pe_non)) pss_nil) (pss_one (ps_try_thru0 (pss_one (ps_ret (pe_make T.mk_Number F_Number_init (hr.mono (by decide)) rfl T.g_Number b_Number_init .nil pass0 (pa_cons (pe_tupleP rfl T.z_tuple (pv 1)) pa_nil)))))))))), ?_⟩
    rcases q with ⟨rfl, q⟩ | ⟨l, rfl, fo, q⟩
    · exact ⟨_, rfl, _, _, _, _, false, rfl, .ty _, .base .non, by rfl, false, rfl, iteT q⟩
    refine ⟨_, rfl, _, _, _, _, true, rfl, .ty _, .base (.str _), by rfl, true, rfl, iteF ?_⟩
    by_cases hn : l = []
    · subst hn
      refine ⟨_, rfl, rfl, _, rfl, ?_⟩
      show if decide (V.str (numT []) = V.str ("1" : Str)) = true then _ else _
      rw [decide_eq_true (show V.str (numT []) = V.str ("1" : Str) from congrArg V.str (if_pos rfl))]
      refine iteT ?_
      intro n dn hn hdn nn
      refine ⟨n, _, dn, [], rfl, upd_same, ⟨[], .inr T.tup0_Number, .nil⟩, facOk_nil, fun H1 h1 k1 => ⟨rfl, ?_⟩⟩
      have e1 : Ext H H1 := fun x o e => by
        have n1 := ne_of_none e hn
        exact k1 x o (by rw [upd_ne n1, upd_ne (ne_of_none e hdn)]; exact e) n1
      exact q n _ H1 ⟨dn, _, h1, [], .inr T.tup0_Number, .nil⟩ e1
    refine ⟨_, rfl, rfl, _, rfl, ?_⟩
    show if decide (V.str (numT l) = V.str ("1" : Str)) = true then _ else _
    rw [decide_eq_false fun z => numT_one fo hn (by injection z)]
    refine iteF ?_
    have hl12 := fo.len
    refine ⟨_, rfl, ⟨_, rfl⟩, _, _, rfl, rfl, rfl, small_line (by have := numT_len fo; omega), fun wl hwl => ?_⟩
    rw [num_split hn]
    have e1 := Ext.new hwl (.lst (((l.map wordQ).map SX.S).map V.str))
    have k1 : SqL K (upd H wl (.lst (((l.map wordQ).map SX.S).map V.str))) wl (((l.map wordQ).map SX.S).map V.str) := SqL.of upd_same
    generalize upd H wl (.lst (((l.map wordQ).map SX.S).map V.str)) = H1 at e1 k1 ⊢
    refine ⟨wl, rfl, ⟨_, k1⟩, fun D hD => ?_⟩
    refine lc_list (xs := ((l.map wordQ).map SX.S).map V.str) (fun j H' => Ext H1 H' ∧ ∃ ts : List Addr, H' D = some (.lst (ts.map V.ref)) ∧ Paired (fun p (q : Int × Int) => H' p = some (.tup [.int q.1, .int q.2])) ts (l.take j)) ⟨Ext.new hD _, [], upd_same, .nil⟩ (fun j H' _ p => sql_ext k1 p.1) (fun j x H' hx p => ?_) (fun H' p => ?_)
    · obtain ⟨e2, ts, hts, hpt⟩ := p
      rw [List.getElem?_map, List.getElem?_map, List.getElem?_map] at hx
      obtain ⟨y, hy, rfl⟩ := Option.map_eq_some_iff.mp hx
      obtain ⟨z, hz, rfl⟩ := Option.map_eq_some_iff.mp hy
      obtain ⟨f, hf, rfl⟩ := Option.map_eq_some_iff.mp hz
      have tk : l.take (j + 1) = l.take j ++ [f] := by rw [List.take_add_one, hf] <;> rfl
      have tl := hpt.length
      rw [List.length_take] at tl
      refine ⟨rfl, ?_⟩
      unfold tYes
      dsimp only
      rw [if_pos rfl]
      refine ⟨_, rfl, f, rfl, fo.one f (List.mem_of_getElem? hf), fun tp H3 htp htp0 e3 => ?_⟩
      have nDt : D ≠ tp := ne_of_none hts htp0
      have hts3 := e3 _ _ hts
      refine ⟨_, hts3, by rw [List.length_map]; exact small_lt (by omega), fun x o e => ?_, ts ++ [tp], by rw [upd_same, List.map_append]; rfl, ?_⟩
      · rw [upd_ne (ne_of_none e hD)]
        exact e3 _ _ (e2 _ _ e)
      · rw [tk]
        refine Paired.snoc (L2.Paired.mapP hpt fun c q e => ?_) ?_
        · rw [upd_ne (ne_of e hts (by intro z; cases z))]
          exact e3 _ _ e
        · rw [upd_ne nDt.symm]
          exact htp
    · obtain ⟨e2, ts, hts, hpt⟩ := p
      rw [List.length_map, List.length_map, List.length_map, List.take_length] at hpt
      have tl := hpt.length
      refine ⟨_, rfl, .none, l.map pairD, .non, .lst (SqL.of hts) (dpall_of_tups hpt), by decide +kernel, pairs_shaped l, _, rfl, ?_⟩
      rw [none_any]
      refine iteF ?_
      refine ⟨_, rfl, D, _, rfl, SqL.of hts, fun t o ht oc od => ?_⟩
      have e3 := Ext.new ht (.frz o (.tup (ts.map V.ref)))
      have hp : PairsAt K (upd H' t (.frz o (.tup (ts.map V.ref)))) t l := ⟨ts, plt_new oc od, L2.Paired.mapP hpt fun c q e => SqT.of (e3 _ _ e)⟩
      generalize upd H' t (.frz o (.tup (ts.map V.ref))) = H3 at e3 hp ⊢
      have e03 := (e1.trans e2).trans e3
      intro n dn hn hdn nn
      have x1 : Ext H3 (upd (upd H3 dn (.own n)) n (.ins (CN K) dn [])) := fun x o e => by
        rw [upd_ne (ne_of_none e hn), upd_ne (ne_of_none e hdn)]
        exact e
      refine ⟨n, t, dn, l, rfl, upd_same, hp.ext x1, fo, fun H4 h4 k4 => ⟨rfl, ?_⟩⟩
      have e4 : Ext H3 H4 := fun x o e => k4 x o (x1 _ _ e) (ne_of_none e hn)
      exact q n _ H4 ⟨dn, t, h4, hp.ext e4⟩ (e03.trans e4)
end
end K75

set_option Elab.async false
set_option linter.all false
set_option maxRecDepth 100000
set_option maxHeartbeats 4000000
namespace K75
open PySem PySem.Spec PyProof.Rows L2 Bk Evl
section
variable {P : Program} {w : World} {K : PySem.W.Frag} {mg : Str → Option Value} {base : Heap}
theorem CoreAt.mod {H : Hp} {x r : Addr} {a b c : Nat} {l : Prs} {L : Trs} (C : CoreAt K H x r a b c l L) : SpansOf (clF l a) b c L := C.spans
/-! ### key_of: None, or some short key -/
def spKeyOf (K : PySem.W.Frag) : Sp := fun vs H Q _ => ∃ (x r : Addr) (a b c : Nat) (l : Prs) (L : Trs), vs = [.ref x] ∧ CoreAt K H x r a b c l L ∧ FacOk l ∧ okRule a b c ∧
  (∀ H', Ext H H' → Q .non H') ∧ (∀ t ps L' H', KeyIn K H' t ps L' → L'.length ≤ 20 → (∀ q ∈ L', q.1.natAbs < 2 ^ 60 ∧ q.2.natAbs < 2 ^ 1000) → Ext H H' → Q (.ref t) H')
theorem sc_key_of : FnScope ["core", "modulus", "found", "prime", "low", "high", "later", "rest", "key", "exponent", "goal"] ["core"] (defScope s_key_of) := ⟨rfl, rfl, rfl, by decide +kernel, rfl, by decide +kernel, by decide +kernel⟩
theorem ok_key_of (T : Txt K mg) : Ok P w K mg base 3 (He.ga K "key_of") ["core"] (spKeyOf K) := by
  obtain ⟨fd_power_rest_cores, F_power_rest_cores, b_power_rest_cores, k_power_rest_cores, _⟩ := (ok_power_rest_cores (P := P) (w := w) (base := base) T).ex
  refine fd_ok T.f_key_of sc_key_of (fun vs H Q E h => ?_) (fun _ _ _ _ _ _ us hl => match us, hl with | [_], _ => rfl) (fun cdv A outer s H vs Q E hr h => ?_)
  · obtain ⟨x, r, a, b, c, l, L, rfl, _⟩ := h
    rfl
  · obtain ⟨x, r, a, b, c, l, L, rfl, C, fo, ok, q0, q1⟩ := h
    have nd := sc_key_of.nd
    refine ⟨_, (pss_cons (ps_set (i := 1) nd rfl (Or.inl rfl) (pe_fld (pv 0) rfl)) (pss_cons (ps_set (i := 2) nd rfl (Or.inl rfl) (pe_disp (pps_cons (pe_op op_mod (pe_callTy call_int1 rfl T.z_int (by decide +kernel) (pa_cons pe_int pa_nil)) (pv 1)) (pe_tupP pa_nil) pps_nil) rfl rfl (fun z => by cases z) (by decide))) (pss_cons (ps_for PassesOwn.never rfl (pi_list (pe_fld (pv 0) rfl)) (pg_tup rfl (pgs_cons (pg_name (i := 3) nd rfl (Or.inl rfl)) (pgs_cons (pg_name (i := 4) nd rfl (Or.inl rfl)) (pgs_cons (pg_name (i := 5) nd rfl (Or.inl rfl)) pgs_nil)))) (pss_cons (ps_set (i := 6) nd rfl (Or.inl rfl) pe_dnewK) (pss_cons (ps_lock (ps_for PassesOwn.never rfl (pi_items (pv 2)) (pg_tup rfl (pgs_cons (pg_name (i := 7) nd rfl (Or.inl rfl)) (pgs_cons (pg_name (i := 8) nd rfl (Or.inl rfl)) pgs_nil))) (pss_one (ps_for PassesOwn.never rfl (pi_range2 rfl T.z_range (pa_cons (pe_callB (call_max2 rfl) rfl T.z_max (by decide +kernel) (pa_cons (pv 4) (pa_cons (pe_un un_neg (pv 1)) pa_nil))) (pa_cons (pe_op op_add (pe_callB (call_min2 rfl) rfl T.z_min (by decide +kernel) (pa_cons (pv 5) (pa_cons (pv 1) pa_nil))) pe_int) pa_nil))) (pg_name (i := 9) nd rfl (Or.inl rfl)) (pss_cons (ps_set (i := 10) nd rfl (Or.inl rfl) (pe_op op_mod (pe_callTy call_int1 rfl T.z_int (by decide +kernel) (pa_cons (pe_op op_mul (pv 7) (pe_call F_power_rest_cores (hr.mono (by decide)) rfl T.g_power_rest_cores k_power_rest_cores b_power_rest_cores .nil pass0 (pa_cons (pv 3) (pa_cons (pv 9) (pa_cons (pv 1) pa_nil))))) pa_nil)) (pv 1))) (pss_one (ps_if (pt_cmp (pc_dnotin (ru hr) (pv 10) (pv 6))) (pss_one (ps_asg (pe_ifExp (pt_cmpR op_eq (pv 9) pe_int (nomark _)) (pv 8) (pe_tup (starK (K0 := K) (pv 8) (pa_cons (pe_tup (pa_cons (pv 3) (pa_cons (pv 9) pa_nil))) pa_nil)))) (pg_sub (pv 6) (pv 10) (set_dict (ru hr))))) pss_nil))))))) (pss_one (ps_set (i := 2) nd rfl (Or.inl rfl) (pv 6)))))) (pss_one (ps_ret (pe_dget1 (ru hr) (pv 2) (pe_op op_sub (pv 1) pe_int) ⟨rfl, rfl, rfl, rfl⟩)))))), ?_⟩
    obtain ⟨dx, t0, sl, hx, hcl, ts, hts, hpt⟩ := C.ex
    obtain ⟨sok, _, hbase⟩ := core_spans fo ok C.spans
    obtain ⟨⟨a1, a2⟩, _⟩ := id ok
    have hsm := shF_mul l a
    obtain ⟨m1', m2', _, _⟩ := mul_le2 hsm (show 1 ≤ a by omega)
    have hmod := modF_eq (l := l) (show 1 ≤ a by omega)
    rw [← hmod] at m1' m2'
    have m1 : 1 ≤ modF l a := m1'
    have m2 : modF l a ≤ 12 := by omega
    generalize hm : modF l a = m at *
    have tl := hpt.length
    have sl20 := sok.1
    refine ⟨_, rfl, x, CC K, dx, _, _, rfl, hx, T.c_Core, T.n_Core_modulus, cf_modulus _ _ _ _, ?_⟩
    intro kd0 hkd0
    refine .inl ⟨_, rfl, _, rfl, _, _, rfl, rfl, by omega, by show 0 ≤ sizeLine; decide, fun z0 o0 hz0 oc0 od0 => ⟨by rw [upd_ne (ne_of_none upd_same hz0)]; exact upd_same, [((Sum.inl ((1 : Int) % (m : Int)) : Key), V.ref z0)], rfl, by show 1 ≤ 15; decide, ?_⟩⟩
    have hmk : mergeK [] [((Sum.inl ((1 : Int) % (m : Int)) : Key), V.ref z0)] = [((Sum.inl ((1 : Int) % (m : Int)) : Key), V.ref z0)] := rfl
    rw [hmk]
    have nkt : kd0 ≠ z0 := ne_of_none upd_same hz0
    have e1 : Ext H (upd (upd (upd H kd0 (.dK [])) z0 (.frz o0 (.tup []))) kd0 (.dK [((Sum.inl ((1 : Int) % (m : Int)) : Key), V.ref z0)])) := ((Ext.new hkd0 _).trans (Ext.new hz0 _)).mut hkd0 _
    have k1 : upd (upd (upd H kd0 (.dK [])) z0 (.frz o0 (.tup []))) kd0 (.dK [((Sum.inl ((1 : Int) % (m : Int)) : Key), V.ref z0)]) kd0 = some (.dK [((Sum.inl ((1 : Int) % (m : Int)) : Key), V.ref z0)]) := upd_same
    have h0 : SqT K (upd (upd (upd H kd0 (.dK [])) z0 (.frz o0 (.tup []))) kd0 (.dK [((Sum.inl ((1 : Int) % (m : Int)) : Key), V.ref z0)])) z0 [] := sqt_upd ((plt_new (K := K) oc0 od0).sqt) (show _ = some (HO.dK []) by rw [upd_ne nkt]; exact upd_same) (by intro z y; cases y) (by intro a z y; cases y)
    generalize upd (upd (upd H kd0 (.dK [])) z0 (.frz o0 (.tup []))) kd0 (.dK [((Sum.inl ((1 : Int) % (m : Int)) : Key), V.ref z0)]) = H1 at e1 k1 h0 ⊢
    have kn1 : Known K H1 [((Sum.inl ((1 : Int) % (m : Int)) : Key), V.ref z0)] m 0 := ⟨by simp, fun kv hkv => by
      rw [List.mem_singleton.mp hkv]
      exact ⟨1 % m, z0, [], [], by rw [Int.natCast_emod]; rfl, Nat.mod_lt _ m1, rfl, ⟨h0, .nil⟩, Nat.le_refl 0, fun q h => by cases h⟩⟩
    have hkd0' := hkd0
    refine ⟨_, rfl, x, CC K, dx, _, _, rfl, e1 _ _ hx, T.c_Core, T.n_Core_spans, cf_spans _ _ _ _, sl, rfl, ⟨_, SqL.of (e1 _ _ hts)⟩, ?_⟩
    refine for_list (xs := ts.map V.ref) (fun i σ H' => ∃ (kd : Addr) (kvs : List (Key × V)) (u3 u4 u5 u6 u7 u8 u9 u10 : Option V), σ = [some (.ref x), some (.int m), some (.ref kd), u3, u4, u5, u6, u7, u8, u9, u10] ∧ Ext H H' ∧ H kd = none ∧ H' kd = some (.dK kvs) ∧ Known K H' kvs m i)
      ⟨kd0, _, _, _, _, _, _, _, _, _, rfl, e1, hkd0, k1, kn1⟩ ?_ ?_ ?_
    · rintro i σ H' _ ⟨kd, kvs, u3, u4, u5, u6, u7, u8, u9, u10, rfl, e, _⟩
      exact SqL.of (e _ _ hts)
    · rintro i y σ H2 hy ⟨kd, kvs, u3, u4, u5, u6, u7, u8, u9, u10, rfl, e02, hkdn, hkd, kn⟩
      rw [List.getElem?_map] at hy
      obtain ⟨tp, htp, rfl⟩ := Option.map_eq_some_iff.mp hy
      obtain ⟨⟨q1', q2, q3⟩, hqj, htr⟩ := paired_at hpt i tp htp
      dsimp only at htr
      have il := (List.getElem?_eq_some_iff.mp hqj).1
      obtain ⟨bs, hqb, hgb, hlo, hhi⟩ := sok.2 _ (List.mem_of_getElem? hqj)
      have hbb := (hbase _ (List.mem_of_getElem? hqj)).2
      dsimp only at hqb hlo hhi hbb
      subst hqb
      refine ⟨tp, _, rfl, SqT.of (e02 _ _ htr), rfl, _, _, rfl, _, _, rfl, _, _, rfl, rfl, ?_⟩
      intro ld hld
      have e3 := Ext.new hld (.dK [])
      have nld : kd ≠ ld := ne_of_none hkd hld
      have e03 := e02.trans e3
      have hkd3 := e3 _ _ hkd
      have kl := kn.len
      have kn3 : Known K (upd H2 ld (.dK [])) kvs m i := kn.mono (Nat.le_refl i) fun x xs h => sqt_ext h e3
      have hld3 : upd H2 ld (.dK []) ld = some (.dK []) := upd_same
      have hld0 : H ld = none := by
        cases z : H ld with
        | none => rfl
        | some o => rw [e02 _ _ z] at hld; cases hld
      generalize upd H2 ld (.dK []) = H3 at e3 e03 hkd3 kn3 hld3 ⊢
      refine ⟨kd, .dK kvs, hkd3, True.intro, fun od => ⟨_, rfl, kd, od, kvs, rfl, upd_same, ?_⟩⟩
      -- the found one is locked
      have kn4 : Known K (upd H3 kd (.frz od (.dK kvs))) kvs m i := kn3.mono (Nat.le_refl i) fun x xs h => sqt_upd h hkd3 (by intro z y; cases y) (by intro a z y; cases y)
      have hkd4 : upd H3 kd (.frz od (.dK kvs)) kd = some (.frz od (.dK kvs)) := upd_same
      have hld4 : upd H3 kd (.frz od (.dK kvs)) ld = some (.dK []) := by rw [upd_ne nld.symm]; exact hld3
      have e34 : ∀ z o, H3 z = some o → z ≠ kd → upd H3 kd (.frz od (.dK kvs)) z = some o := fun z o h n => by rw [upd_ne n]; exact h
      generalize upd H3 kd (.frz od (.dK kvs)) = H4 at kn4 hkd4 hld4 e34 ⊢
      have stay : ∀ {H' : Hp}, (∀ x o, H4 x = some o → x ≠ ld → H' x = some o) → Known K H' kvs m i := fun {H'} k => kn4.mono (Nat.le_refl i) fun x xs h => by
        rcases h with (z | ⟨ob, z⟩) | z
        · exact .inl (.inl (k _ _ z fun y => by rw [y, hld4] at z; cases z))
        · exact .inl (.inr ⟨ob, k _ _ z fun y => by rw [y, hld4] at z; cases z⟩)
        · exact .inr z
      refine for_items (fun j σ' H' => ∃ (lvs : List (Key × V)) (v7 v8 v9 v10 : Option V), σ' = [some (.ref x), some (.int m), some (.ref kd), some (.int (bs : Nat)), some (.int q2), some (.int q3), some (.ref ld), v7, v8, v9, v10] ∧ (∀ x o, H4 x = some o → x ≠ ld → H' x = some o) ∧ H' ld = some (.dK lvs) ∧ Known K H' lvs m (i + 1))
        ⟨[], _, _, _, _, rfl, fun _ _ z _ => z, hld4, ⟨by simp, fun kv h => by cases h⟩⟩ ?_ ?_ ?_
      · rintro j σ' H' _ ⟨lvs, v7, v8, v9, v10, rfl, k, _⟩
        exact k _ _ hkd4 nld
      · rintro j k v T' σ' H5 hkv ⟨lvs0, v7, v8, v9, v10, rfl, k5, hld5, ln5⟩ hT
        obtain ⟨rr, wt, wps, wL, hr1, hr2, rfl, wk0, wl, wb⟩ := kn4.ok (k, v) (List.mem_of_getElem? hkv)
        dsimp only at hr1
        subst hr1
        have nT := Ext.new hT (.tup [kV (Sum.inl (rr : Int)), .ref wt])
        have hT6 : upd H5 T' (.tup [kV (Sum.inl (rr : Int)), .ref wt]) T' = some (.tup [.int (rr : Int), .ref wt]) := upd_same
        have k6 : ∀ x o, H4 x = some o → x ≠ ld → upd H5 T' (.tup [kV (Sum.inl (rr : Int)), .ref wt]) x = some o := fun x o z n => nT _ _ (k5 x o z n)
        have hld6 := nT _ _ hld5
        have ln6 : Known K (upd H5 T' (.tup [kV (Sum.inl (rr : Int)), .ref wt])) lvs0 m (i + 1) := ln5.mono (Nat.le_refl _) fun x xs h => sqt_ext h nT
        generalize upd H5 T' (.tup [kV (Sum.inl (rr : Int)), .ref wt]) = H6 at hT6 k6 hld6 ln6 ⊢
        refine ⟨T', [.int (rr : Int), .ref wt], rfl, SqT.of hT6, rfl, _, _, rfl, _, _, rfl, rfl, ?_⟩
        refine ⟨_, rfl, _, rfl, _, rfl, _, _, rfl, _, rfl, _, rfl, _, _, rfl, _, _, rfl, rfl, _, _, rfl, ⟨by split <;> omega, by split <;> omega, by split <;> omega, by split <;> omega⟩, ?_⟩
        obtain ⟨lo, hlo1⟩ : ∃ lo : Int, (if -(m : Int) > q2 then -(m : Int) else q2) = lo := ⟨_, rfl⟩
        obtain ⟨hi, hhi1⟩ : ∃ hi : Int, (if (m : Int) < q3 then (m : Int) else q3) = hi := ⟨_, rfl⟩
        rw [hlo1, hhi1]
        have hlo2 : lo = max q2 (-(m : Int)) := by rw [← hlo1]; split <;> omega
        have hhi2 : hi = min q3 m := by rw [← hhi1]; split <;> omega
        refine for_range (lo := lo) (n := (hi + 1 - lo).toNat) (fun z σ'' H' => ∃ (lvs : List (Key × V)) (v9 v10 : Option V), σ'' = [some (.ref x), some (.int m), some (.ref kd), some (.int (bs : Nat)), some (.int q2), some (.int q3), some (.ref ld), some (.int (rr : Nat)), some (.ref wt), v9, v10] ∧ (∀ x o, H4 x = some o → x ≠ ld → H' x = some o) ∧ H' ld = some (.dK lvs) ∧ Known K H' lvs m (i + 1))
          ⟨lvs0, _, _, rfl, k6, hld6, ln6⟩ ?_ ?_
        · rintro z σ'' H6 hz ⟨lvs, v9, v10, rfl, k6, hld6, ln6⟩
          refine ⟨_, rfl, _, rfl, _, rfl, _, rfl, bs, m, _, rfl, ⟨m1, m2⟩, hgb, fun H7 e7 => ?_⟩
          have pl := pw_lt (b := bs) (e := lo + (z : Int)) m1
          have k7 : ∀ x o, H4 x = some o → x ≠ ld → H7 x = some o := fun x o a n => e7 _ _ (k6 x o a n)
          have hld7 := e7 _ _ hld6
          have ln7 : Known K H7 lvs m (i + 1) := ln6.mono (Nat.le_refl _) fun x xs h => sqt_ext h e7
          have hkd7 := k7 _ _ hkd4 nld
          have kn7 := stay k7
          refine ⟨_, _, rfl, rfl, .inl ⟨by omega, by omega⟩, .inl ⟨_, rfl, _, rfl, _, _, rfl, rfl, by omega, ?_⟩⟩
          obtain ⟨g, hg, hgm⟩ : ∃ g : Nat, ((rr : Int) * ((pw bs (lo + (z : Int)) m : Nat) : Int) % (m : Int)) = (g : Int) ∧ g < m := ⟨rr * pw bs (lo + (z : Int)) m % m, by rw [Int.natCast_emod, Int.natCast_mul], Nat.mod_lt _ (by omega)⟩
          refine ⟨_, rfl, _, rfl, ld, _, rfl, .inl ⟨lvs, Sum.inl ((rr : Int) * ((pw bs (lo + (z : Int)) m : Nat) : Int) % (m : Int)), .inl hld7, rfl, rfl⟩, ?_⟩
          rw [hg]
          have back : ∀ {H8 : Hp} {nt : Addr} {nps : List Addr} {nL : Prs}, Ext H7 H8 → KeyIn K H8 nt nps nL → nL.length ≤ i + 1 → (∀ q ∈ nL, q.1.natAbs < 2 ^ 60 ∧ q.2.natAbs < 2 ^ 1000) → valV lvs (Sum.inl (g : Int) : Key) = none →
              (∀ x o, H4 x = some o → x ≠ ld → upd H8 ld (.dK (putK lvs (Sum.inl (g : Int)) (.ref nt))) x = some o) ∧ upd H8 ld (.dK (putK lvs (Sum.inl (g : Int)) (.ref nt))) ld = some (.dK (putK lvs (Sum.inl (g : Int)) (.ref nt))) ∧ Known K (upd H8 ld (.dK (putK lvs (Sum.inl (g : Int)) (.ref nt)))) (putK lvs (Sum.inl (g : Int)) (.ref nt)) m (i + 1) := fun {H8 nt nps nL} e8 hk hl hb hn => by
            refine ⟨fun x o a n => by rw [upd_ne n]; exact e8 _ _ (k7 x o a n), upd_same, ?_⟩
            have hld8 := e8 _ _ hld7
            rw [putK_new _ hn]
            have f : ∀ x xs, SqT K H8 x xs → SqT K (upd H8 ld (.dK (lvs ++ [((Sum.inl (g : Int) : Key), V.ref nt)]))) x xs := fun x xs h => sqt_upd h hld8 (by intro z y; cases y) (by intro a z y; cases y)
            exact (ln7.mono (Nat.le_refl _) fun x xs h => f _ _ (sqt_ext h e8)).put hgm hn ⟨f _ _ hk.1, L2.Paired.mapP hk.2 fun p q h => f _ _ h⟩ hl hb
          have ll := ln7.len
          cases hv : valV lvs (Sum.inl (g : Int) : Key) with
          | some v => exact ⟨_, rfl, iteF ⟨lvs, _, _, rfl, k7, hld7, ln7⟩⟩
          | none =>
            refine ⟨_, rfl, iteT ?_⟩
            obtain ⟨_, _, wt2, wL2, hx1, _, hx2, wk, wl2, wb2⟩ := kn7.ok _ (List.mem_of_getElem? hkv)
            dsimp only at hx2
            injection hx2 with hx2
            subst hx2
            refine ⟨_, rfl, rfl, _, rfl, ?_⟩
            refine ite2 (fun _ => ?_) (fun _ => ?_)
            · obtain ⟨a1, a2, a3⟩ := back (Ext.refl H7) wk (by omega) wb2 hv
              exact ⟨_, rfl, _, rfl, _, rfl, ld, _, rfl, .inl ⟨lvs, Sum.inl (g : Int), hld7, by rw [← hg]; rfl, small_lt (by omega), rfl⟩, _, _, _, rfl, a1, a2, a3⟩
            · have hwl := wk.2.length
              refine ⟨_, rfl, wt, _, rfl, .inl wk.1, _, rfl, _, rfl, by show 2 ≤ sizeLine; decide, fun p1 hp1 => ⟨by rw [List.length_append, List.length_map]; exact small_line (by show wt2.length + 1 ≤ 1000; omega), fun nt hnt => ?_⟩⟩
              have x1 := Ext.new hp1 (.tup [.int (bs : Nat), .int (lo + (z : Int))])
              have x2 := Ext.new hnt (.tup (wt2.map V.ref ++ [.ref p1]))
              have e8 := x1.trans x2
              have hk8 : KeyIn K (upd (upd H7 p1 (.tup [.int (bs : Nat), .int (lo + (z : Int))])) nt (.tup (wt2.map V.ref ++ [.ref p1]))) nt (wt2 ++ [p1]) (wL2 ++ [((bs : Int), lo + (z : Int))]) := ⟨by rw [List.map_append]; exact SqT.of upd_same, Paired.snoc (L2.Paired.mapP wk.2 fun p q h => sqt_ext h e8) (SqT.of (x2 _ _ upd_same))⟩
              obtain ⟨a1, a2, a3⟩ := back e8 hk8 (by rw [List.length_append, List.length_singleton]; omega) (fun q hq => by
                rcases List.mem_append.mp hq with h | h
                · exact wb2 q h
                · rw [List.mem_singleton.mp h]
                  exact ⟨hbb, by show (lo + (z : Int)).natAbs < 2 ^ 1000; exact Nat.lt_of_lt_of_le (show (lo + (z : Int)).natAbs < 2 ^ 5 by omega) (Nat.pow_le_pow_right (by decide) (by decide))⟩) hv
              exact ⟨_, rfl, _, rfl, ld, _, rfl, .inl ⟨lvs, Sum.inl (g : Int), e8 _ _ hld7, by rw [← hg]; rfl, small_lt (by omega), rfl⟩, _, _, _, rfl, a1, a2, a3⟩
        · rintro σ'' H6 ⟨lvs, v9, v10, rfl, k6, hld6, ln6⟩
          exact ⟨lvs, _, _, _, _, rfl, k6, hld6, ln6⟩
      · rintro σ' H5 ⟨lvs, v7, v8, v9, v10, rfl, k5, hld5, ln5⟩
        have hkd5 := k5 _ _ hkd4 nld
        refine ⟨hkd5, _, rfl, ld, lvs, _, _, _, _, _, _, _, _, rfl, fun z o h => ?_, hld0, by rw [upd_ne nld.symm]; exact hld5, ln5.mono (Nat.le_refl _) fun x xs h => ?_⟩
        · have n1 : z ≠ kd := fun y => by rw [y, hkdn] at h; cases h
          have n2 : z ≠ ld := fun y => by rw [y, hld0] at h; cases h
          rw [upd_ne n1]
          exact k5 _ _ (e34 _ _ (e03 _ _ h) n1) n2
        · rcases h with (z | ⟨ob, z⟩) | z
          · exact .inl (.inl (by rw [upd_ne (ne_of z hkd5 (by intro y; cases y))]; exact z))
          · exact .inl (.inr ⟨ob, by rw [upd_ne (ne_of z hkd5 (by intro y; cases y))]; exact z⟩)
          · exact .inr z
    · rintro σ H2 ⟨kd, kvs, u3, u4, u5, u6, u7, u8, u9, u10, rfl, e02, hkdn, hkd, kn⟩
      rw [List.length_map] at kn
      refine ⟨_, rfl, kd, rfl, .inl ⟨_, .inl hkd⟩, _, rfl, _, _, rfl, rfl, _, .inl ⟨kvs, Sum.inl ((m : Int) - 1), .inl hkd, rfl, rfl⟩, ?_⟩
      cases hv : valV kvs (Sum.inl ((m : Int) - 1) : Key) with
      | none => exact q0 H2 e02
      | some v =>
        obtain ⟨t, ps, L', rfl, hk, hl, hb⟩ := known_get kn hv
        exact q1 t ps L' H2 hk (by omega) hb e02
/-! ### key -/
def spKey (K : PySem.W.Frag) : Sp := fun vs H Q _ => ∃ (r n : Addr) (a b c : Nat) (l : Prs) (v : V), vs = [.ref r, .ref n] ∧ RuleAt K H r a b c ∧ okRule a b c ∧ NumAt K H n l v ∧ FacOk l ∧
  (∀ H', Ext H H' → Q .non H') ∧ (∀ t ps L' H', KeyIn K H' t ps L' → L'.length ≤ 20 → (∀ q ∈ L', q.1.natAbs < 2 ^ 60 ∧ q.2.natAbs < 2 ^ 1000) → Ext H H' → Q (.ref t) H')
theorem sc_key : FnScope ["rule", "number"] ["rule", "number"] (defScope s_key) := ⟨rfl, rfl, rfl, by decide +kernel, rfl, by decide +kernel, by decide +kernel⟩
theorem ok_key (T : Txt K mg) : Ok P w K mg base 7 (He.ga K "key") ["rule", "number"] (spKey K) := by
  obtain ⟨fd_check_pair, F_check_pair, b_check_pair, k_check_pair, _⟩ := (ok_check_pair (P := P) (w := w) (base := base) T).ex
  obtain ⟨fd_key_of, F_key_of, b_key_of, k_key_of, _⟩ := (ok_key_of (P := P) (w := w) (base := base) T).ex
  obtain ⟨fd_Core_init, F_Core_init, b_Core_init, k_Core_init, _⟩ := (ok_Core_init (P := P) (w := w) (base := base) T).ex
  refine fd_ok T.f_key sc_key (fun vs H Q E h => ?_) (fun _ _ _ _ _ _ us hl => match us, hl with | [_, _], _ => rfl) (fun cdv A outer s H vs Q E hr h => ?_)
  · obtain ⟨r, n, a, b, c, l, v, rfl, _⟩ := h
    rfl
  · obtain ⟨r, n, a, b, c, l, v, rfl, R, ok, N, fo, q0, q1⟩ := h
    have nd := sc_key.nd
    refine ⟨_, (pss_cons (ps_expr (pe_call F_check_pair (hr.mono (by decide)) rfl T.g_check_pair k_check_pair b_check_pair .nil pass0 (pa_cons (pv 0) (pa_cons (pv 1) pa_nil)))) (pss_one (ps_ret (pe_call F_key_of (hr.mono (by decide)) rfl T.g_key_of k_key_of b_key_of .nil pass0 (pa_cons (pe_make T.mk_Core F_Core_init (hr.mono (by decide)) rfl T.g_Core b_Core_init .nil pass0 (pa_cons (pv 0) (pa_cons (pv 1) pa_nil))) pa_nil))))), ?_⟩
    refine ⟨_, rfl, _, rfl, r, n, a, b, c, l, v, rfl, R, N, ?_⟩
    refine ⟨_, rfl, _, rfl, ?_⟩
    intro x dx hx hdx ndx
    have e1 : Ext H (upd (upd H dx (.own x)) x (.ins (CC K) dx [])) := fun y o e => by
      rw [upd_ne (ne_of_none e hx), upd_ne (ne_of_none e hdx)]
      exact e
    have nrx : r ≠ x := fun z => by obtain ⟨d1, m1, h1, _⟩ := R.ex; rw [z, hx] at h1; cases h1
    have nnx : n ≠ x := fun z => by obtain ⟨d1, t1, h1, _⟩ := N.ex; rw [z, hx] at h1; cases h1
    refine ⟨x, r, n, dx, a, b, c, l, v, rfl, upd_same, nrx, nnx, R.ext e1, ok, N.ext e1, fo, fun L H1 C b1 => ⟨rfl, ?_⟩⟩
    have e2 : Ext H H1 := fun y o e => b1 _ _ (e1 _ _ e) (ne_of_none e hx)
    exact ⟨x, r, a, b, c, l, L, rfl, C, fo, ok, fun H' e => q0 H' (e2.trans e), fun t ps L' H' h1 h2 h3 e => q1 t ps L' H' h1 h2 h3 (e2.trans e)⟩
end
end K75

set_option Elab.async false
set_option linter.all false
set_option maxRecDepth 100000
set_option maxHeartbeats 4000000
namespace K75
open PySem PySem.Spec PyProof.Rows L2 Bk Evl
/-- data that is a key -/
def KeyOkD (m : Nat) (S : Sps3) (d : PyData) : Prop := ∃ L : Prs, d = .tuple (L.map pairD) ∧ StepOk S L ∧ leavesL m L = m - 1
theorem prs_of_dpall {K : PySem.W.Frag} {H : Hp} : ∀ {L : Prs} {xs : List V}, DpAll K H xs (L.map pairD) → ∃ ps : List Addr, xs = ps.map V.ref ∧ Paired (fun p (q : Int × Int) => SqT K H p [.int q.1, .int q.2]) ps L
  | [], _, .nil => ⟨[], rfl, .nil⟩
  | q :: L, _, .cons h t => by
    obtain ⟨ps, rfl, p⟩ := prs_of_dpall t
    unfold pairD at h
    cases h with
    | tup hs ha =>
      cases ha with
      | cons a ha =>
        cases a
        cases ha with
        | cons b ha =>
          cases b
          cases ha
          exact ⟨_ :: ps, rfl, .cons hs p⟩
section
variable {P : Program} {w : World} {K : PySem.W.Frag} {mg : Str → Option Value} {base : Heap}
/-! ### wrong_step, of any data -/
def spWrongStep (K : PySem.W.Frag) : Sp := fun vs H Q _ => ∃ (x r : Addr) (y : V) (d : PyData) (a b c : Nat) (l : Prs) (S : Trs), vs = [.ref x, y] ∧ CoreAt K H x r a b c l S ∧ FacOk l ∧ okRule a b c ∧ Dx K H y d ∧
  ∀ t bb u H', H' t = some (.tup [.bl bb, u]) → (bb = true ↔ StepD S d) → Ext H H' → Q (.ref t) H'
theorem sc_wrong_step : FnScope ["core", "value", "spans", "index", "pair", "prime", "low", "high"] ["core", "value"] (defScope s_wrong_step) := ⟨rfl, rfl, rfl, by decide +kernel, rfl, by decide +kernel, by decide +kernel⟩
theorem ok_wrong_step (T : Txt K mg) : Ok P w K mg base 2 (He.ga K "wrong_step") ["core", "value"] (spWrongStep K) := by
  obtain ⟨fd_is_integer, F_is_integer, b_is_integer, k_is_integer, _⟩ := (ok_is_integer (P := P) (w := w) (base := base) T).ex
  refine fd_ok T.f_wrong_step sc_wrong_step (fun vs H Q E h => ?_) (fun _ _ _ _ _ _ us hl => match us, hl with | [_, _], _ => rfl) (fun cdv A outer s H vs Q E hr h => ?_)
  · obtain ⟨x, r, y, d, a, b, c, l, S, rfl, _⟩ := h
    rfl
  · obtain ⟨x, r, y, d, a, b, c, l, S, rfl, C, fo, ok, hy, q⟩ := h
    have nd := sc_wrong_step.nd
    refine ⟨_, (pss_cons (ps_if (pt_not (pt_val (pe_callB call_isi rfl T.z_isinstance (by decide +kernel) (pa_cons (pv 1) (pa_cons (pe_bltn rfl T.z_tuple (by decide +kernel) (v := .ty "tuple") rfl) pa_nil))))) (pss_one (ps_ret (pe_tup (pa_cons pe_bl (pa_cons pe_non pa_nil))))) pss_nil) (pss_cons (ps_setDc (i := 2) (own := [("prime", 5), ("low", 6), ("high", 7)]) (g := (gTup K 3 (gCons (gName 5) (gCons (gName 6) (gCons (gName 7) gNil))))) (tt := tYes) rfl nd rfl rfl (sw_trueD rfl rfl rfl (by decide +kernel)) (pi_list (pe_fld (pv 0) rfl)) (blkOk_by (own := [("prime", 5), ("low", 6), ("high", 7)]) (N := ["core", "value", "spans", "index", "pair", "prime", "low", "high"]) (sc := defScope s_wrong_step) (by decide +kernel)) (fun _ _ _ _ _ => (pg_tup rfl (pgs_cons (pg_name (i := 5) nd rfl (Or.inl rfl)) (pgs_cons (pg_name (i := 6) nd rfl (Or.inl rfl)) (pgs_cons (pg_name (i := 7) nd rfl (Or.inl rfl)) pgs_nil))))) (fun _ _ _ _ _ => pts_nil) (fun _ _ _ _ _ => (pv 5)) (fun _ _ _ _ _ => (pe_tup (pa_cons (pv 6) (pa_cons (pv 7) pa_nil))))) (pss_cons (ps_for PassesOwn.never rfl (pi_enumT rfl T.z_enumerate (pa_cons (pv 1) pa_nil)) (pg_tup rfl (pgs_cons (pg_name (i := 3) nd rfl (Or.inl rfl)) (pgs_cons (pg_name (i := 4) nd rfl (Or.inl rfl)) pgs_nil))) (pss_cons (ps_if (PW.pt (pw_or (pt_not (pt_val (pe_callB call_isi rfl T.z_isinstance (by decide +kernel) (pa_cons (pv 4) (pa_cons (pe_bltn rfl T.z_tuple (by decide +kernel) (v := .ty "tuple") rfl) pa_nil))))) (pw_or (pt_cmpR op_ne (pe_callB call_len_seq rfl T.z_len (by decide +kernel) (pa_cons (pv 4) pa_nil)) pe_int (nomark _)) (pw_or (pt_not (pt_val (pe_call F_is_integer (hr.mono (by decide)) rfl T.g_is_integer k_is_integer b_is_integer .nil pass0 (pa_cons (pe_ix ix_tup (pv 4) pe_int (by intro _ _; rfl)) pa_nil)))) (pw_or1 (pt_cmp (pc_dnotin (ru hr) (pe_ix ix_tup (pv 4) pe_int (by intro _ _; rfl)) (pv 2)))))))) (pss_one (ps_ret (pe_tup (pa_cons pe_bl (pa_cons (pv 3) pa_nil))))) pss_nil) (pss_cons (ps_asg (pe_dget (ru hr) (pv 2) (pe_ix ix_tup (pv 4) pe_int (by intro _ _; rfl)) (by intro _ _; rfl)) (pg_tup rfl (pgs_cons (pg_name (i := 6) nd rfl (Or.inl rfl)) (pgs_cons (pg_name (i := 7) nd rfl (Or.inl rfl)) pgs_nil)))) (pss_cons (ps_if (PW.pt (pw_or (pt_not (pt_val (pe_call F_is_integer (hr.mono (by decide)) rfl T.g_is_integer k_is_integer b_is_integer .nil pass0 (pa_cons (pe_ix ix_tup (pv 4) pe_int (by intro _ _; rfl)) pa_nil)))) (pw_or (pt_cmpR op_eq (pe_ix ix_tup (pv 4) pe_int (by intro _ _; rfl)) pe_int (nomark _)) (pw_or1 (pt_not (pt_chain op_le op_le (pv 6) (pe_ix ix_tup (pv 4) pe_int (by intro _ _; rfl)) (pv 7))))))) (pss_one (ps_ret (pe_tup (pa_cons pe_bl (pa_cons (pv 3) pa_nil))))) pss_nil) (pss_one (ps_if (PW.pt (pw_and (pt_cmpR op_gt (pv 3) pe_int (nomark _)) (pw_and1 (pt_cmpR op_le (pe_ix ix_tup (pv 4) pe_int (by intro _ _; rfl)) (pe_ix ix_tup (pe_ix ix_tup (pv 1) (pe_op op_sub (pv 3) pe_int) (by intro _ _; rfl)) pe_int (by intro _ _; rfl)) (nomark _))))) (pss_one (ps_ret (pe_tup (pa_cons pe_bl (pa_cons (pv 3) pa_nil))))) pss_nil)))))) (pss_one (ps_ret (pe_tup (pa_cons pe_bl (pa_cons pe_non pa_nil)))))))), ?_⟩
    obtain ⟨dx, t0, sl, hx, hcl, ts, hts, hpt⟩ := C.ex
    have hKU : KeysU S := C.spans.asc
    have hno : ∀ H' u, Ext H H' → ¬ StepD S d → [V.bl false, u].length ≤ sizeLine ∧ ∀ p, H' p = none → Q (.ref p) (upd H' p (.tup [.bl false, u])) := fun H' u e n =>
      ⟨by show 2 ≤ sizeLine; decide, fun p hp => q p false u _ upd_same (Iff.intro (fun z => by cases z) fun z => absurd z n) (e.trans (Ext.new hp _))⟩
    have tsl := hpt.length
    have sPl : S.length ≤ 20 := (core_spans fo ok C.spans).ok.1
    refine ⟨_, rfl, _, _, _, _, isT d, rfl, .ty _, tyx_dx hy, kit_tup d, isT d, rfl, ?_⟩
    cases et : isT d with
    | false => exact iteT (hno H _ (Ext.refl H) fun ⟨L', z, _⟩ => by rw [z] at et; cases et)
    | true =>
      refine iteF ?_
      obtain ⟨va, xs, ds, rfl, rfl, hs, ha⟩ := isT_dx hy et
      have hl := dpall_len ha
      refine ⟨_, rfl, x, CC K, dx, _, _, rfl, hx, T.c_Core, T.n_Core_spans, cf_spans _ _ _ _, sl, rfl, ⟨_, SqL.of hts⟩, fun D hD => ?_⟩
      refine dc_seq (itseq_l (K := K) (a := sl) (xs := ts.map V.ref)) (fun j H' => Ext H H' ∧ ∃ kvs, H' D = some (.dK kvs) ∧ TabS H' kvs (S.take j)) ⟨Ext.new hD _, [], upd_same, .nil⟩ (fun j H' _ p => SqL.of (p.1 _ _ hts)) (fun j y H' hy p => ?_) (fun H2 p => ?_)
      · obtain ⟨e2, kvs, hkv, tab⟩ := p
        rw [List.getElem?_map] at hy
        obtain ⟨tp, htp, rfl⟩ := Option.map_eq_some_iff.mp hy
        obtain ⟨⟨q1, q2, q3⟩, hqj, htr⟩ := paired_at hpt j tp htp
        dsimp only at htr
        have tk : S.take (j + 1) = S.take j ++ [(q1, q2, q3)] := by rw [List.take_add_one, hqj] <;> rfl
        have jl := (List.getElem?_eq_some_iff.mp hqj).1
        have kl : kvs.length = j := by rw [tab.length, List.length_take]; omega
        refine ⟨tp, _, rfl, SqT.of (e2 _ _ htr), rfl, _, _, rfl, _, _, rfl, _, _, rfl, rfl, rfl, ?_⟩
        unfold tYes
        dsimp only
        rw [if_pos rfl]
        refine ⟨_, rfl, _, rfl, _, rfl, by show 2 ≤ sizeLine; decide, fun np hnp => ?_⟩
        have nDp : D ≠ np := ne_of_none hkv hnp
        have hnk : valV kvs (Sum.inl q1 : Key) = none := tab_new tab (q := (q1, q2, q3)) fun r hr => by
          obtain ⟨i, hi⟩ := List.mem_iff_getElem?.mp hr
          have il := (List.getElem?_eq_some_iff.mp hi).1
          rw [List.length_take] at il
          rw [List.getElem?_take, if_pos (by omega)] at hi
          obtain ⟨a1, a2⟩ := List.getElem?_eq_some_iff.mp hi
          obtain ⟨b1, b2⟩ := List.getElem?_eq_some_iff.mp hqj
          have := List.pairwise_iff_getElem.mp hKU i j a1 b1 (by omega)
          rw [a2, b2] at this
          exact this
        refine ⟨kvs, Sum.inl q1, rfl, by rw [upd_ne nDp]; exact hkv, small_lt (by omega), ?_⟩
        rw [putK_new _ hnk]
        have e3 := e2.trans (Ext.new hnp (.tup [.int q2, .int q3]))
        refine ⟨fun x o e => ?_, _, upd_same, ?_⟩
        · rw [upd_ne (ne_of_none e hD)]
          exact e3 x o e
        · rw [tk]
          have k2 : ∀ x xs, H' x = some (.tup xs) → upd (upd H' np (.tup [.int q2, .int q3])) D (.dK (kvs ++ [(Sum.inl q1, V.ref np)])) x = some (.tup xs) := fun x xs e => by
            rw [upd_ne (ne_of e hkv (by intro z; cases z)), upd_ne (ne_of_none e hnp)]
            exact e
          exact Paired.snoc (tab.mapP k2) ⟨rfl, np, rfl, by rw [upd_ne nDp.symm, upd_same]⟩
      · obtain ⟨e2, kvs, hkv, tab⟩ := p
        rw [List.length_map, tsl, List.take_length] at tab
        have hs2 := sqt_ext hs e2
        refine ⟨_, rfl, va, xs, rfl, hs2, ?_⟩
        refine for_enumT (xs := xs) (fun i σ H' => ∃ (u v v5 v6 : Option V) (L' : Prs), σ = [some (.ref x), some (.ref va), some (.ref D), u, v, none, v5, v6] ∧ Ext H2 H' ∧ ds.take i = L'.map pairD ∧ StepOk S L')
          ⟨_, _, _, _, [], rfl, Ext.refl H2, rfl, step_nil _⟩ ?_ ?_ ?_
        · rintro i σ H' _ ⟨u, v, v5, v6, L', rfl, e, _⟩
          exact sqt_ext hs2 e
        · rintro i x' T' σ H' hxi ⟨u, v, v5, v6, L', rfl, e3, htk, sok⟩ hT
          obtain ⟨d, hd, hdp⟩ := dpall_at ha hxi
          have il := (List.getElem?_eq_some_iff.mp hxi).1
          have e4 := e3.trans (Ext.new hT (.tup [.int (i : Nat), x']))
          have hT2 : upd H' T' (.tup [.int (i : Nat), x']) T' = some (.tup [.int (i : Nat), x']) := upd_same
          generalize upd H' T' (.tup [.int (i : Nat), x']) = H4 at e4 hT2 ⊢
          have e04 := e2.trans e4
          have hdp := Dp.ext e04 _ _ hdp
          have tab4 := tab.ext e4
          have hD4 := e4 _ _ hkv
          have fail : ∀ u, (∀ q, d = pairD q → q.2 ≠ 0 → (∃ lo hi, (q.1, lo, hi) ∈ S ∧ lo ≤ q.2 ∧ q.2 ≤ hi) → (∀ q' ∈ L', q'.1 < q.1) → False) → [V.bl false, u].length ≤ sizeLine ∧ ∀ p, H4 p = none → Q (.ref p) (upd H4 p (.tup [.bl false, u])) := fun u n => hno H4 u e04 fun z => by
            obtain ⟨q, z1, z2, z3, z4⟩ := step_at htk hd z
            exact n q z1 z2 z3 z4
          refine ⟨T', _, rfl, SqT.of hT2, rfl, _, _, rfl, _, _, rfl, rfl, ?_⟩
          refine ⟨_, rfl, _, _, _, _, isT d, rfl, .ty _, tyx_dp hdp, kit_tup d, isT d, rfl, ?_⟩
          cases et1 : isT d with
          | false => exact iteT ⟨_, rfl, fail _ fun q z => by rw [z] at et1; cases et1⟩
          | true =>
            refine iteF ?_
            obtain ⟨pa, ys, es, rfl, rfl, hps, hpa⟩ := isT_dp hdp et1
            have hyl := dpall_len hpa
            refine ⟨_, rfl, pa, _, rfl, .inr hps, rfl, _, rfl, ?_⟩
            show if (!decide (V.int (ys.length : Int) = V.int 2)) = true then _ else _
            rw [show decide (V.int (ys.length : Int) = V.int 2) = decide (es.length = 2) from decide_eq_decide.mpr ⟨fun z => by injection z with z; omega, fun z => by rw [hyl, z]; rfl⟩]
            by_cases h2 : ¬ es.length = 2
            · rw [decide_eq_false h2]
              refine iteT ⟨_, rfl, fail _ fun q z => absurd ?_ h2⟩
              unfold pairD at z
              injection z with z
              rw [z]
              rfl
            have h2 := Decidable.not_not.mp h2
            rw [decide_eq_true h2]
            refine iteF ?_
            obtain ⟨d0, d1, rfl⟩ : ∃ d0 d1, es = [d0, d1] := by
              match es, h2 with
              | [d0, d1], _ => exact ⟨d0, d1, rfl⟩
            cases hpa with
            | cons dp0 hpa =>
              cases hpa with
              | cons dp1 hpa =>
                cases hpa
                rename_i x0 x1
                refine ⟨_, rfl, pa, _, 0, x0, rfl, rfl, hps, rfl, _, _, isIB d0, isB d0, rfl, tyx_dp dp0, kit_int d0, kit_bool d0, _, rfl, ?_⟩
                rw [isI_eq]
                cases e0 : isI d0 with
                | false =>
                  refine iteT ⟨_, rfl, fail _ fun q z => ?_⟩
                  unfold pairD at z
                  injection z with z
                  injection z with z
                  rw [z] at e0
                  cases e0
                | true =>
                  refine iteF ?_
                  obtain ⟨p0, rfl, rfl⟩ := isI_dp dp0 e0
                  refine ⟨_, rfl, pa, _, 0, _, rfl, rfl, hps, rfl, _, rfl, D, _, rfl, .inl ⟨kvs, Sum.inl p0, .inl hD4, rfl, rfl⟩, ?_⟩
                  rcases tab_get tab4 p0 with ⟨lo, hi, st, g1, g2, g3⟩ | ⟨g1, g2⟩
                  case inr =>
                    rw [g1]
                    refine ⟨_, rfl, ?_⟩
                    refine iteT ⟨_, rfl, fail _ fun q z _ z3 _ => ?_⟩
                    unfold pairD at z
                    injection z with z
                    injection z with z
                    injection z with z
                    obtain ⟨lo, hi, z3, _⟩ := z3
                    rw [← z] at z3
                    exact g2 lo hi z3
                  rw [g2]
                  refine ⟨_, rfl, iteF ?_⟩
                  have g3T := SqT.of (K := K) g3
                  -- low, high
                  refine ⟨_, rfl, _, rfl, pa, _, 0, _, rfl, rfl, hps, rfl, D, _, rfl, .inl ⟨kvs, Sum.inl p0, .inl hD4, rfl, g2.symm⟩, st, _, rfl, g3T, rfl, _, _, rfl, _, _, rfl, rfl, ?_⟩
                  refine ⟨_, rfl, pa, _, 1, x1, rfl, rfl, hps, rfl, _, _, isIB d1, isB d1, rfl, tyx_dp dp1, kit_int d1, kit_bool d1, _, rfl, ?_⟩
                  rw [isI_eq]
                  cases e1' : isI d1 with
                  | false =>
                    refine iteT ⟨_, rfl, fail _ fun q z => ?_⟩
                    unfold pairD at z
                    injection z with z
                    injection z with _ z
                    injection z with z
                    rw [z] at e1'
                    cases e1'
                  | true =>
                    refine iteF ?_
                    obtain ⟨ex, rfl, rfl⟩ := isI_dp dp1 e1'
                    have hq : ∀ {q : Int × Int}, PyData.tuple [.int p0, .int ex] = pairD q → q = (p0, ex) := fun {q} z => (pairD_inj (q := (p0, ex)) z).symm
                    refine ⟨_, rfl, pa, _, 1, _, rfl, rfl, hps, rfl, rfl, _, rfl, ?_⟩
                    rw [show decide (V.int ex = V.int 0) = decide (ex = 0) from decide_eq_decide.mpr ⟨fun z => by injection z, fun z => by rw [z]⟩]
                    by_cases h0 : ex = 0
                    · rw [decide_eq_true h0]
                      exact iteT ⟨_, rfl, fail _ fun q z z2 => by rw [hq z] at z2; exact absurd h0 z2⟩
                    rw [decide_eq_false h0]
                    refine iteF ?_
                    refine ⟨_, rfl, _, rfl, pa, _, 1, _, rfl, rfl, hps, rfl, _, _, rfl, rfl, _, rfl, ?_⟩
                    by_cases hlo : ¬ lo ≤ ex
                    · rw [decide_eq_false hlo]
                      refine iteF ⟨_, rfl, iteT ⟨_, rfl, fail _ fun q z _ z3 _ => ?_⟩⟩
                      rw [hq z] at z3
                      obtain ⟨lo', hi', z3, z4, z5⟩ := z3
                      obtain ⟨rfl, rfl⟩ := keysU_eq hKU g1 z3
                      exact hlo z4
                    have hlo := Decidable.not_not.mp hlo
                    rw [decide_eq_true hlo]
                    refine iteT ⟨_, rfl, _, _, rfl, rfl, _, rfl, ?_⟩
                    by_cases hhi : ¬ ex ≤ hi
                    · rw [decide_eq_false hhi]
                      refine iteT ⟨_, rfl, fail _ fun q z _ z3 _ => ?_⟩
                      rw [hq z] at z3
                      obtain ⟨lo', hi', z3, z4, z5⟩ := z3
                      obtain ⟨rfl, rfl⟩ := keysU_eq hKU g1 z3
                      exact hhi z5
                    have hhi := Decidable.not_not.mp hhi
                    rw [decide_eq_true hhi]
                    refine iteF ?_
                    have next : (∀ q' ∈ L', q'.1 < p0) → ∃ (u v v5 v6 : Option V) (L'' : Prs), [some (V.ref x), some (.ref va), some (.ref D), some (.int (i : Nat)), some (.ref pa), none, some (.int lo), some (.int hi)] = [some (V.ref x), some (.ref va), some (.ref D), u, v, none, v5, v6] ∧ Ext H2 H4 ∧ ds.take (i + 1) = L''.map pairD ∧ StepOk S L'' := fun z => by
                      refine ⟨_, _, _, _, L' ++ [(p0, ex)], rfl, e4, ?_, step_snoc sok h0 g1 hlo hhi z⟩
                      rw [List.take_add_one, hd, htk, List.map_append]
                      rfl
                    have hL'l : L'.length = i := by
                      have := congrArg List.length htk
                      rw [List.length_take, List.length_map] at this
                      omega
                    refine ⟨_, rfl, _, _, rfl, rfl, _, rfl, ?_⟩
                    cases i with
                    | zero =>
                      have hnil : L' = [] := List.eq_nil_of_length_eq_zero hL'l
                      exact iteF (next fun q' hq' => by rw [hnil] at hq'; cases hq')
                    | succ j =>
                      rw [decide_eq_true (show (0 : Int) < ((j + 1 : Nat) : Int) by omega)]
                      refine iteT ?_
                      obtain ⟨pq, hpq⟩ : ∃ pq, L'[j]? = some pq := ⟨L'[j], List.getElem?_eq_getElem (by omega)⟩
                      have hdj : ds[j]? = some (pairD pq) := by
                        have h1 : (ds.take (j + 1))[j]? = some (pairD pq) := by rw [htk, List.getElem?_map, hpq]; rfl
                        rw [List.getElem?_take, if_pos (by omega)] at h1
                        exact h1
                      obtain ⟨xj, hxj, dj⟩ := dpall_atD ha hdj
                      have dj := Dp.ext e04 _ _ dj
                      unfold pairD at dj
                      cases dj with
                      | tup hsj haj =>
                        rename_i pj ysj
                        cases haj with
                        | cons k0 haj =>
                          cases haj with
                          | cons k1 haj =>
                            cases haj
                            cases k0
                            cases k1
                            refine ⟨_, rfl, pa, _, 0, _, rfl, rfl, hps, rfl, _, rfl, _, rfl, _, _, rfl, rfl, va, xs, _, .ref pj, rfl, rfl, sqt_ext hs e04, ?_, pj, _, 0, _, rfl, rfl, hsj, rfl, _, _, rfl, rfl, _, rfl, ?_⟩
                            · rw [show ((j + 1 : Nat) : Int) - 1 = ((j : Nat) : Int) by omega]
                              exact atI_nat hxj
                            by_cases hle : p0 ≤ pq.1
                            · rw [decide_eq_true hle]
                              refine iteT ⟨_, rfl, fail _ fun q z _ _ z4 => ?_⟩
                              rw [hq z] at z4
                              have := z4 pq (List.mem_of_getElem? hpq)
                              dsimp only at this
                              omega
                            · rw [decide_eq_false hle]
                              exact iteF (next (asc_last sok.asc hpq hL'l (by omega)))
        · rintro σ H' ⟨u, v, v5, v6, L', rfl, e3, htk, sok⟩
          rw [hl, List.take_length] at htk
          refine ⟨by show 2 ≤ sizeLine; decide, fun p hp => q p true _ _ upd_same (Iff.intro (fun _ => ⟨L', by rw [htk], sok⟩) fun _ => rfl) ((e2.trans e3).trans (Ext.new hp _))⟩
/-! ### rest_of, of a step -/
def spRestOf (K : PySem.W.Frag) : Sp := fun vs H Q _ => ∃ (x r t : Addr) (a b c : Nat) (l : Prs) (S : Trs) (ps : List Addr) (L : Prs), vs = [.ref x, .ref t] ∧ CoreAt K H x r a b c l S ∧ (1 ≤ modF l a ∧ modF l a ≤ 12) ∧ SqT K H t (ps.map V.ref) ∧ Paired (fun p (q : Int × Int) => SqT K H p [.int q.1, .int q.2]) ps L ∧ (∀ q ∈ L, ∃ b : Nat, q.1 = (b : Int) ∧ Nat.gcd b (modF l a) = 1) ∧
  ∀ H', Ext H H' → Q (.int (leavesL (modF l a) L : Nat)) H'
theorem sc_rest_of : FnScope ["core", "value", "found", "prime", "exponent"] ["core", "value"] (defScope s_rest_of) := ⟨rfl, rfl, rfl, by decide +kernel, rfl, by decide +kernel, by decide +kernel⟩
theorem ok_rest_of (T : Txt K mg) : Ok P w K mg base 3 (He.ga K "rest_of") ["core", "value"] (spRestOf K) := by
  obtain ⟨fd_power_rest_cores, F_power_rest_cores, b_power_rest_cores, k_power_rest_cores, _⟩ := (ok_power_rest_cores (P := P) (w := w) (base := base) T).ex
  refine fd_ok T.f_rest_of sc_rest_of (fun vs H Q E h => ?_) (fun _ _ _ _ _ _ us hl => match us, hl with | [_, _], _ => rfl) (fun cdv A outer s H vs Q E hr h => ?_)
  · obtain ⟨x, r, t, a, b, c, l, S, ps, L, rfl, _⟩ := h
    rfl
  · obtain ⟨x, r, t, a, b, c, l, S, ps, L, rfl, C, ⟨m1, m2⟩, ht, hp, hb, q⟩ := h
    have nd := sc_rest_of.nd
    refine ⟨_, (pss_cons (ps_set (i := 2) nd rfl (Or.inl rfl) (pe_op op_mod (pe_callTy call_int1 rfl T.z_int (by decide +kernel) (pa_cons pe_int pa_nil)) (pe_fld (pv 0) rfl))) (pss_cons (ps_for PassesOwn.never rfl (pi_tup (pv 1)) (pg_tup rfl (pgs_cons (pg_name (i := 3) nd rfl (Or.inl rfl)) (pgs_cons (pg_name (i := 4) nd rfl (Or.inl rfl)) pgs_nil))) (pss_one (ps_set (i := 2) nd rfl (Or.inl rfl) (pe_op op_mod (pe_callTy call_int1 rfl T.z_int (by decide +kernel) (pa_cons (pe_op op_mul (pv 2) (pe_call F_power_rest_cores (hr.mono (by decide)) rfl T.g_power_rest_cores k_power_rest_cores b_power_rest_cores .nil pass0 (pa_cons (pv 3) (pa_cons (pv 4) (pa_cons (pe_fld (pv 0) rfl) pa_nil))))) pa_nil)) (pe_fld (pv 0) rfl))))) (pss_one (ps_ret (pv 2))))), ?_⟩
    obtain ⟨dx, t0, sl, hx, _⟩ := C.ex
    generalize modF l a = m at *
    have hpl := hp.length
    refine .inl ⟨_, rfl, _, rfl, x, CC K, dx, _, _, rfl, hx, T.c_Core, T.n_Core_modulus, cf_modulus _ _ _ _, _, _, rfl, rfl, by omega, ?_⟩
    refine ⟨_, rfl, t, rfl, ⟨_, ht⟩, ?_⟩
    refine for_tup (xs := ps.map V.ref) (fun i σ H' => ∃ (u v : Option V), σ = [some (.ref x), some (.ref t), some (.int (leavesL m (L.take i) : Nat)), u, v] ∧ Ext H H')
      ⟨_, _, by show [_, _, some (V.int ((1 : Int) % (m : Int))), _, _] = [_, _, some (V.int ((1 % m : Nat) : Int)), _, _]; rw [Int.natCast_emod]; rfl, Ext.refl H⟩ ?_ ?_ ?_
    · rintro i σ H' _ ⟨u, v, rfl, e⟩
      exact sqt_ext ht e
    · rintro i y σ H' hy ⟨u, v, rfl, e⟩
      rw [List.getElem?_map] at hy
      obtain ⟨p, hpi, rfl⟩ := Option.map_eq_some_iff.mp hy
      obtain ⟨⟨q1, q2⟩, hq, hsq⟩ := paired_at hp i p hpi
      dsimp only at hsq
      have htk : L.take (i + 1) = L.take i ++ [(q1, q2)] := by rw [List.take_add_one, hq] <;> rfl
      obtain ⟨b', hb1, hb2⟩ := hb _ (List.mem_of_getElem? hq)
      dsimp only at hb1
      subst hb1
      have lv := leaves_lt m1 (L.take i)
      have pl := pw_lt (b := b') (e := q2) m1
      refine ⟨p, _, rfl, sqt_ext hsq e, rfl, _, _, rfl, _, _, rfl, rfl, ?_⟩
      refine ⟨_, rfl, _, rfl, _, rfl, _, rfl, x, CC K, dx, _, _, rfl, e _ _ hx, T.c_Core, T.n_Core_modulus, cf_modulus _ _ _ _, b', m, q2, rfl, ⟨m1, m2⟩, hb2, fun H2 e2 => ?_⟩
      refine ⟨_, _, rfl, rfl, .inl ⟨by omega, by omega⟩, .inl ⟨_, rfl, _, rfl, x, CC K, dx, _, _, rfl, e2 _ _ (e _ _ hx), T.c_Core, T.n_Core_modulus, cf_modulus _ _ _ _, _, _, rfl, rfl, by omega, some (.int (b' : Nat)), some (.int q2), ?_, e.trans e2⟩⟩
      show [_, _, some (V.int (((leavesL m (L.take i) : Nat) : Int) * ((pw b' q2 m : Nat) : Int) % (m : Int))), _, _] = _
      rw [htk, leaves_snoc, Int.natCast_emod, Int.natCast_mul]
      rfl
    · rintro σ H' ⟨u, v, rfl, e⟩
      rw [List.length_map, hpl, List.take_length]
      exact ⟨_, rfl, q H' e⟩
/-! ### is_key, of any data -/
def spIsKey (K : PySem.W.Frag) : Sp := fun vs H Q _ => ∃ (x r : Addr) (y : V) (d : PyData) (a b c : Nat) (l : Prs) (S : Trs), vs = [.ref x, y] ∧ CoreAt K H x r a b c l S ∧ FacOk l ∧ okRule a b c ∧ Dx K H y d ∧
  ∀ bb H', (bb = true ↔ KeyOkD (modF l a) S d) → Ext H H' → Q (.bl bb) H'
theorem sc_is_key : FnScope ["core", "value"] ["core", "value"] (defScope s_is_key) := ⟨rfl, rfl, rfl, by decide +kernel, rfl, by decide +kernel, by decide +kernel⟩
theorem ok_is_key (T : Txt K mg) : Ok P w K mg base 4 (He.ga K "is_key") ["core", "value"] (spIsKey K) := by
  obtain ⟨fd_rest_of, F_rest_of, b_rest_of, k_rest_of, _⟩ := (ok_rest_of (P := P) (w := w) (base := base) T).ex
  obtain ⟨fd_wrong_step, F_wrong_step, b_wrong_step, k_wrong_step, _⟩ := (ok_wrong_step (P := P) (w := w) (base := base) T).ex
  refine fd_ok T.f_is_key sc_is_key (fun vs H Q E h => ?_) (fun _ _ _ _ _ _ us hl => match us, hl with | [_, _], _ => rfl) (fun cdv A outer s H vs Q E hr h => ?_)
  · obtain ⟨x, r, y, d, a, b, c, l, S, rfl, _⟩ := h
    rfl
  · obtain ⟨x, r, y, d, a, b, c, l, S, rfl, C, fo, ok, hy, q⟩ := h
    have nd := sc_is_key.nd
    refine ⟨_, (pss_one (ps_ret (pe_and (pe_ix ix_tup (pe_call F_wrong_step (hr.mono (by decide)) rfl T.g_wrong_step k_wrong_step b_wrong_step .nil pass0 (pa_cons (pv 0) (pa_cons (pv 1) pa_nil))) pe_int (by intro _ _; rfl)) (pe_one (pe_cmpR op_eq (pe_call F_rest_of (hr.mono (by decide)) rfl T.g_rest_of k_rest_of b_rest_of .nil pass0 (pa_cons (pv 0) (pa_cons (pv 1) pa_nil))) (pe_op op_sub (pe_fld (pv 0) rfl) pe_int) (nomark _)))))), ?_⟩
    obtain ⟨⟨a1, a2⟩, _⟩ := id ok
    obtain ⟨m1', m2', _, _⟩ := mul_le2 (shF_mul l a) (show 1 ≤ a by omega)
    have hmod := modF_eq (l := l) (show 1 ≤ a by omega)
    rw [← hmod] at m1' m2'
    refine ⟨_, rfl, _, rfl, x, r, y, d, a, b, c, l, S, rfl, C, fo, ok, hy, fun t bb u H1 ht hbb e1 => ?_⟩
    refine ⟨t, _, 0, _, rfl, rfl, SqT.of ht, rfl, _, rfl, ?_⟩
    cases bb with
    | false => exact iteF (q false H1 (Iff.intro (fun z => by cases z) fun ⟨L', z1, z2, _⟩ => hbb.mpr ⟨L', z1, z2⟩) e1)
    | true =>
      obtain ⟨L', rfl, so⟩ := hbb.mp rfl
      obtain ⟨va, xs, ds, z, rfl, hxs, hxa⟩ := isT_dx (hy.ext e1) rfl
      injection z with z
      subst z
      obtain ⟨qs, rfl, hqp⟩ := prs_of_dpall hxa
      have C1 := C.ext e1
      refine iteT ⟨_, rfl, _, rfl, x, r, va, a, b, c, l, S, qs, L', rfl, C1, ⟨m1', by omega⟩, hxs, hqp, fun q' hq' => ?_, fun H2 e2 => ?_⟩
      · obtain ⟨_, lo, hi, h1, _⟩ := so.ok q' hq'
        obtain ⟨b', h2, h3, _⟩ := (core_spans fo ok C.spans).ok.2 _ h1
        exact ⟨b', h2, h3⟩
      · obtain ⟨dx, t0, sl, hx, _⟩ := (C1.ext e2).ex
        refine ⟨_, rfl, x, CC K, dx, _, _, rfl, hx, T.c_Core, T.n_Core_modulus, cf_modulus _ _ _ _, _, _, rfl, rfl, rfl, ?_⟩
        refine q _ H2 ?_ (e1.trans e2)
        rw [decide_eq_true_iff]
        constructor
        · intro z
          injection z with z
          exact ⟨L', rfl, so, by omega⟩
        · rintro ⟨M, z, _, z2⟩
          injection z with z
          obtain rfl := pairsD_inj z
          rw [z2]
          congr 1
          omega
end
end K75

set_option Elab.async false
set_option linter.all false
set_option maxRecDepth 100000
set_option maxHeartbeats 4000000
namespace K75
open PySem PySem.Spec PyProof.Rows L2 Bk Evl
section
variable {P : Program} {w : World} {K : PySem.W.Frag} {mg : Str → Option Value} {base : Heap}
/-- a new Core's promise, told from the heap ahead of it -/
theorem core_made {H : Hp} {r n x dx : Addr} {a b c : Nat} {l : Prs} {v : V} {Q : Hp → Prop} (R : RuleAt K H r a b c) (ok : okRule a b c) (N : NumAt K H n l v) (fo : FacOk l) (hx : H x = none) (hdx : H dx = none) (ndx : dx ≠ x) (q : ∀ L H', CoreAt K H' x r a b c l L → Ext H H' → Q H') :
    spCoreInit K [.ref x, .ref r, .ref n] (upd (upd H dx (.own x)) x (.ins (CC K) dx [])) (fun v H2 => v = .non ∧ Q H2) E0 := by
  have e1 : Ext H (upd (upd H dx (.own x)) x (.ins (CC K) dx [])) := fun y o e => by
    rw [upd_ne (ne_of_none e hx), upd_ne (ne_of_none e hdx)]
    exact e
  have nrx : r ≠ x := fun z => by obtain ⟨d1, m1, h1, _⟩ := R.ex; rw [z, hx] at h1; cases h1
  have nnx : n ≠ x := fun z => by obtain ⟨d1, t1, h1, _⟩ := N.ex; rw [z, hx] at h1; cases h1
  exact ⟨x, r, n, dx, a, b, c, l, v, rfl, upd_same, nrx, nnx, R.ext e1, ok, N.ext e1, fo, fun L H1 C b1 => ⟨rfl, q L H1 C fun y o e => b1 _ _ (e1 _ _ e) (ne_of_none e hx)⟩⟩
/-! ### are_failing, of any data -/
def spAreFailing (K : PySem.W.Frag) : Sp := fun vs H Q _ => ∃ (r n : Addr) (y : V) (d : PyData) (a b c : Nat) (l : Prs) (v : V), vs = [.ref r, .ref n, y] ∧ RuleAt K H r a b c ∧ okRule a b c ∧ NumAt K H n l v ∧ FacOk l ∧ Dp K H y d ∧ Small2 d ∧
  ∀ bb S H', SpansOf (clF l a) b c S → (bb = true ↔ RowsD (modF l a) [1 % modF l a] S d) → Ext H H' → Q (.bl bb) H'
theorem sc_are_failing : FnScope ["rule", "number", "value", "core"] ["rule", "number", "value"] (defScope s_are_failing) := ⟨rfl, rfl, rfl, by decide +kernel, rfl, by decide +kernel, by decide +kernel⟩
theorem ok_are_failing (T : Txt K mg) : Ok P w K mg base 7 (He.ga K "are_failing") ["rule", "number", "value"] (spAreFailing K) := by
  obtain ⟨fd_Core_init, F_Core_init, b_Core_init, k_Core_init, _⟩ := (ok_Core_init (P := P) (w := w) (base := base) T).ex
  obtain ⟨fd_are_rows, F_are_rows, b_are_rows, k_are_rows, _⟩ := (ok_are_rows (P := P) (w := w) (base := base) T).ex
  refine fd_ok T.f_are_failing sc_are_failing (fun vs H Q E h => ?_) (fun _ _ _ _ _ _ us hl => match us, hl with | [_, _, _], _ => rfl) (fun cdv A outer s H vs Q E hr h => ?_)
  · obtain ⟨r, n, y, d, a, b, c, l, v, rfl, _⟩ := h
    rfl
  · obtain ⟨r, n, y, d, a, b, c, l, v, rfl, R, ok, N, fo, hy, sm, q⟩ := h
    have nd := sc_are_failing.nd
    refine ⟨_, (pss_cons (ps_set (i := 3) nd rfl (Or.inl rfl) (pe_make T.mk_Core F_Core_init (hr.mono (by decide)) rfl T.g_Core b_Core_init .nil pass0 (pa_cons (pv 0) (pa_cons (pv 1) pa_nil)))) (pss_one (ps_ret (pe_call F_are_rows (hr.mono (by decide)) rfl T.g_are_rows k_are_rows b_are_rows .nil pass0 (pa_cons (pv 2) (pa_cons (pe_fld (pv 3) rfl) (pa_cons (pe_lst (pa_cons (pe_op op_mod (pe_callTy call_int1 rfl T.z_int (by decide +kernel) (pa_cons pe_int pa_nil)) (pe_fld (pv 3) rfl)) pa_nil)) (pa_cons (pe_fld (pv 3) rfl) pa_nil)))))))), ?_⟩
    obtain ⟨⟨a1, a2⟩, _⟩ := id ok
    obtain ⟨m1', m2', _, _⟩ := mul_le2 (shF_mul l a) (show 1 ≤ a by omega)
    rw [← modF_eq (l := l) (show 1 ≤ a by omega)] at m1' m2'
    refine ⟨_, rfl, _, rfl, ?_⟩
    intro x dx0 hx hdx ndx
    refine core_made R ok N fo hx hdx ndx fun S H1 C e1 => ?_
    clear hx hdx ndx
    obtain ⟨dx, t0, sl, hx, _, tri⟩ := C.ex
    have sok := (core_spans fo ok C.spans).ok
    have hS := C.spans
    generalize hm : modF l a = m at *
    refine ⟨_, rfl, _, rfl, x, CC K, dx, _, _, rfl, hx, T.c_Core, T.n_Core_modulus, cf_modulus _ _ _ _, .inl ⟨_, rfl, _, rfl, x, CC K, dx, _, _, rfl, hx, T.c_Core, T.n_Core_modulus, cf_modulus _ _ _ _, _, _, rfl, rfl, by omega, by show 1 ≤ sizeLine; decide, fun s1 hs1 => ?_⟩⟩
    have em : V.int ((1 : Int) % (m : Int)) = V.int ((1 % m : Nat) : Int) := by rw [Int.natCast_emod]; rfl
    have e2 := Ext.new hs1 (.lst [.int ((1 : Int) % (m : Int))])
    have k2 : SqL K (upd H1 s1 (.lst [.int ((1 : Int) % (m : Int))])) s1 (nv [1 % m]) := SqL.of (by rw [upd_same, em]; rfl)
    generalize upd H1 s1 (.lst [.int ((1 : Int) % (m : Int))]) = H2 at e2 k2 ⊢
    refine ⟨_, rfl, x, CC K, dx, _, _, rfl, e2 _ _ hx, T.c_Core, T.n_Core_spans, cf_spans _ _ _ _, ?_⟩
    exact ⟨y, d, m, s1, sl, [1 % m], S, rfl, Dp.ext (e1.trans e2) _ _ hy, sm, ⟨m1', by omega⟩, .inl k2, by show 1 ≤ 1000; decide, tri.ext e2, sok, fun bb H3 hb e3 => q bb S H3 hS hb ((e1.trans e2).trans e3)⟩
/-! ### accepts_number, of a right claim -/
def nword (go : Bool) : Str := if go = true then ("goes" : Str) else ("fails" : Str)
/-- what the paper of a number's claim is -/
def NumD (go : Bool) (m : Nat) (S : Sps3) (d : PyData) : Prop := if go = true then KeyOkD m S d else RowsD m [1 % m] S d
theorem nword_eq (go : Bool) : decide (V.str (nword go) = V.str ("goes" : Str)) = go := by
  cases go with
  | true => exact decide_eq_true rfl
  | false =>
    refine decide_eq_false fun z => ?_
    injection z with z
    exact absurd z (by decide +kernel)
def spAccNum (K : PySem.W.Frag) : Sp := fun vs H Q _ => ∃ (r cl : Addr) (y tx : V) (d : PyData) (a b c : Nat) (l : Prs) (go : Bool), vs = [.ref r, .ref cl, y] ∧ RuleAt K H r a b c ∧ okRule a b c ∧ SqT K H cl [.str (nword go), tx, .str (numT l)] ∧ FacOk l ∧ Dx K H y d ∧ (go = false → Dp K H y d ∧ Small2 d) ∧
  ∀ bb S H', SpansOf (clF l a) b c S → (bb = true ↔ NumD go (modF l a) S d) → Ext H H' → Q (.bl bb) H'
theorem sc_accepts_number : FnScope ["rule", "claim", "paper", "number"] ["rule", "claim", "paper"] (defScope s_accepts_number) := ⟨rfl, rfl, rfl, by decide +kernel, rfl, by decide +kernel, by decide +kernel⟩
theorem ok_accepts_number (T : Txt K mg) : Ok P w K mg base 8 (He.ga K "accepts_number") ["rule", "claim", "paper"] (spAccNum K) := by
  obtain ⟨fd_number_of, F_number_of, b_number_of, k_number_of, _⟩ := (ok_number_of (P := P) (w := w) (base := base) T).ex
  obtain ⟨fd_is_key, F_is_key, b_is_key, k_is_key, _⟩ := (ok_is_key (P := P) (w := w) (base := base) T).ex
  obtain ⟨fd_Core_init, F_Core_init, b_Core_init, k_Core_init, _⟩ := (ok_Core_init (P := P) (w := w) (base := base) T).ex
  obtain ⟨fd_are_failing, F_are_failing, b_are_failing, k_are_failing, _⟩ := (ok_are_failing (P := P) (w := w) (base := base) T).ex
  refine fd_ok T.f_accepts_number sc_accepts_number (fun vs H Q E h => ?_) (fun _ _ _ _ _ _ us hl => match us, hl with | [_, _, _], _ => rfl) (fun cdv A outer s H vs Q E hr h => ?_)
  · obtain ⟨r, cl, y, tx, d, a, b, c, l, go, rfl, _⟩ := h
    rfl
  · obtain ⟨r, cl, y, tx, d, a, b, c, l, go, rfl, R, ok, hc, fo, hy, hgo, q⟩ := h
    have nd := sc_accepts_number.nd
    refine ⟨_, (pss_cons (ps_set (i := 3) nd rfl (Or.inl rfl) (pe_call F_number_of (hr.mono (by decide)) rfl T.g_number_of k_number_of b_number_of .nil pass0 (pa_cons (pe_ix ix_tup (pv 1) pe_int (by intro _ _; rfl)) pa_nil))) (pss_cons (ps_if (pt_cmpR op_isN (pv 3) pe_non (nomark _)) (pss_one (ps_ret pe_bl)) pss_nil) (pss_one (ps_ret (pe_ifExp (pt_cmpR op_eq (pe_ix ix_tup (pv 1) pe_int (by intro _ _; rfl)) pe_str (nomark _)) (pe_call F_is_key (hr.mono (by decide)) rfl T.g_is_key k_is_key b_is_key .nil pass0 (pa_cons (pe_make T.mk_Core F_Core_init (hr.mono (by decide)) rfl T.g_Core b_Core_init .nil pass0 (pa_cons (pv 0) (pa_cons (pv 3) pa_nil))) (pa_cons (pv 2) pa_nil))) (pe_call F_are_failing (hr.mono (by decide)) rfl T.g_are_failing k_are_failing b_are_failing .nil pass0 (pa_cons (pv 0) (pa_cons (pv 3) (pa_cons (pv 2) pa_nil))))))))), ?_⟩
    refine ⟨_, rfl, cl, _, 2, _, rfl, rfl, hc, rfl, _, rfl, .inr ⟨l, rfl, fo, fun n v H1 N e1 => ?_⟩⟩
    refine ⟨_, rfl, rfl, _, rfl, ?_⟩
    rw [decide_eq_false (by intro z; cases z)]
    refine iteF ?_
    have hc1 := sqt_ext hc e1
    have R1 := R.ext e1
    refine ⟨_, rfl, cl, _, 0, _, rfl, rfl, hc1, rfl, rfl, _, rfl, ?_⟩
    rw [nword_eq]
    cases go with
    | true =>
      refine iteT ⟨_, rfl, _, rfl, ?_⟩
      intro x dx hx hdx ndx
      refine core_made R1 ok N fo hx hdx ndx fun S H2 C e2 => ?_
      clear hx hdx ndx
      refine ⟨_, rfl, ?_⟩
      exact ⟨x, r, y, d, a, b, c, l, S, rfl, C, fo, ok, hy.ext (e1.trans e2), fun bb H3 hb e3 => q bb S H3 C.spans hb ((e1.trans e2).trans e3)⟩
    | false =>
      obtain ⟨hd, sm⟩ := hgo rfl
      refine iteF ⟨_, rfl, _, rfl, _, rfl, ?_⟩
      exact ⟨r, n, y, d, a, b, c, l, v, rfl, R1, ok, N, fo, Dp.ext e1 _ _ hd, sm, fun bb S H3 hs hb e3 => q bb S H3 hs hb (e1.trans e3)⟩
end
end K75

set_option Elab.async false
set_option linter.all false
set_option maxRecDepth 100000
set_option maxHeartbeats 4000000
namespace K75
open PySem PySem.Spec PyProof.Rows L2 Bk Evl
/-- the papers of rules apart that are given here: a list, a pair, a triple -/
inductive Apt where
  | lst
  | two
  | tri (t : Option Prs) (d1 d2 : PyData)
def tvO : Option Prs → V
  | none => .non
  | some l => .str (numT l)
def AptAt (K : PySem.W.Frag) (H : Hp) (y : V) : Apt → Prop
  | .lst => ∃ p xs, y = .ref p ∧ SqL K H p xs
  | .two => ∃ p x0 x1, y = .ref p ∧ SqT K H p [x0, x1]
  | .tri t d1 d2 => ∃ p y1 y2, y = .ref p ∧ SqT K H p [tvO t, y1, y2] ∧ Dx K H y1 d1 ∧ Dp K H y2 d2 ∧ Small2 d2 ∧ ∀ l, t = some l → FacOk l
theorem AptAt.ext {K : PySem.W.Frag} {H H' : Hp} {y : V} {D : Apt} (h : AptAt K H y D) (k : Ext H H') : AptAt K H' y D := by
  cases D with
  | lst => obtain ⟨p, xs, h1, h2⟩ := h; exact ⟨p, xs, h1, sql_ext h2 k⟩
  | two => obtain ⟨p, x0, x1, h1, h2⟩ := h; exact ⟨p, x0, x1, h1, sqt_ext h2 k⟩
  | tri t d1 d2 => obtain ⟨p, y1, y2, h1, h2, h3, h4, h5, h6⟩ := h; exact ⟨p, y1, y2, h1, sqt_ext h2 k, h3.ext k, Dp.ext k _ _ h4, h5, h6⟩
/-- what makes such a value a paper -/
def AptD (a b c a2 b2 c2 : Nat) : Apt → Prop
  | .tri (some l) d1 d2 => a = a2 ∧ ∃ S1 S2, SpansOf (clF l a) b c S1 ∧ SpansOf (clF l a) b2 c2 S2 ∧ KeyOkD (modF l a) S1 d1 ∧ RowsD (modF l a) [1 % modF l a] S2 d2
  | _ => False
section
variable {P : Program} {w : World} {K : PySem.W.Frag} {mg : Str → Option Value} {base : Heap}
/-! ### accepts_apart -/
def spAccApt (K : PySem.W.Frag) : Sp := fun vs H Q _ => ∃ (cl : Addr) (y : V) (a b c a2 b2 c2 : Nat) (D : Apt), vs = [.ref cl, y] ∧ okRule a b c ∧ okRule a2 b2 c2 ∧ SqT K H cl [.str "apart", .str (ruleT a b c), .str (ruleT a2 b2 c2)] ∧ AptAt K H y D ∧
  ∀ bb H', (bb = true ↔ AptD a b c a2 b2 c2 D) → Ext H H' → Q (.bl bb) H'
theorem sc_accepts_apart : FnScope ["claim", "paper", "one", "other", "number"] ["claim", "paper"] (defScope s_accepts_apart) := ⟨rfl, rfl, rfl, by decide +kernel, rfl, by decide +kernel, by decide +kernel⟩
theorem ok_accepts_apart (T : Txt K mg) : Ok P w K mg base 8 (He.ga K "accepts_apart") ["claim", "paper"] (spAccApt K) := by
  obtain ⟨fd_rule_of, F_rule_of, b_rule_of, k_rule_of, _⟩ := (ok_rule_of (P := P) (w := w) (base := base) T).ex
  obtain ⟨fd_number_of, F_number_of, b_number_of, k_number_of, _⟩ := (ok_number_of (P := P) (w := w) (base := base) T).ex
  obtain ⟨fd_is_key, F_is_key, b_is_key, k_is_key, _⟩ := (ok_is_key (P := P) (w := w) (base := base) T).ex
  obtain ⟨fd_Core_init, F_Core_init, b_Core_init, k_Core_init, _⟩ := (ok_Core_init (P := P) (w := w) (base := base) T).ex
  obtain ⟨fd_are_failing, F_are_failing, b_are_failing, k_are_failing, _⟩ := (ok_are_failing (P := P) (w := w) (base := base) T).ex
  refine fd_ok T.f_accepts_apart sc_accepts_apart (fun vs H Q E h => ?_) (fun _ _ _ _ _ _ us hl => match us, hl with | [_, _], _ => rfl) (fun cdv A outer s H vs Q E hr h => ?_)
  · obtain ⟨cl, y, a, b, c, a2, b2, c2, D, rfl, _⟩ := h
    rfl
  · obtain ⟨cl, y, a, b, c, a2, b2, c2, D, rfl, ok, ok2, hc, hy, q⟩ := h
    have nd := sc_accepts_apart.nd
    refine ⟨_, (pss_cons (ps_par (i := 2) (j := 3) rfl nd rfl rfl (by decide) rfl rfl (pa_cons (pe_call F_rule_of (hr.mono (by decide)) rfl T.g_rule_of k_rule_of b_rule_of .nil pass0 (pa_cons (pe_ix ix_tup (pv 0) pe_int (by intro _ _; rfl)) pa_nil)) (pa_cons (pe_call F_rule_of (hr.mono (by decide)) rfl T.g_rule_of k_rule_of b_rule_of .nil pass0 (pa_cons (pe_ix ix_tup (pv 0) pe_int (by intro _ _; rfl)) pa_nil)) pa_nil)) (by rfl)) (pss_cons (ps_if (PW.pt (pw_or (pt_cmpR op_isN (pv 2) pe_non (nomark _)) (pw_or (pt_cmpR op_isN (pv 3) pe_non (nomark _)) (pw_or (pt_cmpR op_ne (pe_fld (pv 2) rfl) (pe_fld (pv 3) rfl) (nomark _)) (pw_or (pt_not (pt_val (pe_callB call_isi rfl T.z_isinstance (by decide +kernel) (pa_cons (pv 1) (pa_cons (pe_bltn rfl T.z_tuple (by decide +kernel) (v := .ty "tuple") rfl) pa_nil))))) (pw_or1 (pt_cmpR op_ne (pe_callB call_len_seq rfl T.z_len (by decide +kernel) (pa_cons (pv 1) pa_nil)) pe_int (nomark _)))))))) (pss_one (ps_ret pe_bl)) pss_nil) (pss_cons (ps_set (i := 4) nd rfl (Or.inl rfl) (pe_call F_number_of (hr.mono (by decide)) rfl T.g_number_of k_number_of b_number_of .nil pass0 (pa_cons (pe_ix ix_tup (pv 1) pe_int (by intro _ _; rfl)) pa_nil))) (pss_cons (ps_if (PW.pt (pw_or (pt_cmpR op_isN (pv 4) pe_non (nomark _)) (pw_or1 (pt_not (pt_val (pe_call F_is_key (hr.mono (by decide)) rfl T.g_is_key k_is_key b_is_key .nil pass0 (pa_cons (pe_make T.mk_Core F_Core_init (hr.mono (by decide)) rfl T.g_Core b_Core_init .nil pass0 (pa_cons (pv 2) (pa_cons (pv 4) pa_nil))) (pa_cons (pe_ix ix_tup (pv 1) pe_int (by intro _ _; rfl)) pa_nil)))))))) (pss_one (ps_ret pe_bl)) pss_nil) (pss_one (ps_ret (pe_call F_are_failing (hr.mono (by decide)) rfl T.g_are_failing k_are_failing b_are_failing .nil pass0 (pa_cons (pv 3) (pa_cons (pv 4) (pa_cons (pe_ix ix_tup (pv 1) pe_int (by intro _ _; rfl)) pa_nil)))))))))), ?_⟩
    refine ⟨_, rfl, cl, _, 1, _, rfl, rfl, hc, rfl, a, b, c, rfl, ok, fun r H1 Ru e1 => ?_⟩
    refine ⟨_, rfl, cl, _, 2, _, rfl, rfl, sqt_ext hc e1, rfl, a2, b2, c2, rfl, ok2, fun r2 H2 Ru2 e2 => ⟨_, _, rfl, ?_⟩⟩
    have Ru1 := Ru.ext e2
    have hy2 := hy.ext (e1.trans e2)
    have e02 := e1.trans e2
    clear hc hy Ru
    refine ⟨_, rfl, rfl, _, rfl, ?_⟩
    rw [decide_eq_false (by intro z; cases z)]
    refine iteF ⟨_, rfl, rfl, _, rfl, ?_⟩
    rw [decide_eq_false (by intro z; cases z)]
    obtain ⟨dr, mr, hr1, _⟩ := id Ru1.ex
    obtain ⟨dr2, mr2, hr2, _⟩ := id Ru2.ex
    refine iteF ⟨_, rfl, r, CR K, dr, _, _, rfl, hr1, T.c_Rule, T.n_Rule_parts, rf4_parts _ _ _ _, _, rfl, r2, CR K, dr2, _, _, rfl, hr2, T.c_Rule, T.n_Rule_parts, rf4_parts _ _ _ _, rfl, _, rfl, ?_⟩
    show if (!decide (V.int (a : Int) = V.int (a2 : Int))) = true then _ else _
    by_cases ha : a = a2
    rotate_left
    · rw [decide_eq_false fun z => ha (by injection z with z; omega)]
      refine iteT (q false H2 (Iff.intro (fun z => by cases z) fun z => ?_) e02)
      cases D with
      | lst => exact z.elim
      | two => exact z.elim
      | tri t d1 d2 => cases t with
        | none => exact z.elim
        | some l => exact absurd z.1 ha
    subst ha
    rw [decide_eq_true rfl]
    refine iteF ?_
    cases D with
    | lst =>
      obtain ⟨p, xs, rfl, hp⟩ := hy2
      exact ⟨_, rfl, _, _, _, _, false, rfl, .ty _, tyx_lst hp, by rfl, false, rfl, iteT (q false H2 (Iff.intro (fun z => by cases z) fun z => z.elim) e02)⟩
    | two =>
      obtain ⟨p, x0, x1, rfl, hp⟩ := hy2
      refine ⟨_, rfl, _, _, _, _, true, rfl, .ty _, tyx_tup hp, kit_tt, true, rfl, iteF ⟨_, rfl, p, _, rfl, .inr hp, rfl, _, rfl, ?_⟩⟩
      show if (!decide (V.int 2 = V.int 3)) = true then _ else _
      rw [decide_eq_false (by intro z; injection z with z; omega)]
      exact iteT (q false H2 (Iff.intro (fun z => by cases z) fun z => z.elim) e02)
    | tri t d1 d2 =>
      obtain ⟨p, y1, y2, rfl, hp, h1, h2, sm, hfo⟩ := hy2
      refine ⟨_, rfl, _, _, _, _, true, rfl, .ty _, tyx_tup hp, kit_tt, true, rfl, iteF ⟨_, rfl, p, _, rfl, .inr hp, rfl, _, rfl, ?_⟩⟩
      show if (!decide (V.int 3 = V.int 3)) = true then _ else _
      rw [decide_eq_true rfl]
      refine iteF ⟨_, rfl, p, _, 0, _, rfl, rfl, hp, rfl, _, rfl, ?_⟩
      cases t with
      | none =>
        refine .inl ⟨rfl, _, rfl, rfl, _, rfl, ?_⟩
        rw [decide_eq_true rfl]
        exact iteT (q false H2 (Iff.intro (fun z => by cases z) fun z => z.elim) e02)
      | some l =>
        have fo := hfo l rfl
        refine .inr ⟨l, rfl, fo, fun n v H3 N e3 => ⟨_, rfl, rfl, _, rfl, ?_⟩⟩
        rw [decide_eq_false (by intro z; cases z)]
        refine iteF ⟨_, rfl, _, rfl, ?_⟩
        intro x dx hx hdx ndx
        refine core_made (Ru1.ext e3) ok N fo hx hdx ndx fun S H4 C e4 => ?_
        clear hx hdx ndx
        have e34 := e3.trans e4
        refine ⟨_, rfl, p, _, 1, _, rfl, rfl, sqt_ext hp e34, rfl, x, r, y1, d1, a, b, c, l, S, rfl, C, fo, ok, h1.ext e34, fun bb H5 hb e5 => ⟨_, rfl, ?_⟩⟩
        have hS := C.spans
        have e35 := e34.trans e5
        cases bb with
        | false =>
          refine iteT (q false H5 (Iff.intro (fun z => by cases z) fun z => ?_) (e02.trans e35))
          obtain ⟨_, S1, S2, z1, _, z3, _⟩ := z
          rw [z1.eq hS] at z3
          exact hb.mpr z3
        | true =>
          refine iteF ⟨_, rfl, _, rfl, _, rfl, p, _, 2, _, rfl, rfl, sqt_ext hp e35, rfl, r2, n, y2, d2, a, b2, c2, l, v, rfl, Ru2.ext e35, ok2, N.ext (e4.trans e5), fo, Dp.ext e35 _ _ h2, sm, fun bb2 S2 H6 hs2 hb2 e6 => q bb2 H6 ?_ (e02.trans (e35.trans e6))⟩
          rw [hb2]
          constructor
          · exact fun z => ⟨rfl, S, S2, hS, hs2, hb.mp rfl, z⟩
          · rintro ⟨_, S1, S3, _, z2, _, z4⟩
            rw [z2.eq hs2] at z4
            exact z4
theorem lengths_val (T : Txt K mg) {x : Str} {v : He.Dv} (h : (x, v) ∈ ([("goes", .int (3)), ("fails", .int (3)), ("pattern goes", .int (4)), ("pattern fails", .int (4)), ("bars", .int (4)), ("always", .int (4)), ("not always", .int (4)), ("apart", .int (3))] : List (Str × He.Dv))) : KVal K (He.ga K "LENGTHS") x (some (v.v K)) := by
  obtain ⟨u, h1, h2⟩ := He.valsB_ok T.x_vals_LENGTHS h
  exact ⟨_, h1, .inr ⟨u, _, rfl, rfl, h2⟩⟩
/-! ### accepts, of a right claim about two rules -/
/-- a right claim, and a value for a paper, which is one just if G -/
def ClaimAt (K : PySem.W.Frag) (w : World) (H : Hp) (x y : V) (G : Prop) : Prop := TabT K w ∧ ∃ (cl : Addr) (a b c a2 b2 c2 : Nat) (D : Apt), x = .ref cl ∧ okRule a b c ∧ okRule a2 b2 c2 ∧ SqT K H cl [.str "apart", .str (ruleT a b c), .str (ruleT a2 b2 c2)] ∧ AptAt K H y D ∧ (G ↔ AptD a b c a2 b2 c2 D)
theorem ClaimAt.ext {H H' : Hp} {x y : V} {G : Prop} (h : ClaimAt K w H x y G) (k : Ext H H') : ClaimAt K w H' x y G := by
  obtain ⟨tw, cl, a, b, c, a2, b2, c2, D, h1, h2, h3, h4, h5, h6⟩ := h
  exact ⟨tw, cl, a, b, c, a2, b2, c2, D, h1, h2, h3, sqt_ext h4 k, h5.ext k, h6⟩
def spAccepts (K : PySem.W.Frag) (w : World) : Sp := fun vs H Q _ => ∃ (x y : V) (G : Prop), vs = [x, y] ∧ ClaimAt K w H x y G ∧ ∀ bb H', (bb = true ↔ G) → Ext H H' → Q (.bl bb) H'
theorem sc_accepts : FnScope ["claim", "paper", "rule"] ["claim", "paper"] (defScope s_accepts) := ⟨rfl, rfl, rfl, by decide +kernel, rfl, by decide +kernel, by decide +kernel⟩
theorem ok_accepts_k (T : Txt K mg) : OkK P w K mg base 9 (He.ga K "accepts") ["claim", "paper"] ["paper", "claim"] swap2 (spAccepts K w) := by
  obtain ⟨fd_accepts_apart, F_accepts_apart, b_accepts_apart, k_accepts_apart, _⟩ := (ok_accepts_apart (P := P) (w := w) (base := base) T).ex
  obtain ⟨fd_rule_of, F_rule_of, b_rule_of, k_rule_of, _⟩ := (ok_rule_of (P := P) (w := w) (base := base) T).ex
  refine fd_okK T.f_accepts sc_accepts (fun vs H Q E h => ?_) (fun _ _ _ _ _ _ us hl => match us, hl with | [_, _], _ => rfl) swap2_rel (fun _ _ _ _ _ _ us hl => match us, hl with | [_, _], _ => rfl) (fun cdv A outer s H vs Q E hr h => ?_)
  · obtain ⟨x, y, G, rfl, _⟩ := h
    rfl
  · obtain ⟨x, y, G, rfl, ⟨tw, cl, a, b, c, a2, b2, c2, D, rfl, ok, ok2, hc, hy, hG⟩, q⟩ := h
    have nd := sc_accepts.nd
    refine ⟨_, (pss_cons (ps_if (PW.pt (pw_or (pt_not (pt_val (pe_callB call_isi rfl T.z_isinstance (by decide +kernel) (pa_cons (pv 0) (pa_cons (pe_bltn rfl T.z_tuple (by decide +kernel) (v := .ty "tuple") rfl) pa_nil))))) (pw_or (pt_cmpR op_eq (pe_callB call_len_seq rfl T.z_len (by decide +kernel) (pa_cons (pv 0) pa_nil)) pe_int (nomark _)) (pw_or1 (pt_not (pt_val (pe_callB call_isi rfl T.z_isinstance (by decide +kernel) (pa_cons (pe_ix ix_tup (pv 0) pe_int (by intro _ _; rfl)) (pa_cons (pe_bltn rfl T.z_str (by decide +kernel) (v := .ty "str") rfl) pa_nil))))))))) (pss_one (ps_ret pe_bl)) pss_nil) (pss_cons (ps_if (pt_cmpR op_ne (pe_dgetK (pe_glob (v := .ref (He.ga K "LENGTHS")) rfl T.g_LENGTHS rfl) (pe_ix ix_tup (pv 0) pe_int (by intro _ _; rfl)) pe_int ⟨rfl, rfl, rfl, rfl⟩) (pe_callB call_len_seq rfl T.z_len (by decide +kernel) (pa_cons (pv 0) pa_nil)) (nomark _)) (pss_one (ps_ret pe_bl)) pss_nil) (pss_cons (ps_if (pt_cmpR op_eq (pe_ix ix_tup (pv 0) pe_int (by intro _ _; rfl)) pe_str (nomark _)) (pss_one (ps_ret (pe_call F_accepts_apart (hr.mono (by decide)) rfl T.g_accepts_apart k_accepts_apart b_accepts_apart .nil pass0 (pa_cons (pv 0) (pa_cons (pv 1) pa_nil))))) pss_nil) (pss_cons (ps_set (i := 2) nd rfl (Or.inl rfl) (pe_call F_rule_of (hr.mono (by decide)) rfl T.g_rule_of k_rule_of b_rule_of .nil pass0 (pa_cons (pe_ix ix_tup (pv 0) pe_int (by intro _ _; rfl)) pa_nil))) (pss_cons (ps_if (pt_cmpR op_isN (pv 2) pe_non (nomark _)) (pss_one (ps_ret pe_bl)) pss_nil) (pss_cons (ps_if (pt_cmpR op_in_seq (pe_ix ix_tup (pv 0) pe_int (by intro _ _; rfl)) (pe_tup (pa_cons pe_str (pa_cons pe_str pa_nil))) rfl) (pss_one ps_never) pss_nil) (pss_cons (ps_if (pt_cmpR op_in_seq (pe_ix ix_tup (pv 0) pe_int (by intro _ _; rfl)) (pe_tup (pa_cons pe_str (pa_cons pe_str pa_nil))) rfl) (pss_one ps_never) pss_nil) (pss_cons (ps_if (pt_cmpR op_eq (pe_ix ix_tup (pv 0) pe_int (by intro _ _; rfl)) pe_str (nomark _)) (pss_one ps_never) pss_nil) (pss_one ps_never))))))))), ?_⟩
    refine ⟨_, rfl, _, _, _, _, true, rfl, .ty _, tyx_tup hc, kit_tt, true, rfl, iteF ?_⟩
    refine ⟨_, rfl, cl, _, rfl, .inr hc, rfl, _, rfl, iteF ?_⟩
    refine ⟨_, rfl, cl, _, 0, _, rfl, rfl, hc, rfl, _, _, _, _, true, rfl, .ty _, .base (.str _), by rfl, true, rfl, iteF ?_⟩
    have hv : KVal K (He.ga K "LENGTHS") ("apart" : Str) (some (.int 3)) := lengths_val T (x := "apart") (v := .int 3) (by simp)
    refine ⟨_, rfl, tw.LENGTHS, _, rfl, cl, _, 0, _, rfl, rfl, hc, rfl, _, _, rfl, hv, _, rfl, cl, _, rfl, .inr hc, rfl, _, rfl, ?_⟩
    show if (!decide (V.int 3 = V.int 3)) = true then _ else _
    rw [decide_eq_true rfl]
    refine iteF ⟨_, rfl, cl, _, 0, _, rfl, rfl, hc, rfl, rfl, _, rfl, ?_⟩
    show if decide (V.str ("apart" : Str) = V.str ("apart" : Str)) = true then _ else _
    rw [decide_eq_true rfl]
    exact iteT ⟨_, rfl, _, rfl, cl, y, a, b, c, a2, b2, c2, D, rfl, ok, ok2, hc, hy, fun bb H4 hb e4 => q bb H4 (hb.trans hG.symm) e4⟩
theorem ok_accepts (T : Txt K mg) : Ok P w K mg base 9 (He.ga K "accepts") ["claim", "paper"] (spAccepts K w) := (ok_accepts_k T).ok
end
end K75

set_option Elab.async false
set_option linter.all false
set_option maxRecDepth 100000
set_option maxHeartbeats 4000000
namespace K75
open PySem PySem.Spec PyProof.Rows L2 Bk Evl
/-! ### the mill -/
def MillAt (H : Hp) (d : Addr) : Prop := ∃ m f : Int, H d = some (.lst [.int m, .int f]) ∧ (0 ≤ m ∧ m < 2147483159) ∧ 0 ≤ f
theorem MillAt.ext {H H' : Hp} {d : Addr} (M : MillAt H d) (k : Ext H H') : MillAt H' d := let ⟨m, f, h, r⟩ := M; ⟨m, f, k _ _ h, r⟩
theorem mill_ne {H : Hp} {d x : Addr} {o : HO} (M : MillAt H d) (h : H x = some o) (c : ∀ xs, o ≠ .lst xs) : x ≠ d := fun z => by
  obtain ⟨m, f, hd, _⟩ := M
  rw [z, hd] at h
  exact c _ (Option.some.inj h).symm
theorem mill_new {H : Hp} {d x : Addr} (M : MillAt H d) (h : H x = none) : x ≠ d := fun z => by
  obtain ⟨m, f, hd, _⟩ := M
  rw [z, hd] at h
  cases h
theorem divp_mid {i j : Int} (h0 : 0 < j) (h1 : j ≤ 10 ^ 30) : CDivP i j := by
  refine ⟨h0, ?_⟩
  have e : j.natAbs.log2 < 100 := PySem.Flt.log2_lt_of (by decide) (by
    have : (10 : Int) ^ 30 < 2 ^ 100 := by decide
    have : ((2 : Nat) ^ 100 : Int) = 2 ^ 100 := by norm_cast
    omega)
  show (decide ((if j == 0 then 0 else j.natAbs.log2 / 30 + 1) > 300) && _) = false
  rw [if_neg (by simpa using (show j ≠ 0 by omega)), decide_eq_false (by omega)]
  rfl
theorem own_bits {ns : List Int} {i : Nat} (hi : i < ns.length) (hb : ∀ i ∈ ns, Builtin.Int.intBits i ≤ 1048576) : ns[i].natAbs.log2 ≤ 1048576 := by
  have hb2 := hb _ (List.getElem_mem hi)
  unfold Builtin.Int.intBits at hb2
  split at hb2
  · rename_i z
    have : ns[i] = 0 := by simpa using z
    rw [this]
    decide
  · omega
section
variable {P : Program} {w : World} {K : PySem.W.Frag} {mg : Str → Option Value} {base : Heap}
def spMill (K : PySem.W.Frag) : Sp := fun vs H Q _ => ∃ (a : Addr) (ns : List Int) (t : Nat), vs = [.ref a, .int t] ∧ SqL K H a (ns.map V.int) ∧ ns.length ≤ 1000 ∧ (∀ i ∈ ns, Builtin.Int.intBits i ≤ 1048576) ∧ t ≤ 100 ∧
  ∀ p H', H p = none → MillAt H' p → Ext H H' → Q (.ref p) H'
theorem sc_ulaw_mill : FnScope ["_law_cells", "_law_turn", "_law_mixed", "_law_cell", "_law_own"] ["_law_cells", "_law_turn"] (defScope s_ulaw_mill) := ⟨rfl, rfl, rfl, by decide +kernel, rfl, by decide +kernel, by decide +kernel⟩
theorem ok_ulaw_mill (T : Txt K mg) : Ok P w K mg base 1 (He.ga K "_law_mill") ["_law_cells", "_law_turn"] (spMill K) := by
  refine fd_ok T.f_ulaw_mill sc_ulaw_mill (fun vs H Q E h => ?_) (fun _ _ _ _ _ _ us hl => match us, hl with | [_, _], _ => rfl) (fun cdv A outer s H vs Q E hr h => ?_)
  · obtain ⟨a, ns, t, rfl, _⟩ := h
    rfl
  · obtain ⟨a, ns, t, rfl, hs, hl, hb, ht, q⟩ := h
    have nd := sc_ulaw_mill.nd
    refine ⟨_, (pss_cons (ps_set (i := 2) nd rfl (Or.inl rfl) (pe_op op_add pe_int (pe_op op_mul pe_int (pv 1)))) (pss_cons (ps_for PassesOwn.never rfl (pi_list (pe_slice sl_list (pv 0) po_none (po_some pe_int))) (pg_name (i := 3) nd rfl (Or.inl rfl)) (pss_one (ps_set (i := 2) nd rfl (Or.inl rfl) (pe_op op_mod (pe_callTy call_int1 rfl T.z_int (by decide +kernel) (pa_cons (pe_op op_add (pe_op op_add (pe_op op_mul (pv 2) pe_int) (pv 3)) pe_int) pa_nil)) pe_int)))) (Evl.pss_cut (ps_set (i := 4) nd rfl (Or.inl rfl) (pe_ifExp (pt_cmpR op_lt (pv 1) (pe_callB call_len_seq rfl T.z_len (by decide +kernel) (pa_cons (pv 0) pa_nil)) (nomark _)) (pe_ix ix_list (pv 0) (pv 1) (by intro _ _; rfl)) pe_int)) (pss_one (ps_ret (pe_lst (pa_cons (pe_op op_mod (pe_callTy call_int1 rfl T.z_int (by decide +kernel) (pa_cons (pe_op op_add (pe_op op_mul (pv 2) pe_int) (pv 4)) pa_nil)) pe_int) (pa_cons (pe_ifExp (pt_cmpR op_ge (pe_callB call_abs rfl T.z_abs (by decide +kernel) (pa_cons (pv 4) pa_nil)) (pe_op op_pow pe_int pe_int) (nomark _)) (pe_callB call_abs rfl T.z_abs (by decide +kernel) (pa_cons (pv 4) pa_nil)) pe_int) pa_nil)))))))), ?_⟩
    have hz' : (ns.map V.int).length = ns.length := List.length_map _
    refine ⟨_, rfl, _, _, rfl, rfl, .inl ⟨by decide, by decide⟩, _, _, rfl, rfl, ?_⟩
    refine ⟨_, rfl, _, rfl, a, _, rfl, hs, fun p hp => ⟨p, rfl, ⟨_, SqL.of upd_same⟩, ?_⟩⟩
    have e1 := Ext.new hp (.lst (cutV (ns.map V.int) none (some 4)))
    have k1 : upd H p (.lst (cutV (ns.map V.int) none (some 4))) p = some (.lst (cutV (ns.map V.int) none (some 4))) := upd_same
    generalize upd H p (.lst (cutV (ns.map V.int) none (some 4))) = H1 at e1 k1 ⊢
    refine for_list (xs := cutV (ns.map V.int) none (some 4)) (fun i σ H' => ∃ (m : Int) (u : Option V), σ = [some (.ref a), some (.int t), some (.int m), u, none] ∧ H' = H1 ∧ (0 ≤ m ∧ m < 2147483159)) ⟨_, _, rfl, rfl, by omega, by omega⟩ ?_ ?_ ?_
    · rintro i σ H' _ ⟨m, u, rfl, rfl, _⟩
      exact SqL.of k1
    · rintro i x σ H' hx ⟨m, u, rfl, rfl, hm1, hm2⟩
      obtain ⟨c, _, rfl⟩ : ∃ c ∈ ns, V.int c = x := List.mem_map.mp (List.mem_of_mem_drop (List.mem_of_mem_take (List.mem_of_getElem? hx)))
      refine ⟨_, rfl, _, _, rfl, rfl, .inl ⟨by omega, by omega⟩, _, rfl, _, _, rfl, rfl, _, _, rfl, rfl, .inl ⟨_, rfl, _, _, rfl, rfl, (show (0 : Int) < 2147483159 by decide), ?_⟩⟩
      exact ⟨_, _, rfl, rfl, Int.emod_nonneg _ (by decide), Int.emod_lt_of_pos _ (by decide)⟩
    · rintro σ H' ⟨m, u, rfl, rfl, hm1, hm2⟩
      refine ⟨fun σ' H'' => ∃ (own : Int), σ' = [some (.ref a), some (.int t), some (.int m), u, some (.int own)] ∧ H'' = H' ∧ own.natAbs.log2 ≤ 1048576, ?_, ?_⟩
      · refine ⟨_, rfl, _, rfl, a, _, rfl, .inl (sql_ext hs e1), _, _, rfl, rfl, _, rfl, ?_⟩
        rw [hz']
        refine ite2 (fun hlt => ?_) (fun _ => ⟨0, rfl, rfl, by decide⟩)
        have hlt' : t < ns.length := by have := of_decide_eq_true hlt; omega
        exact ⟨_, rfl, _, rfl, a, _, t, .int ns[t], rfl, rfl, sql_ext hs e1, atI_nat (by rw [List.getElem?_map, List.getElem?_eq_getElem hlt']; rfl), ns[t], rfl, rfl, own_bits hlt' hb⟩
      · rintro σ' H'' ⟨own, rfl, rfl, ho⟩
        refine ⟨_, rfl, _, _, rfl, rfl, .inl ⟨by omega, by omega⟩, _, rfl, _, _, rfl, rfl, .inl ⟨_, rfl, _, _, rfl, rfl, (show (0 : Int) < 2147483159 by decide), ?_⟩⟩
        have b1 := Int.emod_nonneg (m * 71 + own) (show (2147483159 : Int) ≠ 0 by decide)
        have b2 := Int.emod_lt_of_pos (m * 71 + own) (show (0 : Int) < 2147483159 by decide)
        refine ⟨_, rfl, _, rfl, _, _, rfl, rfl, ⟨by decide, by decide, by decide⟩, _, _, rfl, rfl, _, rfl, ?_⟩
        have fin : ∀ f : Int, 0 ≤ f → 2 ≤ sizeLine ∧ ∀ d, H'' d = none → Q (.ref d) (upd H'' d (.lst [.int ((m * 71 + own) % 2147483159), .int f])) := fun f hf => by
          refine ⟨by decide, fun d hd => q d _ ?_ ⟨_, f, upd_same, ⟨b1, b2⟩, hf⟩ (e1.trans (Ext.new hd _))⟩
          cases z : H d with
          | none => rfl
          | some o => rw [e1 _ _ z] at hd; cases hd
        exact ite2 (fun _ => ⟨_, rfl, _, rfl, fin (if own < 0 then -own else own) (by split <;> omega)⟩) (fun _ => fin 0 (Int.le_refl 0))
def spGrain : Sp := fun vs H Q _ => ∃ (d : Addr) (n : Nat), vs = [.ref d, .int n] ∧ MillAt H d ∧ (1 ≤ n ∧ n ≤ 10 ^ 30) ∧ ∀ (k : Nat) H', k < n → MillAt H' d → But d H H' → Q (.int k) H'
theorem sc_ulaw_grain : FnScope ["_law_mill_here", "_law_amount", "_law_figure"] ["_law_mill_here", "_law_amount"] (defScope s_ulaw_grain) := ⟨rfl, rfl, rfl, by decide +kernel, rfl, by decide +kernel, by decide +kernel⟩
theorem ok_ulaw_grain (T : Txt K mg) : Ok P w K mg base 1 (He.ga K "_law_grain") ["_law_mill_here", "_law_amount"] spGrain := by
  refine fd_ok T.f_ulaw_grain sc_ulaw_grain (fun vs H Q E h => ?_) (fun _ _ _ _ _ _ us hl => match us, hl with | [_, _], _ => rfl) (fun cdv A outer s H vs Q E hr h => ?_)
  · obtain ⟨d, n, rfl, _⟩ := h
    rfl
  · obtain ⟨d, n, rfl, ⟨m, f, hd, ⟨m1, m2⟩, hf⟩, ⟨n1, n2⟩, q⟩ := h
    have nd := sc_ulaw_grain.nd
    refine ⟨_, (pss_cons (ps_if (pt_cmpR op_gt (pe_ix ix_list (pv 0) pe_int (by intro _ _; rfl)) pe_int (nomark _)) (pss_cons (ps_asg (pe_callB call_divmodW rfl T.z_divmod (by decide +kernel) (pa_cons (pe_ix ix_list (pv 0) pe_int (by intro _ _; rfl)) (pa_cons (pv 1) pa_nil))) (pg_tup rfl (pgs_cons (pg_sub (pv 0) pe_int set_list) (pgs_cons (pg_name (i := 2) nd rfl (Or.inl rfl)) pgs_nil)))) (pss_one (ps_ret (pv 2)))) pss_nil) (pss_cons (ps_asg (pe_op op_mod (pe_callTy call_int1 rfl T.z_int (by decide +kernel) (pa_cons (pe_op op_add (pe_op op_mul (pe_ix ix_list (pv 0) pe_int (by intro _ _; rfl)) pe_int) pe_int) pa_nil)) pe_int) (pg_sub (pv 0) pe_int set_list)) (pss_one (ps_ret (pe_op op_mod (pe_callTy call_int1 rfl T.z_int (by decide +kernel) (pa_cons (pe_op op_fdiv (pe_ix ix_list (pv 0) pe_int (by intro _ _; rfl)) pe_int) pa_nil)) (pv 1)))))), ?_⟩
    refine ⟨_, rfl, d, _, 1, _, rfl, rfl, SqL.of hd, rfl, _, _, rfl, rfl, _, rfl, ?_⟩
    refine ite2 (fun hb => ?_) (fun hb => ?_)
    · have hf0 : 0 < f := of_decide_eq_true hb
      have n30 : (n : Int) ≤ 10 ^ 30 := by exact_mod_cast n2
      refine ⟨_, rfl, d, _, 1, _, rfl, rfl, SqL.of hd, rfl, _, rfl, f, n, rfl, divp_mid (by omega) n30, fun p hp => ?_⟩
      have npd : d ≠ p := ne_of_none hd hp
      refine ⟨p, _, rfl, SqT.of upd_same, rfl, _, _, rfl, ?_⟩
      refine ⟨_, rfl, d, _, 1, 1, rfl, rfl, by rw [upd_ne npd]; exact hd, rfl, ?_⟩
      refine ⟨_, _, rfl, rfl, _, rfl, ?_⟩
      have e0 := Int.emod_nonneg f (show (n : Int) ≠ 0 by omega)
      have e3 := Int.emod_lt_of_pos f (show (0 : Int) < (n : Int) by omega)
      have e1 : f % (n : Int) = (((f % (n : Int)).toNat : Nat) : Int) := by omega
      show Q (.int (f % (n : Int))) _
      rw [e1]
      refine q _ _ (by omega) ⟨m, f / n, upd_same, ⟨m1, m2⟩, Int.ediv_nonneg hf (by omega)⟩ fun x o e ne => ?_
      rw [upd_ne ne, upd_ne (ne_of_none e hp)]
      exact e
    · refine ⟨_, rfl, d, _, 0, _, rfl, rfl, SqL.of hd, rfl, _, _, rfl, rfl, .inl ⟨by omega, by omega⟩, _, _, rfl, rfl, .inl ⟨_, rfl, _, _, rfl, rfl, (show (0 : Int) < 2147483159 by decide), ?_⟩⟩
      have b1 := Int.emod_nonneg (m * 46457 + 4271) (show (2147483159 : Int) ≠ 0 by decide)
      have b2 := Int.emod_lt_of_pos (m * 46457 + 4271) (show (0 : Int) < 2147483159 by decide)
      refine ⟨_, rfl, d, _, 0, 0, rfl, rfl, hd, rfl, ?_⟩
      refine ⟨_, rfl, d, _, 0, _, rfl, rfl, SqL.of upd_same, rfl, _, _, rfl, rfl, ⟨by decide, by decide⟩, .inl ⟨_, rfl, _, rfl, _, _, rfl, rfl, by omega, ?_⟩⟩
      have e0 := Int.emod_nonneg (((m * 46457 + 4271) % 2147483159) / 256) (show (n : Int) ≠ 0 by omega)
      have e3 := Int.emod_lt_of_pos (((m * 46457 + 4271) % 2147483159) / 256) (show (0 : Int) < (n : Int) by omega)
      have e1 : ((m * 46457 + 4271) % 2147483159) / 256 % (n : Int) = (((((m * 46457 + 4271) % 2147483159) / 256 % (n : Int)).toNat : Nat) : Int) := by omega
      show Q (.int (((m * 46457 + 4271) % 2147483159) / 256 % (n : Int))) _
      rw [e1]
      refine q _ _ (by omega) ⟨((m * 46457 + 4271) % 2147483159), f, upd_same, ⟨b1, b2⟩, hf⟩ fun x o e ne => ?_
      rw [upd_ne ne]
      exact e
/-! ### _law_measure, _law_spec, _law_made -/
theorem sc_ulaw_measure : FnScope ["_law_great_here", "_law_small"] ["_law_great_here", "_law_small"] (defScope s_ulaw_measure) := ⟨rfl, rfl, rfl, by decide +kernel, rfl, by decide +kernel, by decide +kernel⟩
theorem ok_ulaw_measure (T : Txt K mg) : Ok P w K mg base 1 (He.ga K "_law_measure") ["_law_great_here", "_law_small"] spGcd := by
  refine fd_ok T.f_ulaw_measure sc_ulaw_measure (fun vs H Q E h => ?_) (fun _ _ _ _ _ _ us hl => match us, hl with | [_, _], _ => rfl) (fun cdv A outer s H vs Q E hr h => ?_)
  · obtain ⟨i, j, rfl, _⟩ := h
    rfl
  · obtain ⟨i, j, rfl, q⟩ := h
    have nd := sc_ulaw_measure.nd
    refine ⟨_, (pss_cons (ps_while PassesOwn.never (pt_cmpR op_gt (pv 1) pe_int (nomark _)) (pss_one (ps_par (i := 0) (j := 1) rfl nd rfl rfl (by decide) rfl rfl (pa_cons (pv 1) (pa_cons (pe_op op_mod (pe_callTy call_int1 rfl T.z_int (by decide +kernel) (pa_cons (pv 0) pa_nil)) (pv 1)) pa_nil)) (by rfl)))) (pss_one (ps_ret (pv 0)))), ?_⟩
    refine ⟨fun m σ H' => ∃ a b : Nat, σ = [some (.int a), some (.int b)] ∧ H' = H ∧ Nat.gcd a b = Nat.gcd i j ∧ m = b, ⟨j, i, j, rfl, rfl, rfl, rfl⟩, ?_⟩
    rintro m σ H1 ⟨a, b, rfl, e1, hg, rfl⟩
    cases e1
    refine ⟨_, rfl, _, _, rfl, rfl, _, rfl, ?_⟩
    refine ite2 (fun hb => ?_) (fun hb => ?_)
    · have hb' : 0 < m := by have := of_decide_eq_true hb; omega
      refine ⟨fun σ H' => ∃ a' b' : Nat, σ = [some (.int a'), some (.int b')] ∧ H' = H ∧ Nat.gcd a' b' = Nat.gcd i j ∧ b' < m, fun σ' H' ⟨a', b', e1, e2, e3, e4⟩ => ⟨b', e4, a', b', e1, e2, e3, rfl⟩, ?_⟩
      refine ⟨_, rfl, _, rfl, .inl ⟨_, rfl, _, rfl, _, _, rfl, rfl, (by omega), ?_⟩⟩
      refine ⟨_, _, rfl, m, a % m, ?_, rfl, ?_, Nat.mod_lt _ hb'⟩
      · show [some (V.int m), some (V.int ((a : Int) % (m : Int)))] = _
        rw [show ((a : Int) % (m : Int)) = ((a % m : Nat) : Int) by omega]
      · rw [← hg, Nat.gcd_comm a m, Nat.gcd_rec m a, Nat.gcd_comm]
    · have hb' : m = 0 := by
        have : ¬ (0 : Int) < (m : Int) := fun z => hb (decide_eq_true z)
        omega
      subst hb'
      refine ⟨_, rfl, ?_⟩
      rw [Nat.gcd_zero_right] at hg
      subst hg
      exact q
/-- the shares of a rule with a -/
def fineL (a : Nat) : List Nat := ((List.range 12).filter fun k => decide (Nat.gcd a (k + 1) = 1)).map (· + 1)
theorem fineL_mem {a c : Nat} (h : c ∈ fineL a) : shareB a c = true := by
  unfold fineL at h
  obtain ⟨k, hk, rfl⟩ := List.mem_map.mp h
  obtain ⟨h1, h2⟩ := List.mem_filter.mp hk
  have h3 := List.mem_range.mp h1
  have h4 : Nat.gcd (k + 1) a = 1 := (Nat.gcd_comm _ _).trans (of_decide_eq_true h2)
  unfold shareB
  rw [decide_eq_true (by omega), decide_eq_true (by omega), decide_eq_true h4]
  rfl
theorem shareB_one (a : Nat) : shareB a 1 = true := by
  unfold shareB
  rw [decide_eq_true (Nat.gcd_one_left a)]
  rfl
theorem fineL_len (a : Nat) : 1 ≤ (fineL a).length ∧ (fineL a).length ≤ 12 := by
  unfold fineL
  rw [List.length_map]
  refine ⟨List.length_pos_of_mem (a := 0) (List.mem_filter.mpr ⟨by simp, by simp⟩), Nat.le_trans (List.length_filter_le _ _) (by simp)⟩
def spSpec : Sp := fun vs H Q _ => ∃ d : Addr, vs = [.ref d] ∧ MillAt H d ∧ ∀ (a b c : Nat) t H', okRule a b c → H' t = some (.tup [.int a, .int b, .int c]) → H t = none → MillAt H' d → But d H H' → Q (.ref t) H'
theorem sc_ulaw_spec : FnScope ["_law_mill_here", "_law_a", "_law_fine", "_law_k"] ["_law_mill_here"] (defScope s_ulaw_spec) := ⟨rfl, rfl, rfl, by decide +kernel, rfl, by decide +kernel, by decide +kernel⟩
theorem ok_ulaw_spec (T : Txt K mg) : Ok P w K mg base 2 (He.ga K "_law_spec") ["_law_mill_here"] spSpec := by
  obtain ⟨fd_ulaw_grain, F_ulaw_grain, b_ulaw_grain, k_ulaw_grain, _⟩ := (ok_ulaw_grain (P := P) (w := w) (base := base) T).ex
  obtain ⟨fd_ulaw_measure, F_ulaw_measure, b_ulaw_measure, k_ulaw_measure, _⟩ := (ok_ulaw_measure (P := P) (w := w) (base := base) T).ex
  refine fd_ok T.f_ulaw_spec sc_ulaw_spec (fun vs H Q E h => ?_) (fun _ _ _ _ _ _ us hl => match us, hl with | [_], _ => rfl) (fun cdv A outer s H vs Q E hr h => ?_)
  · obtain ⟨d, rfl, _⟩ := h
    rfl
  · obtain ⟨d, rfl, M, q⟩ := h
    have nd := sc_ulaw_spec.nd
    refine ⟨_, (pss_cons (ps_set (i := 1) nd rfl (Or.inr rfl) (pe_op op_add pe_int (pe_call F_ulaw_grain (hr.mono (by decide)) rfl T.g_ulaw_grain k_ulaw_grain b_ulaw_grain .nil pass0 (pa_cons (pv 0) (pa_cons pe_int pa_nil))))) (pss_cons (ps_setLc (i := 2) (own := [("_law_k", 3)]) (g := (gName 3)) rfl nd rfl rfl (sw_true rfl rfl rfl (by decide +kernel)) (pi_range2 rfl T.z_range (pa_cons pe_int (pa_cons pe_int pa_nil))) (blkOk_by (own := [("_law_k", 3)]) (N := ["_law_mill_here", "_law_a", "_law_fine", "_law_k"]) (sc := defScope s_ulaw_spec) (by decide +kernel)) (fun _ _ _ _ _ => (pg_name (i := 3) nd rfl (Or.inl rfl))) (fun _ _ _ _ _ => (pts_one (pt_cmpR op_eq (pe_call F_ulaw_measure (hr.mono (by decide)) rfl T.g_ulaw_measure k_ulaw_measure b_ulaw_measure .nil pass0 (pa_cons (pv 1) (pa_cons (pv 3) pa_nil))) pe_int (nomark _)))) (fun _ _ _ _ _ => (pv 3))) (pss_cons (ps_if (pt_cmpR op_eq (pe_call F_ulaw_grain (hr.mono (by decide)) rfl T.g_ulaw_grain k_ulaw_grain b_ulaw_grain .nil pass0 (pa_cons (pv 0) (pa_cons pe_int pa_nil))) pe_int (nomark _)) (pss_one (ps_ret (pe_tup (pa_cons (pv 1) (pa_cons pe_int (pa_cons pe_int pa_nil)))))) pss_nil) (pss_one (ps_ret (pe_tup (pa_cons (pv 1) (pa_cons (pe_ix ix_list (pv 2) (pe_call F_ulaw_grain (hr.mono (by decide)) rfl T.g_ulaw_grain k_ulaw_grain b_ulaw_grain .nil pass0 (pa_cons (pv 0) (pa_cons (pe_callB call_len_seq rfl T.z_len (by decide +kernel) (pa_cons (pv 2) pa_nil)) pa_nil))) (by intro _ _; rfl)) (pa_cons (pe_ix ix_list (pv 2) (pe_call F_ulaw_grain (hr.mono (by decide)) rfl T.g_ulaw_grain k_ulaw_grain b_ulaw_grain .nil pass0 (pa_cons (pv 0) (pa_cons (pe_callB call_len_seq rfl T.z_len (by decide +kernel) (pa_cons (pv 2) pa_nil)) pa_nil))) (by intro _ _; rfl)) pa_nil))))))))), ?_⟩
    refine ⟨_, rfl, d, 11, rfl, M, ⟨by decide, by decide⟩, fun k1 H1 hk1 M1 b1 => ⟨_, _, rfl, rfl, ?_⟩⟩
    have fr : ∀ {H2 : Hp} {x : Addr}, MillAt H2 d → But d H H2 → H2 x = none → H x = none := fun {H2 x} M2 b2 hx => by
      cases z : H x with
      | none => rfl
      | some o =>
        rw [b2 _ _ z (mill_new M2 hx)] at hx
        cases hx
    refine ⟨1, 13, rfl, ⟨by decide, by decide, by decide, by decide⟩, fun D hD => ?_⟩
    have ea : (2 : Int) + (k1 : Int) = ((2 + k1 : Nat) : Int) := by omega
    generalize hka : 2 + k1 = a at ea
    refine lc_range (lo := 1) (n := 12) (Cw H1 (fun k => decide (Nat.gcd a (k + 1) = 1)) (fun k => V.int (1 + (k : Int))) D) ⟨hD, Ex.new hD, upd_same⟩ (fun k H5 hk p => ?_) (fun H5 p => ?_)
    · refine ⟨rfl, cw_turn p (by omega) (fun H1 e Q q => ?_) (fun _ H1 e Q q => ⟨_, rfl, q H1 (Ex.refl H1)⟩)⟩
      refine ⟨_, rfl, _, rfl, a, k + 1, ?_, ⟨rfl, _, rfl, ?_⟩⟩
      · show [V.int ((2 : Int) + (k1 : Int)), V.int (1 + (k : Int))] = _
        rw [ea, show (1 + (k : Int)) = ((k + 1 : Nat) : Int) by omega]
      · rw [show decide (V.int ((Nat.gcd a (k + 1) : Nat) : Int) = V.int 1) = decide (Nat.gcd a (k + 1) = 1) from decide_eq_decide.mpr ⟨fun z => by injection z with z; omega, fun z => by rw [z]; rfl⟩]
        exact q H1 (Ex.refl H1)
    · obtain ⟨p1, p2, p3⟩ := p
      have e3 : H5 D = some (.lst (nv (fineL a))) := by
        rw [p3]
        unfold given fineL
        rw [nv_map]
        congr 2
        refine List.map_congr_left fun x _ => ?_
        show V.int (1 + (x : Int)) = V.int ((x + 1 : Nat) : Int)
        congr 1
        omega
      have M5 := M1.ext p2
      have b5 : But d H H5 := b1.trans ((show Ext H1 H5 from p2).but d)
      have nDd := mill_new M1 hD
      have a2 : 2 ≤ a ∧ a ≤ 12 := by omega
      obtain ⟨l1, l2⟩ := fineL_len a
      have hlv : (nv (fineL a)).length = (fineL a).length := List.length_map _
      refine ⟨_, rfl, d, 3, rfl, M5, ⟨by decide, by decide⟩, fun k6 H6 hk6 M6 b6 => ⟨rfl, _, rfl, ?_⟩⟩
      have e6 := b6 _ _ e3 nDd
      have b56 := b5.trans b6
      refine ite2 (fun _ => ?_) (fun _ => ?_)
      · refine ⟨_, rfl, by show 3 ≤ sizeLine; decide, fun t ht => ?_⟩
        refine q a 1 1 t _ ⟨a2, shareB_one a, shareB_one a⟩ (by rw [upd_same]; show some (HO.tup [V.int ((2 : Int) + (k1 : Int)), _, _]) = _; rw [ea]; rfl) (fr M6 b56 ht) (M6.ext (Ext.new ht _)) (b56.trans ((Ext.new ht _).but d))
      · have at_ : ∀ (k : Nat), k < (fineL a).length → ∃ c : Nat, (nv (fineL a))[k]? = some (V.int c) ∧ shareB a c = true := fun k hk => ⟨(fineL a)[k], by rw [List.getElem?_map, List.getElem?_eq_getElem hk]; rfl, fineL_mem (List.getElem_mem hk)⟩
        refine ⟨_, rfl, _, rfl, _, rfl, _, rfl, D, nv (fineL a), rfl, .inl (SqL.of e6), d, _, rfl, M6, ⟨by rw [hlv]; exact l1, by rw [hlv]; omega⟩, fun k7 H7 hk7 M7 b7 => ?_⟩
        obtain ⟨b, ab, sb⟩ := at_ k7 (by rwa [hlv] at hk7)
        have e7 := b7 _ _ e6 nDd
        refine ⟨D, _, k7, _, rfl, rfl, SqL.of e7, atI_nat ab, ?_⟩
        refine ⟨_, rfl, _, rfl, _, rfl, D, nv (fineL a), rfl, .inl (SqL.of e7), d, _, rfl, M7, ⟨by rw [hlv]; exact l1, by rw [hlv]; omega⟩, fun k8 H8 hk8 M8 b8 => ?_⟩
        obtain ⟨c, ac, sc⟩ := at_ k8 (by rwa [hlv] at hk8)
        have e8 := b8 _ _ e7 nDd
        refine ⟨D, _, k8, _, rfl, rfl, SqL.of e8, atI_nat ac, by show 3 ≤ sizeLine; decide, fun t ht => ?_⟩
        have b58 := (b56.trans b7).trans b8
        exact q a b c t _ ⟨a2, sb, sc⟩ (by rw [upd_same]; show some (HO.tup [V.int ((2 : Int) + (k1 : Int)), _, _]) = _; rw [ea]) (fr M8 b58 ht) (M8.ext (Ext.new ht _)) (b58.trans ((Ext.new ht _).but d))
end
end K75

set_option Elab.async false
set_option linter.all false
set_option maxRecDepth 100000
set_option maxHeartbeats 4000000
namespace K75
open PySem PySem.Spec PyProof.Rows L2 Bk Evl
theorem paired_app {α β : Type} {F : α → β → Prop} : ∀ {a c : List α} {b d : List β}, Paired F a b → Paired F c d → Paired F (a ++ c) (b ++ d)
  | _, _, _, _, .nil, h => h
  | _, _, _, _, .cons x t, h => .cons x (paired_app t h)
section
variable {P : Program} {w : World} {K : PySem.W.Frag} {mg : Str → Option Value} {base : Heap}
/-! ### _law_split -/
def spSplit (K : PySem.W.Frag) : Sp := fun vs H Q _ => ∃ n : Nat, vs = [.int n] ∧ (1 ≤ n ∧ n ≤ 1000000) ∧ ∀ t H', PairsAt K H' t (toI (facN n)) → H t = none → Ext H H' → Q (.ref t) H'
theorem takeOut_more : ∀ (f g v p : Nat), 1 ≤ v → 2 ≤ p → v < 2 ^ f → f ≤ g → takeOut g v p = takeOut f v p
  | 0, g, v, p, h1, _, h2, _ => by rw [Nat.pow_zero] at h2; omega
  | f + 1, g, v, p, h1, hp, h2, hg => by
    obtain ⟨g', rfl⟩ : ∃ g', g = g' + 1 := ⟨g - 1, by omega⟩
    by_cases h : v % p = 0
    · rw [takeOut_step _ _ _ h, takeOut_step _ _ _ h]
      have hd := Nat.div_add_mod v p
      rw [h, Nat.add_zero] at hd
      have pos : 1 ≤ v / p := by
        rcases Nat.eq_zero_or_pos (v / p) with z | z
        · rw [z, Nat.mul_zero] at hd; omega
        · exact z
      have lt : v / p < 2 ^ f := by
        rw [Nat.pow_succ] at h2
        have : 2 * (v / p) ≤ p * (v / p) := Nat.mul_le_mul_right _ hp
        omega
      rw [takeOut_more f g' (v / p) p pos hp lt (by omega)]
    · rw [takeOut_stop _ _ _ h, takeOut_stop _ _ _ h]
theorem sc_ulaw_split : FnScope ["_law_amount", "_law_found", "_law_left", "_law_k", "_law_many", "_law_turn"] ["_law_amount"] (defScope s_ulaw_split) := ⟨rfl, rfl, rfl, by decide +kernel, rfl, by decide +kernel, by decide +kernel⟩
theorem ok_ulaw_split (T : Txt K mg) : Ok P w K mg base 1 (He.ga K "_law_split") ["_law_amount"] (spSplit K) := by
  refine fd_ok T.f_ulaw_split sc_ulaw_split (fun vs H Q E h => ?_) (fun _ _ _ _ _ _ us hl => match us, hl with | [_], _ => rfl) (fun cdv A outer s H vs Q E hr h => ?_)
  · obtain ⟨n, rfl, _⟩ := h
    rfl
  · obtain ⟨n, rfl, ⟨n1, n2⟩, q⟩ := h
    have nd := sc_ulaw_split.nd
    refine ⟨_, (pss_cons (ps_par (i := 1) (j := 2) rfl nd rfl rfl (by decide) rfl rfl (pa_cons (pe_lst pa_nil) (pa_cons (pv 0) pa_nil)) (by rfl)) (Evl.pss_cut (ps_for PassesOwn.never rfl (pi_range2 rfl T.z_range (pa_cons pe_int (pa_cons (pe_op op_add (pv 0) pe_int) pa_nil))) (pg_name (i := 3) nd rfl (Or.inl rfl)) (pss_cons (ps_if (pt_cmpR op_gt (pe_op op_mul (pv 3) (pv 3)) (pv 2) (nomark _)) (pss_one ps_break) pss_nil) (pss_cons (ps_set (i := 4) nd rfl (Or.inl rfl) pe_int) (pss_cons (ps_for PassesOwn.never rfl (pi_range1 rfl T.z_range (pa_cons pe_int pa_nil)) (pg_name (i := 5) nd rfl (Or.inl rfl)) (pss_one (ps_if (pt_cmpR op_eq (pe_op op_mod (pe_callTy call_int1 rfl T.z_int (by decide +kernel) (pa_cons (pv 2) pa_nil)) (pv 3)) pe_int (nomark _)) (pss_one (ps_par (i := 2) (j := 4) rfl nd rfl rfl (by decide) rfl rfl (pa_cons (pe_op op_fdiv (pv 2) (pv 3)) (pa_cons (pe_op op_add (pv 4) pe_int) pa_nil)) (by rfl))) pss_nil))) (pss_one (ps_if (pt_cmpR op_gt (pv 4) pe_int (nomark _)) (pss_one (ps_expr (pe_bm PySem.F.plainAttrs_list PySem.F.slot_list_append PySem.F.type_list_append mt_append (pv 1) (pa_cons (pe_tup (pa_cons (pv 3) (pa_cons (pv 4) pa_nil))) pa_nil)))) pss_nil)))))) (pss_one (ps_ret (pe_tupleP rfl T.z_tuple (pe_op op_cat (pv 1) (pe_op op_rep (pe_lst (pa_cons (pe_tup (pa_cons (pv 2) (pa_cons pe_int pa_nil))) pa_nil)) (pe_callTy call_int1 rfl T.z_int (by decide +kernel) (pa_cons (pe_cmpR op_gt (pv 2) pe_int (nomark _)) pa_nil))))))))), ?_⟩
    refine ⟨by show 0 ≤ sizeLine; decide, fun fl hfl => ⟨_, rfl, _, _, rfl, ?_⟩⟩
    refine ⟨fun σ' H' => ∃ (v : Nat) (l : List (Nat × Nat)) (u3 u4 u5 : Option V), σ' = [some (.int n), some (.ref fl), some (.int v), u3, u4, u5] ∧ PList H' fl (toI l) ∧ Ext H H' ∧ l ++ (if 1 < v then [(v, 1)] else []) = facN n ∧ 1 ≤ v ∧ l.length ≤ 1000, ?_, ?_⟩
    · refine ⟨_, rfl, _, _, rfl, rfl, 2, (n : Int) + 1, rfl, ⟨by decide, by decide, by omega, by omega⟩, ?_⟩
      refine for_range (lo := 2) (n := ((n : Int) + 1 - 2).toNat) (fun i σ' H' => ∃ (v f : Nat) (l : List (Nat × Nat)) (u3 u4 u5 : Option V), σ' = [some (.int n), some (.ref fl), some (.int v), u3, u4, u5] ∧ PList H' fl (toI l) ∧ Ext H H' ∧ l ++ facGo f v (2 + i) = facN n ∧ (1 ≤ v ∧ v ≤ n) ∧ 1002 ≤ 2 + i + f ∧ l.length ≤ i ∧ i ≤ 1000)
        ⟨n, 1000, [], _, _, _, rfl, ⟨[], upd_same, .nil⟩, Ext.new hfl _, rfl, ⟨n1, Nat.le_refl n⟩, by omega, Nat.le_refl 0, by omega⟩ ?_ ?_
      · rintro i σ' H1 hi ⟨v, f, l, u3, u4, u5, rfl, hl, e1, hf, ⟨v1, v2⟩, hpf, hli, hi2⟩
        have ep : (2 : Int) + (i : Int) = ((2 + i : Nat) : Int) := by omega
        generalize hpp : 2 + i = p at ep hf hpf
        refine ⟨_, rfl, _, rfl, _, _, rfl, rfl, .inl ⟨by omega, by omega⟩, _, rfl, _, _, rfl, rfl, _, rfl, ?_⟩
        have epp : ((2 : Int) + (i : Int)) * ((2 : Int) + (i : Int)) = ((p * p : Nat) : Int) := by rw [ep]; exact (Int.natCast_mul p p).symm
        show if decide ((v : Int) < ((2 : Int) + (i : Int)) * ((2 : Int) + (i : Int))) = true then _ else _
        rw [epp]
        refine ite2 (fun hgt => ?_) (fun hgt => ?_)
        · have hgt' : ¬ p * p ≤ v := by have := of_decide_eq_true hgt; omega
          have fe : facGo f v p = if 1 < v then [(v, 1)] else [] := by
            cases f with
            | zero => rfl
            | succ k => exact if_neg hgt'
          rw [fe] at hf
          exact ⟨v, l, _, _, _, rfl, hl, e1, hf, v1, by omega⟩
        · have hle' : p * p ≤ v := Nat.not_lt.mp fun z => hgt (decide_eq_true (by omega))
          have hp3 : p ≤ 1000 := by
            refine Classical.byContradiction fun z => ?_
            have : 1001 * 1001 ≤ p * p := Nat.mul_le_mul (by omega) (by omega)
            omega
          obtain ⟨f', rfl⟩ : ∃ f', f = f' + 1 := ⟨f - 1, by omega⟩
          unfold facGo at hf
          rw [if_pos hle'] at hf
          have t20 : takeOut 40 v p = takeOut 20 v p := takeOut_more 20 40 v p v1 (by omega) (lt20 (by omega)) (by decide)
          refine ⟨40, rfl, by decide, by decide, ?_⟩
          refine for_range (lo := 0) (n := 40) (fun j σ2 H2 => ∃ (v' m' : Nat) (u : Option V), σ2 = [some (.int n), some (.ref fl), some (.int v'), some (.int ((2 : Int) + (i : Int))), some (.int m'), u] ∧ H2 = H1 ∧ (takeOut (40 - j) v' p).1 = (takeOut 40 v p).1 ∧ m' + (takeOut (40 - j) v' p).2 = (takeOut 40 v p).2)
            ⟨v, 0, _, rfl, rfl, rfl, Nat.zero_add _⟩ ?_ ?_
          · rintro j σ2 H2 hj ⟨v', m', u, rfl, rfl, t1, t2⟩
            obtain ⟨g, hg⟩ : ∃ g, 40 - j = g + 1 := ⟨39 - j, by omega⟩
            have hg2 : 40 - (j + 1) = g := by omega
            refine ⟨_, rfl, .inl ⟨_, rfl, _, rfl, _, _, rfl, rfl, by omega, rfl, _, rfl, ?_⟩⟩
            show if decide (V.int ((v' : Int) % ((2 : Int) + (i : Int))) = V.int 0) = true then _ else _
            rw [ep, dec_mod]
            refine ite2 (fun h0 => ?_) (fun h0 => ?_)
            · have h0' : v' % p = 0 := of_decide_eq_true h0
              rw [hg, takeOut_step _ _ _ h0'] at t1 t2
              refine ⟨_, rfl, _, rfl, _, _, rfl, rfl, ⟨by omega, by omega⟩, _, rfl, _, _, rfl, rfl, _, _, rfl, v' / p, m' + 1, some (.int (0 + (j : Int))), ?_, rfl, ?_, ?_⟩
              · show [some (V.int n), some (V.ref fl), some (V.int ((v' : Int) / (p : Int))), some (V.int (p : Int)), some (V.int ((m' : Int) + 1)), some (V.int (0 + (j : Int)))] = _
                rw [show ((v' : Int) / (p : Int)) = ((v' / p : Nat) : Int) from (Int.natCast_ediv v' p).symm]
                rfl
              · rw [hg2]; exact t1
              · rw [hg2]
                dsimp only at t2
                omega
            · have h0' : ¬ v' % p = 0 := fun z => h0 (decide_eq_true z)
              rw [hg, takeOut_stop _ _ _ h0'] at t1 t2
              refine ⟨v', m', _, rfl, rfl, ?_, ?_⟩
              · rw [hg2, takeOut_stop _ _ _ h0']; exact t1
              · rw [hg2, takeOut_stop _ _ _ h0']; exact t2
          · rintro σ2 H2 ⟨v', j, u, rfl, rfl, t1, t2⟩
            have t1 : v' = (takeOut 20 v p).1 := t20 ▸ t1
            have t2 : j = (takeOut 20 v p).2 := t20 ▸ t2
            have vpos := takeOut_pos 20 v p v1 (by omega)
            have vle := takeOut_le 20 v p
            rw [← t1] at vpos vle
            refine ⟨_, rfl, _, _, rfl, rfl, _, rfl, ?_⟩
            refine ite2 (fun hj => ?_) (fun hj => ?_)
            · have hj' : 0 < j := by have := of_decide_eq_true hj; omega
              rw [← t2, if_pos hj', ← t1] at hf
              obtain ⟨ps, g1, g2⟩ := id hl
              refine ⟨_, rfl, .inl ⟨rfl, _, SqL.of g1⟩, _, rfl, _, rfl, by show 2 ≤ sizeLine; decide, fun tp htp => ?_⟩
              obtain ⟨g3, g4⟩ := hl.snoc (a := (2 : Int) + (i : Int)) (b := j) htp _ g1
              have nft : fl ≠ tp := ne_of_none g1 htp
              refine ⟨fl, _, _, rfl, rfl, by rw [upd_ne nft]; exact g1, ?_, ?_⟩
              · rw [g3]
                unfold toI
                rw [List.length_map]
                exact small_lt (by omega)
              · refine ⟨v', f', l ++ [(p, j)], _, _, _, rfl, ?_, ?_, by rw [List.append_assoc, show 2 + (i + 1) = p + 1 by omega]; exact hf, ⟨vpos, by omega⟩, by omega, by rw [List.length_append, List.length_singleton]; omega, by omega⟩
                · have : toI (l ++ [(p, j)]) = toI l ++ [((2 : Int) + (i : Int), (j : Int))] := by unfold toI; rw [List.map_append, ep]; rfl
                  rw [this]
                  exact g4
                · intro x o e
                  rw [upd_ne (ne_of_none e hfl), upd_ne (ne_of_none (e1 x o e) htp)]
                  exact e1 x o e
            · have hj' : ¬ 0 < j := fun z => hj (decide_eq_true (by omega))
              rw [← t2, if_neg hj', ← t1] at hf
              exact ⟨v', f', l, _, _, _, rfl, hl, e1, by rw [show 2 + (i + 1) = p + 1 by omega]; exact hf, ⟨vpos, by omega⟩, by omega, by omega, by omega⟩
      · rintro σ' H1 ⟨v, f, l, u3, u4, u5, rfl, hl, e1, hf, ⟨v1, v2⟩, hpf, hli, hi2⟩
        have ei : ((n : Int) + 1 - 2).toNat = n - 1 := by omega
        rw [ei] at hf hli hi2 hpf
        have hgt' : ¬ (2 + (n - 1)) * (2 + (n - 1)) ≤ v := fun z => by
          have : (n + 1) * (n + 1) ≤ v := by rwa [show 2 + (n - 1) = n + 1 by omega] at z
          have : (n + 1) * 1 ≤ (n + 1) * (n + 1) := Nat.mul_le_mul_left _ (by omega)
          omega
        have fe : facGo f v (2 + (n - 1)) = if 1 < v then [(v, 1)] else [] := by
          cases f with
          | zero => rfl
          | succ k => exact if_neg hgt'
        rw [fe] at hf
        exact ⟨v, l, _, _, _, rfl, hl, e1, hf, v1, by omega⟩
    · rintro σ' H1 ⟨v, l, u3, u4, u5, rfl, hl, e1, hf, v1, hll⟩
      obtain ⟨ps, g1, g2⟩ := id hl
      refine ⟨_, rfl, _, rfl, by show 2 ≤ sizeLine; decide, fun tp htp => ⟨by show 1 ≤ sizeLine; decide, fun pl hpl => ?_⟩⟩
      have nft : fl ≠ tp := ne_of_none g1 htp
      have nfp : fl ≠ pl := ne_of_none (show upd H1 tp (.tup [.int v, .int 1]) fl = _ by rw [upd_ne nft]; exact g1) hpl
      have ntp : tp ≠ pl := fun z => by rw [← z, upd_same] at hpl; cases hpl
      have e2 := (e1.trans (Ext.new htp (.tup [.int v, .int 1]))).trans (Ext.new hpl (.lst [.ref tp]))
      have g1' : upd (upd H1 tp (.tup [.int v, .int 1])) pl (.lst [.ref tp]) fl = some (.lst (ps.map V.ref)) := by rw [upd_ne nfp, upd_ne nft]; exact g1
      have htp' : upd (upd H1 tp (.tup [.int v, .int 1])) pl (.lst [.ref tp]) tp = some (.tup [.int v, .int 1]) := by rw [upd_ne ntp, upd_same]
      have hpl' : upd (upd H1 tp (.tup [.int v, .int 1])) pl (.lst [.ref tp]) pl = some (.lst [.ref tp]) := upd_same
      have g2' : Paired (fun p (q : Int × Int) => upd (upd H1 tp (.tup [.int v, .int 1])) pl (.lst [.ref tp]) p = some (.tup [.int q.1, .int q.2])) ps (toI l) := L2.Paired.mapP g2 fun c q w => (Ext.new hpl _) _ _ ((Ext.new htp _) _ _ w)
      generalize upd (upd H1 tp (.tup [.int v, .int 1])) pl (.lst [.ref tp]) = H2 at e2 g1' htp' hpl' g2' ⊢
      have lps : ps.length = l.length := by rw [g2.length]; unfold toI; rw [List.length_map]
      refine ⟨_, rfl, _, _, rfl, rfl, .inr ⟨_, rfl, ?_⟩⟩
      have fin2 : ∀ (L : List (Nat × Nat)) (qs : List Addr) (r : Addr), L.length ≤ 1 → Paired (fun p (q : Int × Int) => H2 p = some (.tup [.int q.1, .int q.2])) qs (toI L) → l ++ L = facN n → H2 r = none →
          (∃ l b xs zs, V.ref fl = .ref l ∧ V.ref r = .ref b ∧ upd H2 r (.lst (qs.map V.ref)) l = some (.lst xs) ∧ upd H2 r (.lst (qs.map V.ref)) b = some (.lst zs) ∧ xs.length + zs.length ≤ sizeLine ∧ ∀ p, upd H2 r (.lst (qs.map V.ref)) p = none → kTupP K (.ref p) (upd (upd H2 r (.lst (qs.map V.ref))) p (.lst (xs ++ zs))) fun v H' => Q v H') := fun L qs r hL hq hf hr => by
        have nfr : fl ≠ r := ne_of_none g1' hr
        have lq : qs.length ≤ 1 := by rw [hq.length]; unfold toI; rw [List.length_map]; exact hL
        refine ⟨fl, r, ps.map V.ref, qs.map V.ref, rfl, rfl, by rw [upd_ne nfr]; exact g1', upd_same, by rw [List.length_map, List.length_map]; exact Nat.le_trans (show ps.length + qs.length ≤ 1001 by omega) (by decide), fun r2 hr2 => ⟨r2, _, rfl, SqL.of upd_same, fun t o ht oc od => ?_⟩⟩
        have e3 := e2.trans (Ext.new hr (.lst (qs.map V.ref)))
        have e4 := (e3.trans (Ext.new hr2 (.lst (ps.map V.ref ++ qs.map V.ref)))).trans (Ext.new ht (.frz o (.tup (ps.map V.ref ++ qs.map V.ref))))
        refine q t _ ⟨ps ++ qs, ?_, ?_⟩ ?_ e4
        · rw [List.map_append]; exact plt_new oc od
        · have : toI (facN n) = toI l ++ toI L := by rw [← hf]; unfold toI; rw [List.map_append]
          rw [this]
          have k : ∀ c (z : Int × Int), H2 c = some (.tup [.int z.1, .int z.2]) → SqT K (upd (upd (upd H2 r (.lst (qs.map V.ref))) r2 (.lst (ps.map V.ref ++ qs.map V.ref))) t (.frz o (.tup (ps.map V.ref ++ qs.map V.ref)))) c [.int z.1, .int z.2] := fun c z w => SqT.of ((Ext.new ht _) _ _ ((Ext.new hr2 _) _ _ ((Ext.new hr _) _ _ w)))
          exact paired_app (L2.Paired.mapP g2' k) (L2.Paired.mapP hq k)
        · cases z : H t with
          | none => rfl
          | some u => rw [((e3.trans (Ext.new hr2 (.lst (ps.map V.ref ++ qs.map V.ref)))) _ _ z)] at ht; cases ht
      by_cases hv : 1 < v
      · have hb : decide ((1 : Int) < (v : Int)) = true := decide_eq_true (by omega)
        rw [if_pos hv] at hf
        refine ⟨pl, _, _, rfl, rfl, hpl', ?_⟩
        show _ ∧ _
        rw [hb]
        refine ⟨by decide, by decide, by show 1 * 1 ≤ sizeLine; decide, fun r hr => ?_⟩
        exact fin2 [(v, 1)] [tp] r (by simp) (.cons htp' .nil) hf hr
      · have hb : decide ((1 : Int) < (v : Int)) = false := decide_eq_false (by omega)
        rw [if_neg hv] at hf
        refine ⟨pl, _, _, rfl, rfl, hpl', ?_⟩
        show _ ∧ _
        rw [hb]
        refine ⟨by decide, by decide, by show 1 * 0 ≤ sizeLine; decide, fun r hr => ?_⟩
        exact fin2 [] [] r (by simp) .nil hf hr
end
end K75

set_option Elab.async false
set_option linter.all false
set_option maxRecDepth 100000
set_option maxHeartbeats 4000000
namespace K75
open PySem PySem.Spec PyProof.Rows L2 Bk Evl
section
variable {P : Program} {w : World} {K : PySem.W.Frag} {mg : Str → Option Value} {base : Heap}
/-! ### _law_made -/
def spMade (K : PySem.W.Frag) : Sp := fun vs H Q _ => ∃ (t : Addr) (a b c : Nat), vs = [.ref t] ∧ SqT K H t [.int a, .int b, .int c] ∧ okRule a b c ∧ ∀ r H', RuleAt K H' r a b c → Ext H H' → Q (.ref r) H'
theorem sc_ulaw_made : FnScope ["_law_spec_here"] ["_law_spec_here"] (defScope s_ulaw_made) := ⟨rfl, rfl, rfl, by decide +kernel, rfl, by decide +kernel, by decide +kernel⟩
theorem ok_ulaw_made (T : Txt K mg) : Ok P w K mg base 6 (He.ga K "_law_made") ["_law_spec_here"] (spMade K) := by
  obtain ⟨fd_Rule_init, F_Rule_init, b_Rule_init, k_Rule_init, _⟩ := (ok_Rule_init (P := P) (w := w) (base := base) T).ex
  refine fd_ok T.f_ulaw_made sc_ulaw_made (fun vs H Q E h => ?_) (fun _ _ _ _ _ _ us hl => match us, hl with | [_], _ => rfl) (fun cdv A outer s H vs Q E hr h => ?_)
  · obtain ⟨t, a, b, c, rfl, _⟩ := h
    rfl
  · obtain ⟨t, a, b, c, rfl, ht, ok, q⟩ := h
    have nd := sc_ulaw_made.nd
    refine ⟨_, (pss_one (ps_ret (pe_make T.mk_Rule F_Rule_init (hr.mono (by decide)) rfl T.g_Rule b_Rule_init .nil pass0 (pa_cons (pe_ix ix_tup (pv 0) pe_int (by intro _ _; rfl)) (pa_cons (pe_ix ix_tup (pv 0) pe_int (by intro _ _; rfl)) (pa_cons (pe_ix ix_tup (pv 0) pe_int (by intro _ _; rfl)) pa_nil)))))), ?_⟩
    refine ⟨_, rfl, t, _, 0, _, rfl, rfl, ht, rfl, _, rfl, t, _, 1, _, rfl, rfl, ht, rfl, _, rfl, t, _, 2, _, rfl, rfl, ht, rfl, ?_⟩
    intro r dr hr0 hdr nr
    refine ⟨r, dr, a, b, c, rfl, upd_same, ok, fun H7 R7 k7 => ⟨rfl, ?_⟩⟩
    refine q r H7 R7 fun x o e => ?_
    have x1 := ne_of_none e hr0
    exact k7 x o (by rw [upd_ne x1, upd_ne (ne_of_none e hdr)]; exact e) x1
end
end K75

set_option Elab.async false
set_option linter.all false
set_option maxRecDepth 100000
set_option maxHeartbeats 4000000
namespace K75
open PySem PySem.Spec PyProof.Rows L2 Bk Evl
def menuL : List Nat := [2, 3, 5, 7, 11, 13, 17, 19, 23, 29, 31, 37, 101, 997, 999983]
theorem menu_ok : ∀ p ∈ menuL, 2 ≤ p ∧ p ≤ 1000000 ∧ primeB p = true := by decide +kernel
theorem menu_asc : menuL.Pairwise (· < ·) := by decide +kernel
theorem big_sub : ((10 : Int) ^ (30 : Int).toNat - (10 : Int) ^ (4 : Int).toNat) = ((10 ^ 30 - 10 ^ 4 : Nat) : Int) := by decide
theorem small_kinds (x : Int) (hx : 1 ≤ x ∧ x ≤ 10 ^ 30 - 10 ^ 4) : ∀ k : Nat, k < 5 → ∃ y : Int, [V.int 1, V.int 1, V.int 2, V.int 3, V.int x][k]? = some (V.int y) ∧ 1 ≤ y ∧ y ≤ 10 ^ 30 - 10 ^ 4
  | 0, _ => ⟨1, rfl, by decide, by decide⟩
  | 1, _ => ⟨1, rfl, by decide, by decide⟩
  | 2, _ => ⟨2, rfl, by decide, by decide⟩
  | 3, _ => ⟨3, rfl, by decide, by decide⟩
  | 4, _ => ⟨x, rfl, hx.1, hx.2⟩
  | k + 5, h => by omega
section
variable {P : Program} {w : World} {K : PySem.W.Frag} {mg : Str → Option Value} {base : Heap}
/-! ### _law_great -/
def spGreat (K : PySem.W.Frag) : Sp := fun vs H Q _ => ∃ (d : Addr) (n : Nat), vs = [.ref d, .int n] ∧ MillAt H d ∧ n ≤ 12 ∧ ∀ l t H', PairsAt K H' t l → FacOk l → l.length ≤ n → (∀ q ∈ l, q.2 ≤ 10 ^ 30 - 10 ^ 4) → H t = none → MillAt H' d → But d H H' → Q (.ref t) H'
theorem sc_ulaw_great : FnScope ["_law_mill_here", "_law_most", "_law_menu", "_law_found", "_law_k"] ["_law_mill_here", "_law_most"] (defScope s_ulaw_great) := ⟨rfl, rfl, rfl, by decide +kernel, rfl, by decide +kernel, by decide +kernel⟩
theorem ok_ulaw_great (T : Txt K mg) : Ok P w K mg base 2 (He.ga K "_law_great") ["_law_mill_here", "_law_most"] (spGreat K) := by
  obtain ⟨fd_ulaw_grain, F_ulaw_grain, b_ulaw_grain, k_ulaw_grain, _⟩ := (ok_ulaw_grain (P := P) (w := w) (base := base) T).ex
  refine fd_ok T.f_ulaw_great sc_ulaw_great (fun vs H Q E h => ?_) (fun _ _ _ _ _ _ us hl => match us, hl with | [_, _], _ => rfl) (fun cdv A outer s H vs Q E hr h => ?_)
  · obtain ⟨d, n, rfl, _⟩ := h
    rfl
  · obtain ⟨d, n, rfl, M, hn, q⟩ := h
    have nd := sc_ulaw_great.nd
    refine ⟨_, (pss_cons (ps_par (i := 2) (j := 3) rfl nd rfl rfl (by decide) rfl rfl (pa_cons (pe_lst (pa_cons pe_int (pa_cons pe_int (pa_cons pe_int (pa_cons pe_int (pa_cons pe_int (pa_cons pe_int (pa_cons pe_int (pa_cons pe_int (pa_cons pe_int (pa_cons pe_int (pa_cons pe_int (pa_cons pe_int (pa_cons pe_int (pa_cons pe_int (pa_cons pe_int pa_nil)))))))))))))))) (pa_cons (pe_lst pa_nil) pa_nil)) (by rfl)) (pss_cons (ps_for PassesOwn.never rfl (pi_list (pv 2)) (pg_name (i := 4) nd rfl (Or.inl rfl)) (pss_one (ps_if (PW.pt (pw_and (pt_cmpR op_lt (pe_callB call_len_seq rfl T.z_len (by decide +kernel) (pa_cons (pv 3) pa_nil)) (pv 1) (nomark _)) (pw_and1 (pt_cmpR op_eq (pe_call F_ulaw_grain (hr.mono (by decide)) rfl T.g_ulaw_grain k_ulaw_grain b_ulaw_grain .nil pass0 (pa_cons (pv 0) (pa_cons pe_int pa_nil))) pe_int (nomark _))))) (pss_one (ps_expr (pe_bm PySem.F.plainAttrs_list PySem.F.slot_list_append PySem.F.type_list_append mt_append (pv 3) (pa_cons (pe_tup (pa_cons (pv 4) (pa_cons (pe_ix ix_list (pe_lst (pa_cons pe_int (pa_cons pe_int (pa_cons pe_int (pa_cons pe_int (pa_cons (pe_op op_add pe_int (pe_call F_ulaw_grain (hr.mono (by decide)) rfl T.g_ulaw_grain k_ulaw_grain b_ulaw_grain .nil pass0 (pa_cons (pv 0) (pa_cons (pe_op op_sub (pe_op op_pow pe_int pe_int) (pe_op op_pow pe_int pe_int)) pa_nil)))) pa_nil)))))) (pe_call F_ulaw_grain (hr.mono (by decide)) rfl T.g_ulaw_grain k_ulaw_grain b_ulaw_grain .nil pass0 (pa_cons (pv 0) (pa_cons pe_int pa_nil))) (by intro _ _; rfl)) pa_nil))) pa_nil)))) pss_nil))) (pss_one (ps_ret (pe_tupleP rfl T.z_tuple (pv 3)))))), ?_⟩
    refine ⟨by show 15 ≤ sizeLine; decide, fun mn hmn => ⟨by show 0 ≤ sizeLine; decide, fun fl hfl => ⟨_, _, rfl, ?_⟩⟩⟩
    have nmd := mill_new M hmn
    have M1 := M.ext (Ext.new hmn (.lst (nv menuL)))
    have nfd := mill_new M1 hfl
    have nfm : mn ≠ fl := fun z => by rw [← z, upd_same] at hfl; cases hfl
    have fr0 : H fl = none := by rw [upd_ne (Ne.symm nfm)] at hfl; exact hfl
    have hm2 : upd (upd H mn (.lst (nv menuL))) fl (.lst []) mn = some (.lst (nv menuL)) := by rw [upd_ne nfm, upd_same]
    refine ⟨_, rfl, mn, rfl, ⟨_, SqL.of hm2⟩, ?_⟩
    have b2 : But d H (upd (upd H mn (.lst (nv menuL))) fl (.lst [])) := fun x o e _ => by rw [upd_ne (ne_of_none e fr0), upd_ne (ne_of_none e hmn)]; exact e
    refine for_list (xs := nv menuL) (fun i σ H' => ∃ (u : Option V) (l : Prs), σ = [some (.ref d), some (.int n), some (.ref mn), some (.ref fl), u] ∧ PList H' fl l ∧ MillAt H' d ∧ But d H H' ∧ H' mn = some (.lst (nv menuL)) ∧ l.length ≤ n ∧ (l.map (·.1)).Sublist ((menuL.take i).map fun k : Nat => (k : Int)) ∧ ∀ q ∈ l, 1 ≤ q.2 ∧ q.2 ≤ 10 ^ 30 - 10 ^ 4)
      ⟨_, [], rfl, ⟨[], upd_same, .nil⟩, M1.ext (Ext.new hfl _), b2, hm2, Nat.zero_le n, by simp, fun q hq => by cases hq⟩ ?_ ?_ ?_
    · rintro i σ H' _ ⟨u, l, rfl, _, _, _, hm, _⟩
      exact SqL.of hm
    · rintro i x σ H1 hx ⟨u, l, rfl, pl, Mi, bi, hm, hl, hsub, hex⟩
      obtain ⟨p, hp, rfl⟩ := nv_at hx
      have tk : (menuL.take (i + 1)).map (fun k : Nat => (k : Int)) = (menuL.take i).map (fun k : Nat => (k : Int)) ++ [(p : Int)] := by rw [List.take_add_one, hp, List.map_append] <;> rfl
      have skip : ∀ H2, MillAt H2 d → But d H1 H2 → ∃ (u : Option V) (l : Prs), [some (V.ref d), some (.int n), some (.ref mn), some (.ref fl), some (.int p)] = [some (V.ref d), some (.int n), some (.ref mn), some (.ref fl), u] ∧ PList H2 fl l ∧ MillAt H2 d ∧ But d H H2 ∧ H2 mn = some (.lst (nv menuL)) ∧ l.length ≤ n ∧ (l.map (·.1)).Sublist ((menuL.take (i + 1)).map fun k : Nat => (k : Int)) ∧ ∀ q ∈ l, 1 ≤ q.2 ∧ q.2 ≤ 10 ^ 30 - 10 ^ 4 := fun H2 M2 b12 => by
        obtain ⟨ps, g1, g2⟩ := id pl
        refine ⟨_, l, rfl, ⟨ps, b12 _ _ g1 nfd, L2.Paired.mapP g2 fun c q w => b12 _ _ w (mill_ne Mi w (by intro _ z; cases z))⟩, M2, bi.trans b12, b12 _ _ hm nmd, hl, ?_, hex⟩
        rw [tk]
        exact hsub.trans (List.sublist_append_left _ _)
      obtain ⟨ps, g1, g2⟩ := id pl
      have lps : (ps.map V.ref).length = l.length := by rw [List.length_map, g2.length]
      refine ⟨_, rfl, fl, _, rfl, .inl (SqL.of g1), _, rfl, _, _, rfl, rfl, _, rfl, ?_⟩
      refine ite2 (fun hlt => ?_) (fun _ => skip H1 Mi (But.refl d H1))
      have hlt' : l.length < n := by have := of_decide_eq_true hlt; omega
      refine ⟨_, rfl, d, 4, rfl, Mi, ⟨by decide, by decide⟩, fun k2 H2 hk2 M2 b12 => ⟨rfl, _, rfl, ?_⟩⟩
      refine ite2 (fun _ => ?_) (fun _ => skip H2 M2 b12)
      have g12 := b12 _ _ g1 nfd
      refine ⟨_, rfl, .inl ⟨rfl, _, SqL.of g12⟩, _, rfl, ?_⟩
      refine ⟨_, rfl, _, _, rfl, rfl, ⟨by decide, by decide, by decide⟩, _, _, rfl, rfl, ⟨by decide, by decide, by decide⟩, _, _, rfl, rfl, d, 10 ^ 30 - 10 ^ 4, ?_, M2, ⟨by decide, by decide⟩, fun k3 H3 hk3 M3 b23 => ?_⟩
      · show [V.ref d, V.int ((10 : Int) ^ (30 : Int).toNat - (10 : Int) ^ (4 : Int).toNat)] = _
        rw [big_sub]
      refine ⟨_, _, rfl, rfl, by show 5 ≤ sizeLine; decide, fun pl5 hpl5 => ?_⟩
      have n5d := mill_new M3 hpl5
      have M4 := M3.ext (Ext.new hpl5 (.lst [.int 1, .int 1, .int 2, .int 3, .int (1 + (k3 : Int))]))
      have b34 : But d H3 (upd H3 pl5 (.lst [.int 1, .int 1, .int 2, .int 3, .int (1 + (k3 : Int))])) := (Ext.new hpl5 _).but d
      have h54 : upd H3 pl5 (.lst [.int 1, .int 1, .int 2, .int 3, .int (1 + (k3 : Int))]) pl5 = some (.lst [.int 1, .int 1, .int 2, .int 3, .int (1 + (k3 : Int))]) := upd_same
      refine ⟨_, rfl, d, 5, rfl, M4, ⟨by decide, by decide⟩, fun k6 H6 hk6 M6 b46 => ?_⟩
      have h56 := b46 _ _ h54 n5d
      have b16 : But d H1 H6 := ((b12.trans b23).trans b34).trans b46
      obtain ⟨y, hy, y1, y2⟩ := small_kinds (1 + (k3 : Int)) ⟨by omega, by have : ((10 ^ 30 - 10 ^ 4 : Nat) : Int) = 10 ^ 30 - 10 ^ 4 := (by decide); omega⟩ k6 hk6
      refine ⟨pl5, _, k6, _, rfl, rfl, SqL.of h56, atI_nat hy, by show 2 ≤ sizeLine; decide, fun tp htp => ?_⟩
      have g16 := b16 _ _ g1 nfd
      have pl6 : PList H6 fl l := ⟨ps, g16, L2.Paired.mapP g2 fun c q w => b16 _ _ w (mill_ne Mi w (by intro _ z; cases z))⟩
      obtain ⟨g3, g4⟩ := pl6.snoc (a := p) (b := y) htp _ g16
      have nft : fl ≠ tp := ne_of_none g16 htp
      refine ⟨fl, _, _, rfl, rfl, by rw [upd_ne nft]; exact g16, by rw [lps]; exact small_lt (by omega), ?_⟩
      refine ⟨_, l ++ [((p : Int), y)], rfl, g4, ?_, fun x o e ne => ?_, ?_, by rw [List.length_append, List.length_singleton]; omega, ?_, ?_⟩
      · obtain ⟨mm, ff, hd6, r⟩ := M6
        refine ⟨mm, ff, ?_, r⟩
        rw [upd_ne nfd.symm, upd_ne (ne_of_none hd6 htp)]
        exact hd6
      · have e6 := b16 _ _ (bi _ _ e ne) ne
        rw [upd_ne (ne_of_none e fr0), upd_ne (ne_of_none e6 htp)]
        exact e6
      · have hm6 := b16 _ _ hm nmd
        rw [upd_ne nfm, upd_ne (ne_of_none hm6 htp)]
        exact hm6
      · rw [tk, List.map_append]
        exact hsub.append (List.Sublist.refl _)
      · intro q hq
        rcases List.mem_append.mp hq with z | z
        · exact hex q z
        · simp at z
          rw [z]
          exact ⟨y1, y2⟩
    · rintro σ H1 ⟨u, l, rfl, pl, Mi, bi, hm, hl, hsub, hex⟩
      obtain ⟨ps, g1, g2⟩ := id pl
      refine ⟨_, rfl, fl, _, rfl, SqL.of g1, fun t o ht oc od => ?_⟩
      have hsub2 : (l.map (·.1)).Sublist (menuL.map fun k : Nat => (k : Int)) := hsub.trans (List.Sublist.map _ (List.take_sublist _ _))
      have m30 : (10 : Int) ^ 30 - 10 ^ 4 ≤ 10 ^ 30 := by decide
      refine q l t _ (pl.pairs ht oc od _ g1) ⟨by omega, fun z hz => ?_, ?_⟩ hl (fun z hz => (hex z hz).2) ?_ (Mi.ext (Ext.new ht _)) (bi.trans ((Ext.new ht _).but d))
      · obtain ⟨p, hp, e⟩ := List.mem_map.mp (hsub2.subset (List.mem_map.mpr ⟨z, hz, rfl⟩))
        obtain ⟨p1, p2, p3⟩ := menu_ok p hp
        have := hex z hz
        exact ⟨p, e.symm, p1, p2, p3, by omega, by omega⟩
      · refine List.pairwise_map.mp (List.Pairwise.sublist hsub2 ?_)
        rw [List.pairwise_map]
        exact menu_asc.imp fun {a b} h => Int.ofNat_lt.mpr h
      · cases z : H t with
        | none => rfl
        | some u =>
          rw [bi _ _ z (mill_new Mi ht)] at ht
          cases ht
end
end K75

set_option Elab.async false
set_option linter.all false
set_option maxRecDepth 100000
set_option maxHeartbeats 4000000
namespace K75
open PySem PySem.Spec PyProof.Rows L2 Bk Evl
section
variable {P : Program} {w : World} {K : PySem.W.Frag} {mg : Str → Option Value} {base : Heap}
/-! ### _law_shared -/
def spLShared (K : PySem.W.Frag) : Sp := fun vs H Q _ => ∃ (t : Addr) (l : Prs) (a : Nat), vs = [.ref t, .int a] ∧ PairsAt K H t l ∧ PrP l ∧ (∀ q ∈ l, 0 ≤ q.2) ∧ (1 ≤ a ∧ a ≤ 12) ∧ Q (.int (shF l a).2) H
theorem dvd_iff {v f p a : Nat} (h : v * f = a) (f1 : 1 ≤ f) (p1 : 1 ≤ p) : a % (f * p) = 0 ↔ v % p = 0 := by
  rw [← h, Nat.mul_comm v f, Nat.mul_mod_mul_left]
  constructor
  · intro z
    rcases Nat.mul_eq_zero.mp z with w | w
    · omega
    · exact w
  · intro z
    rw [z]
    rfl
theorem sc_ulaw_shared : FnScope ["_law_factors_here", "_law_amount", "_law_found", "_law_k", "_law_many", "_law_turn"] ["_law_factors_here", "_law_amount"] (defScope s_ulaw_shared) := ⟨rfl, rfl, rfl, by decide +kernel, rfl, by decide +kernel, by decide +kernel⟩
theorem ok_ulaw_shared (T : Txt K mg) : Ok P w K mg base 1 (He.ga K "_law_shared") ["_law_factors_here", "_law_amount"] (spLShared K) := by
  refine fd_ok T.f_ulaw_shared sc_ulaw_shared (fun vs H Q E h => ?_) (fun _ _ _ _ _ _ us hl => match us, hl with | [_, _], _ => rfl) (fun cdv A outer s H vs Q E hr h => ?_)
  · obtain ⟨t, l, a, rfl, _⟩ := h
    rfl
  · obtain ⟨t, l, a, rfl, hp, ok, nn, ⟨a1, a2⟩, q⟩ := h
    have nd := sc_ulaw_shared.nd
    refine ⟨_, (pss_cons (ps_set (i := 2) nd rfl (Or.inl rfl) pe_int) (pss_cons (ps_for PassesOwn.never rfl (pi_tup (pv 0)) (pg_tup rfl (pgs_cons (pg_name (i := 3) nd rfl (Or.inl rfl)) (pgs_cons (pg_name (i := 4) nd rfl (Or.inl rfl)) pgs_nil))) (pss_one (ps_for PassesOwn.never rfl (pi_range1 rfl T.z_range (pa_cons (pe_callB (call_min2 rfl) rfl T.z_min (by decide +kernel) (pa_cons (pv 4) (pa_cons pe_int pa_nil))) pa_nil)) (pg_name (i := 5) nd rfl (Or.inl rfl)) (pss_one (ps_if (pt_cmpR op_eq (pe_op op_mod (pe_callTy call_int1 rfl T.z_int (by decide +kernel) (pa_cons (pv 1) pa_nil)) (pe_op op_mul (pv 2) (pv 3))) pe_int (nomark _)) (pss_one (ps_set (i := 2) nd rfl (Or.inl rfl) (pe_op op_mul (pv 2) (pv 3)))) pss_nil))))) (pss_one (ps_ret (pv 2))))), ?_⟩
    obtain ⟨ps, h1, h2⟩ := hp.sq
    refine ⟨_, rfl, t, rfl, ⟨_, h1⟩, ?_⟩
    refine for_tup (xs := ps.map V.ref) (fun i σ H' => ∃ (u v x : Option V), σ = [some (.ref t), some (.int a), some (.int (shF (l.take i) a).2), u, v, x] ∧ H' = H) ⟨_, _, _, rfl, rfl⟩ ?_ ?_ ?_
    · rintro i σ H' _ ⟨u, v, x, rfl, rfl⟩
      exact h1
    · rintro i x σ H1 hx ⟨u, v, y, rfl, rfl⟩
      rw [List.getElem?_map] at hx
      obtain ⟨p, hpi, rfl⟩ := Option.map_eq_some_iff.mp hx
      obtain ⟨⟨q1, q2⟩, hq, hsq⟩ := paired_at h2 i p hpi
      dsimp only at hsq
      obtain ⟨pn, e, n1, n2⟩ := ok _ (List.mem_of_getElem? hq)
      have q0 := nn _ (List.mem_of_getElem? hq)
      dsimp only at e q0
      subst e
      have hm := shF_mul (l.take i) a
      rw [shF_snoc l a i _ hq]
      generalize shF (l.take i) a = cs at hm ⊢
      obtain ⟨v, f⟩ := cs
      dsimp only at hm ⊢
      obtain ⟨v1, v2, f1, f2⟩ := mul_le2 hm a1
      have pe : (pn : Int).toNat = pn := rfl
      refine ⟨p, _, rfl, hsq, rfl, _, _, rfl, _, _, rfl, rfl, ?_⟩
      refine ⟨_, rfl, q2, 8, rfl, ?_⟩
      generalize hjj : (if (8 : Int) < q2 then (8 : Int) else q2) = j
      have hj : j = min q2 8 ∧ 0 ≤ j ∧ j ≤ 8 := by
        rw [← hjj]
        split <;> omega
      refine ⟨j, rfl, by omega, by omega, ?_⟩
      refine for_range (lo := 0) (n := j.toNat) (fun i σ' H' => ∃ (v' f' fu : Nat) (e' : Int) (u : Option V), σ' = [some (.ref t), some (.int a), some (.int f'), some (.int pn), some (.int q2), u] ∧ H' = H1 ∧ (takeUp fu v' pn e').1 = (takeUp 20 v pn q2).1 ∧ f' * pn ^ (takeUp fu v' pn e').2 = f * pn ^ (takeUp 20 v pn q2).2 ∧ v' * f' = a ∧ v' < 2 ^ fu ∧ (¬ v' % pn = 0 ∨ (e' = q2 - i ∧ v' * 2 ^ i ≤ 12)))
        ⟨v, f, 20, q2, _, rfl, rfl, rfl, rfl, hm, lt20 (by omega), .inr ⟨by omega, by rw [Nat.pow_zero]; omega⟩⟩ ?_ ?_
      · rintro i σ' H' hi ⟨v', f', fu, e', u, rfl, rfl, t1, t2, w1, w2, w3⟩
        obtain ⟨v1', v2', f1', f2'⟩ := mul_le2 w1 a1
        refine ⟨_, rfl, .inl ⟨_, rfl, _, rfl, _, rfl, _, _, rfl, rfl, .inl ⟨by omega, by omega⟩, _, _, rfl, rfl, ?_, rfl, _, rfl, ?_⟩⟩
        · have : 0 < (f' : Int) * (pn : Int) := Int.mul_pos (by omega) (by omega)
          exact this
        show if decide (V.int ((a : Int) % ((f' : Int) * (pn : Int))) = V.int 0) = true then _ else _
        rw [← Int.natCast_mul, dec_mod]
        have hd := dvd_iff w1 f1' (p := pn) (by omega)
        refine ite2 (fun h0 => ?_) (fun h0 => ?_)
        · have h0' : v' % pn = 0 := hd.mp (of_decide_eq_true h0)
          obtain ⟨he, hb⟩ := w3.resolve_left (fun z => z h0')
          have hep : 0 < e' := by omega
          obtain ⟨g, rfl⟩ : ∃ g, fu = g + 1 := by
            cases fu with
            | zero => rw [Nat.pow_zero] at w2; omega
            | succ g => exact ⟨g, rfl⟩
          rw [takeUp_step _ _ _ _ ⟨hep, h0'⟩] at t1 t2
          dsimp only at t1 t2
          have hdd := Nat.div_add_mod v' pn
          rw [h0', Nat.add_zero] at hdd
          have two : 2 * (v' / pn) ≤ v' := by
            have : 2 * (v' / pn) ≤ pn * (v' / pn) := Nat.mul_le_mul_right _ n1
            omega
          refine ⟨_, rfl, _, rfl, _, _, rfl, rfl, .inl ⟨by omega, by omega⟩, v' / pn, f' * pn, g, e' - 1, some (.int (0 + (i : Int))), ?_, rfl, t1, ?_, ?_, ?_, .inr ⟨by omega, ?_⟩⟩
          · show [some (V.ref t), some (V.int a), some (V.int ((f' : Int) * (pn : Int))), some (V.int pn), some (V.int q2), some (V.int (0 + (i : Int)))] = _
            rw [Int.natCast_mul]
          · rw [← t2, Nat.pow_succ, Nat.mul_assoc, Nat.mul_comm (pn ^ _) pn]
          · rw [← w1]
            calc v' / pn * (f' * pn) = (pn * (v' / pn)) * f' := by rw [Nat.mul_comm f' pn, ← Nat.mul_assoc, Nat.mul_comm (v' / pn) pn]
              _ = v' * f' := by rw [hdd]
          · rw [Nat.pow_succ] at w2
            omega
          · rw [Nat.pow_succ]
            have := Nat.mul_le_mul_right (2 ^ i) two
            calc v' / pn * (2 ^ i * 2) = 2 * (v' / pn) * 2 ^ i := by rw [Nat.mul_comm (2 ^ i) 2, ← Nat.mul_assoc, Nat.mul_comm (v' / pn) 2]
              _ ≤ v' * 2 ^ i := this
              _ ≤ 12 := hb
        · have h0' : ¬ v' % pn = 0 := fun z => h0 (decide_eq_true (hd.mpr z))
          exact ⟨v', f', fu, e', _, rfl, rfl, t1, t2, w1, w2, .inl h0'⟩
      · rintro σ' H' ⟨v', f', fu, e', u, rfl, rfl, t1, t2, w1, w2, w3⟩
        obtain ⟨v1', v2', f1', f2'⟩ := mul_le2 w1 a1
        have hno : ¬ (0 < e' ∧ v' % pn = 0) := fun z => by
          obtain ⟨he, hb⟩ := w3.resolve_left (fun w => w z.2)
          by_cases h8 : q2 ≤ 8
          · omega
          · have : j.toNat = 8 := by omega
            rw [this] at hb
            omega
        rw [takeUp_stop _ _ _ _ hno] at t1 t2
        dsimp only at t1 t2
        rw [Nat.pow_zero, Nat.mul_one] at t2
        have : (shStep (v, f) ((pn : Int), q2)).2 = f' := by
          unfold shStep
          dsimp only
          rw [pe, t2]
        rw [this]
        exact ⟨_, _, u, rfl, rfl⟩
    · rintro σ H1 ⟨u, v, x, rfl, rfl⟩
      have hlen : (ps.map V.ref).length = l.length := by rw [List.length_map, h2.length]
      rw [hlen, List.take_length]
      exact ⟨_, rfl, q⟩
/-! ### _law_core -/
def spLCore (K : PySem.W.Frag) : Sp := fun vs H Q _ => ∃ (s t : Addr) (a b c : Int) (an : Nat) (l : Prs), vs = [.ref s, .ref t] ∧ SqT K H s [.int a, .int b, .int c] ∧ a = an ∧ PairsAt K H t l ∧ FacOk l ∧ (1 ≤ an ∧ an ≤ 12) ∧
  ∀ p t' H', H' p = some (.tup [.int (modF l an), .ref t']) → PairsAt K H' t' (clF l an) → H p = none → Ext H H' → Q (.ref p) H'
theorem takeOut_8 {v p : Nat} (v1 : 1 ≤ v) (v2 : v ≤ 12) (hp : 2 ≤ p) : takeOut 8 v p = takeOut 20 v p := by
  have h : v < 2 ^ 4 := Nat.lt_of_le_of_lt v2 (by decide)
  rw [takeOut_more 4 8 v p v1 hp h (by decide), takeOut_more 4 20 v p v1 hp h (by decide)]
theorem sc_ulaw_core : FnScope ["_law_spec_here", "_law_factors_here", "_law_shared_here", "_law_found", "_law_k", "_law_many", "_law_left", "_law_turn"] ["_law_spec_here", "_law_factors_here"] (defScope s_ulaw_core) := ⟨rfl, rfl, rfl, by decide +kernel, rfl, by decide +kernel, by decide +kernel⟩
theorem ok_ulaw_core (T : Txt K mg) : Ok P w K mg base 2 (He.ga K "_law_core") ["_law_spec_here", "_law_factors_here"] (spLCore K) := by
  obtain ⟨fd_ulaw_shared, F_ulaw_shared, b_ulaw_shared, k_ulaw_shared, _⟩ := (ok_ulaw_shared (P := P) (w := w) (base := base) T).ex
  refine fd_ok T.f_ulaw_core sc_ulaw_core (fun vs H Q E h => ?_) (fun _ _ _ _ _ _ us hl => match us, hl with | [_, _], _ => rfl) (fun cdv A outer s H vs Q E hr h => ?_)
  · obtain ⟨s, t, a, b, c, an, l, rfl, _⟩ := h
    rfl
  · obtain ⟨s, t, a, b, c, an, l, rfl, hs, ea, hp, fo, ⟨a1, a2⟩, q⟩ := h
    have nd := sc_ulaw_core.nd
    refine ⟨_, (pss_cons (ps_par (i := 2) (j := 3) rfl nd rfl rfl (by decide) rfl rfl (pa_cons (pe_call F_ulaw_shared (hr.mono (by decide)) rfl T.g_ulaw_shared k_ulaw_shared b_ulaw_shared .nil pass0 (pa_cons (pv 1) (pa_cons (pe_ix ix_tup (pv 0) pe_int (by intro _ _; rfl)) pa_nil))) (pa_cons (pe_lst pa_nil) pa_nil)) (by rfl)) (pss_cons (ps_for PassesOwn.never rfl (pi_tup (pv 1)) (pg_tup rfl (pgs_cons (pg_name (i := 4) nd rfl (Or.inl rfl)) (pgs_cons (pg_name (i := 5) nd rfl (Or.inl rfl)) pgs_nil))) (pss_cons (ps_set (i := 6) nd rfl (Or.inl rfl) (pv 5)) (pss_cons (ps_for PassesOwn.never rfl (pi_range1 rfl T.z_range (pa_cons pe_int pa_nil)) (pg_name (i := 7) nd rfl (Or.inl rfl)) (pss_one (ps_if (pt_cmpR op_eq (pe_op op_mod (pe_callTy call_int1 rfl T.z_int (by decide +kernel) (pa_cons (pv 2) pa_nil)) (pv 4)) pe_int (nomark _)) (pss_one (ps_par (i := 2) (j := 6) rfl nd rfl rfl (by decide) rfl rfl (pa_cons (pe_op op_fdiv (pv 2) (pv 4)) (pa_cons (pe_op op_sub (pv 6) pe_int) pa_nil)) (by rfl))) pss_nil))) (pss_one (ps_if (pt_cmpR op_gt (pv 6) pe_int (nomark _)) (pss_one (ps_expr (pe_bm PySem.F.plainAttrs_list PySem.F.slot_list_append PySem.F.type_list_append mt_append (pv 3) (pa_cons (pe_tup (pa_cons (pv 4) (pa_cons (pv 6) pa_nil))) pa_nil)))) pss_nil))))) (pss_one (ps_ret (pe_tup (pa_cons (pe_op op_fdiv (pe_ix ix_tup (pv 0) pe_int (by intro _ _; rfl)) (pe_call F_ulaw_shared (hr.mono (by decide)) rfl T.g_ulaw_shared k_ulaw_shared b_ulaw_shared .nil pass0 (pa_cons (pv 1) (pa_cons (pe_ix ix_tup (pv 0) pe_int (by intro _ _; rfl)) pa_nil)))) (pa_cons (pe_tupleP rfl T.z_tuple (pv 3)) pa_nil))))))), ?_⟩
    subst ea
    obtain ⟨ps, h1, h2⟩ := hp.sq
    have prp := prp_of fo.one
    have hsm := shF_mul l an
    obtain ⟨_, _, sh1, sh2⟩ := mul_le2 hsm a1
    have hsd : modF l an = an / (shF l an).2 := rfl
    have hcl : clF l an = (coreF l (shF l an).2).1 := rfl
    have hlen := fo.len
    refine ⟨_, rfl, _, rfl, s, _, 0, _, rfl, rfl, hs, rfl, t, l, an, rfl, hp, prp, fo.nn, ⟨a1, a2⟩, by show 0 ≤ sizeLine; decide, fun fl hfl => ⟨_, _, rfl, ?_⟩⟩
    generalize hshg : (shF l an).2 = sh at sh1 sh2 hsd hcl
    refine ⟨_, rfl, t, rfl, ⟨_, sqt_ext h1 (Ext.new hfl _)⟩, ?_⟩
    refine for_tup (xs := ps.map V.ref) (fun i σ H' => ∃ (u1 u2 u3 u4 : Option V), σ = [some (.ref s), some (.ref t), some (.int (coreF (l.take i) sh).2), some (.ref fl), u1, u2, u3, u4] ∧ PList H' fl (coreF (l.take i) sh).1 ∧ Ext H H' ∧ (coreF (l.take i) sh).1.length ≤ i ∧ (1 ≤ (coreF (l.take i) sh).2 ∧ (coreF (l.take i) sh).2 ≤ 12))
      ⟨_, _, _, _, rfl, ⟨[], upd_same, .nil⟩, Ext.new hfl _, Nat.le_refl 0, sh1, by show sh ≤ 12; omega⟩ ?_ ?_ ?_
    · rintro i σ H' _ ⟨u1, u2, u3, u4, rfl, _, e, _⟩
      exact sqt_ext h1 e
    · rintro i x σ H1 hx ⟨u1, u2, u3, u4, rfl, pl, e1, hl2, v1, v2⟩
      rw [List.getElem?_map] at hx
      obtain ⟨p, hpi, rfl⟩ := Option.map_eq_some_iff.mp hx
      obtain ⟨⟨q1, q2⟩, hq, hsq⟩ := paired_at h2 i p hpi
      dsimp only at hsq
      have il : i < l.length := (List.getElem?_eq_some_iff.mp hq).1
      obtain ⟨pn, e, n1, n2⟩ := prp _ (List.mem_of_getElem? hq)
      dsimp only at e
      subst e
      rw [coreF_snoc l sh i _ hq]
      have ll := coreStep_len (coreF (l.take i) sh) ((pn : Int), q2)
      generalize coreF (l.take i) sh = cs at pl hl2 v1 v2 ll ⊢
      obtain ⟨ca, v⟩ := cs
      dsimp only at pl hl2 v1 v2 ll ⊢
      have pe : (pn : Int).toNat = pn := rfl
      refine ⟨p, _, rfl, sqt_ext hsq e1, rfl, _, _, rfl, _, _, rfl, rfl, _, rfl, ?_⟩
      refine ⟨8, rfl, by decide, by decide, ?_⟩
      refine for_range (lo := 0) (n := 8) (fun j σ2 H2 => ∃ (v' : Nat) (e' : Int) (u : Option V), σ2 = [some (.ref s), some (.ref t), some (.int v'), some (.ref fl), some (.int pn), some (.int q2), some (.int e'), u] ∧ H2 = H1 ∧ (takeOut (8 - j) v' pn).1 = (takeOut 8 v pn).1 ∧ q2 - e' + (takeOut (8 - j) v' pn).2 = (takeOut 8 v pn).2)
        ⟨v, q2, _, rfl, rfl, rfl, by show q2 - q2 + ((takeOut 8 v pn).2 : Int) = _; omega⟩ ?_ ?_
      · rintro j σ2 H2 hj ⟨v', e', u, rfl, rfl, t1, t2⟩
        obtain ⟨g, hg⟩ : ∃ g, 8 - j = g + 1 := ⟨7 - j, by omega⟩
        have hg2 : 8 - (j + 1) = g := by omega
        refine ⟨_, rfl, .inl ⟨_, rfl, _, rfl, _, _, rfl, rfl, by omega, rfl, _, rfl, ?_⟩⟩
        rw [dec_mod]
        refine ite2 (fun h0 => ?_) (fun h0 => ?_)
        · have h0' : v' % pn = 0 := of_decide_eq_true h0
          rw [hg, takeOut_step _ _ _ h0'] at t1 t2
          dsimp only at t1 t2
          refine ⟨_, rfl, _, rfl, _, _, rfl, rfl, ⟨by omega, by omega⟩, _, rfl, _, _, rfl, rfl, _, _, rfl, v' / pn, e' - 1, some (.int (0 + (j : Int))), ?_, rfl, by rw [hg2]; exact t1, by rw [hg2]; omega⟩
          show [some (V.ref s), some (V.ref t), some (V.int ((v' : Int) / (pn : Int))), some (V.ref fl), some (V.int pn), some (V.int q2), some (V.int (e' - 1)), some (V.int (0 + (j : Int)))] = _
          rw [show ((v' : Int) / (pn : Int)) = ((v' / pn : Nat) : Int) from (Int.natCast_ediv v' pn).symm]
        · have h0' : ¬ v' % pn = 0 := fun z => h0 (decide_eq_true z)
          rw [hg, takeOut_stop _ _ _ h0'] at t1 t2
          exact ⟨v', e', _, rfl, rfl, by rw [hg2, takeOut_stop _ _ _ h0']; exact t1, by rw [hg2, takeOut_stop _ _ _ h0']; exact t2⟩
      · rintro σ2 H2 ⟨v', e', u, rfl, rfl, t1, t2⟩
        have t1 : v' = (takeOut 20 v pn).1 := takeOut_8 v1 v2 n1 ▸ t1
        have t2 : q2 - e' + 0 = ((takeOut 20 v pn).2 : Int) := takeOut_8 v1 v2 n1 ▸ t2
        have vpos := takeOut_pos 20 v pn v1 n1
        have vle := takeOut_le 20 v pn
        have ee : e' = q2 - ((takeOut 20 v pn).2 : Int) := by omega
        unfold coreStep at ll ⊢
        rw [pe] at ll ⊢
        dsimp only at ll ⊢
        rw [← ee] at ll ⊢
        rw [← t1] at vpos vle ⊢
        refine ⟨_, rfl, _, _, rfl, rfl, _, rfl, ?_⟩
        refine ite2 (fun hj => ?_) (fun hj => ?_)
        · have hj' : 0 < e' := of_decide_eq_true hj
          rw [if_pos hj'] at ll ⊢
          obtain ⟨ps', g1, g2⟩ := id pl
          refine ⟨_, rfl, .inl ⟨rfl, _, SqL.of g1⟩, _, rfl, _, rfl, by show 2 ≤ sizeLine; decide, fun tp htp => ?_⟩
          obtain ⟨g3, g4⟩ := pl.snoc (a := pn) (b := e') htp _ g1
          have nft : fl ≠ tp := ne_of_none g1 htp
          refine ⟨fl, _, _, rfl, rfl, by rw [upd_ne nft]; exact g1, by rw [g3]; exact small_lt (by omega), ?_⟩
          refine ⟨_, _, _, _, rfl, g4, fun x o e => ?_, by omega, vpos, by omega⟩
          rw [upd_ne (ne_of_none e hfl), upd_ne (ne_of_none (e1 x o e) htp)]
          exact e1 x o e
        · have hj' : ¬ 0 < e' := fun z => hj (decide_eq_true z)
          rw [if_neg hj'] at ll ⊢
          exact ⟨_, _, _, _, rfl, pl, e1, by omega, vpos, by omega⟩
    · rintro σ H1 ⟨u1, u2, u3, u4, rfl, pl, e1, _, _⟩
      have hlen : (ps.map V.ref).length = l.length := by rw [List.length_map, h2.length]
      rw [hlen, List.take_length] at pl ⊢
      rw [← hcl] at pl
      obtain ⟨ps', g1, g2⟩ := id pl
      refine ⟨_, rfl, s, _, 0, _, rfl, rfl, sqt_ext hs e1, rfl, _, rfl, _, rfl, s, _, 0, _, rfl, rfl, sqt_ext hs e1, rfl, t, l, an, rfl, hp.ext e1, prp, fo.nn, ⟨a1, a2⟩, ?_⟩
      rw [hshg]
      refine ⟨_, _, rfl, rfl, ⟨by omega, by omega⟩, _, rfl, fl, _, rfl, SqL.of g1, fun t' o ht oc od => ⟨by show 2 ≤ sizeLine; decide, fun p hp => ?_⟩⟩
      have e2 := e1.trans (Ext.new ht (.frz o (.tup (ps'.map V.ref))))
      refine q p t' _ ?_ ((pl.pairs ht oc od _ g1).ext (Ext.new hp _)) ?_ (e2.trans (Ext.new hp _))
      · rw [upd_same, hsd, ← show ((an : Int) / (sh : Int)) = ((an / sh : Nat) : Int) from (Int.natCast_ediv an sh).symm]
      · cases z : H p with
        | none => rfl
        | some u => rw [e2 _ _ z] at hp; cases hp
end
end K75

set_option Elab.async false
set_option linter.all false
set_option maxRecDepth 100000
set_option maxHeartbeats 4000000
namespace K75
open PySem PySem.Spec PyProof.Rows L2 Bk Evl
theorem pord_all : ∀ m : Fin 13, ∀ b : Fin 12, ∀ k : Fin 13, 2 ≤ m.val → b.val < m.val → Nat.gcd b.val m.val = 1 → 1 ≤ k.val → b.val ^ k.val % m.val = 1 → (∀ j : Fin 13, 1 ≤ j.val → j.val < k.val → ¬ b.val ^ j.val % m.val = 1) → 60 % k.val = 0 := by decide +kernel
theorem pord_ex : ∀ m : Fin 13, ∀ b : Fin 12, 2 ≤ m.val → b.val < m.val → Nat.gcd b.val m.val = 1 → ∃ k : Fin 13, 1 ≤ k.val ∧ k.val ≤ m.val ∧ b.val ^ k.val % m.val = 1 := by decide +kernel
/-- the first of each -/
def dedL (M : List Nat) (n : Nat) : List Nat := ((List.range n).filter fun j => decide (M.getD j 0 ∉ M.take j)).map fun j => M.getD j 0
theorem dedL_ok (M : List Nat) : ∀ n, n ≤ M.length → (dedL M n).Nodup ∧ ∀ x, x ∈ dedL M n ↔ x ∈ M.take n
  | 0, _ => ⟨.nil, fun x => by simp [dedL]⟩
  | n + 1, h => by
    obtain ⟨nd, mem⟩ := dedL_ok M n (by omega)
    have hn : M[n]? = some (M.getD n 0) := by
      rw [List.getD_eq_getElem?_getD, List.getElem?_eq_getElem (by omega)]
      rfl
    have tk : M.take (n + 1) = M.take n ++ [M.getD n 0] := by rw [List.take_add_one, hn] <;> rfl
    by_cases hf : M.getD n 0 ∈ M.take n
    · have e : dedL M (n + 1) = dedL M n := by
        unfold dedL
        rw [List.range_succ, List.filter_append, List.filter_cons_of_neg (by simpa using hf), List.filter_nil, List.append_nil]
      rw [e]
      refine ⟨nd, fun x => ?_⟩
      rw [mem, tk, List.mem_append]
      exact ⟨.inl, fun z => z.elim id fun z => by simp at z; rw [z]; simpa using hf⟩
    · have e : dedL M (n + 1) = dedL M n ++ [M.getD n 0] := by
        unfold dedL
        rw [List.range_succ, List.filter_append, List.filter_cons_of_pos (by simpa using hf), List.filter_nil, List.map_append]
        rfl
      rw [e]
      refine ⟨?_, fun x => ?_⟩
      · rw [List.nodup_append]
        exact ⟨nd, by simp, fun a ha b hb z => hf ((mem _).mp (by rw [← List.mem_singleton.mp hb, ← z]; exact ha))⟩
      · rw [tk, List.mem_append, List.mem_append, mem]
theorem range_getD (R : List Nat) (f : Nat → Nat) : (List.range R.length).map (fun i => f (R.getD i 0)) = R.map f := by
  refine List.ext_getElem (by simp) fun i h1 h2 => ?_
  have h3 : i < R.length := by simpa using h1
  rw [List.getElem_map, List.getElem_map, List.getElem_range, List.getD_eq_getElem?_getD, List.getElem?_eq_getElem h3]
  rfl
section
variable {P : Program} {w : World} {K : PySem.W.Frag} {mg : Str → Option Value} {base : Heap}
/-! ### _law_power -/
def spPower : Sp := fun vs H Q _ => ∃ (b m : Nat) (e : Int), vs = [.int b, .int e, .int m] ∧ (1 ≤ m ∧ m ≤ 12) ∧ Nat.gcd b m = 1 ∧ ∀ H', Ext H H' → Q (.int (pw b e m : Nat)) H'
theorem sc_ulaw_power : FnScope ["_law_base", "_law_expo", "_law_modulus_here", "_law_turns", "_law_found", "_law_rest", "_law_turn"] ["_law_base", "_law_expo", "_law_modulus_here"] (defScope s_ulaw_power) := ⟨rfl, rfl, rfl, by decide +kernel, rfl, by decide +kernel, by decide +kernel⟩
theorem ok_ulaw_power (T : Txt K mg) : Ok P w K mg base 1 (He.ga K "_law_power") ["_law_base", "_law_expo", "_law_modulus_here"] spPower := by
  refine fd_ok T.f_ulaw_power sc_ulaw_power (fun vs H Q E h => ?_) (fun _ _ _ _ _ _ us hl => match us, hl with | [_, _, _], _ => rfl) (fun cdv A outer s H vs Q E hr h => ?_)
  · obtain ⟨b, m, e, rfl, _⟩ := h
    rfl
  · obtain ⟨b, m, e, rfl, ⟨m1, m2⟩, hg, q⟩ := h
    have nd := sc_ulaw_power.nd
    refine ⟨_, (pss_cons (ps_if (pt_cmpR op_eq (pv 2) pe_int (nomark _)) (pss_one (ps_ret pe_int)) pss_nil) (pss_cons (ps_par3 (i := 3) (j := 4) (l := 5) rfl nd rfl rfl rfl (by decide) (by decide) (by decide) rfl rfl rfl (pa_cons (pe_lst pa_nil) (pa_cons pe_int (pa_cons (pe_op op_mod (pe_callTy call_int1 rfl T.z_int (by decide +kernel) (pa_cons (pv 0) pa_nil)) (pv 2)) pa_nil))) (by rfl)) (Evl.pss_cut (ps_for PassesOwn.never rfl (pi_range1 rfl T.z_range (pa_cons (pv 2) pa_nil)) (pg_name (i := 6) nd rfl (Or.inl rfl)) (pss_cons (ps_expr (pe_bm PySem.F.plainAttrs_list PySem.F.slot_list_append PySem.F.type_list_append mt_append (pv 3) (pa_cons (pv 4) pa_nil))) (pss_cons (ps_set (i := 4) nd rfl (Or.inl rfl) (pe_op op_mod (pe_callTy call_int1 rfl T.z_int (by decide +kernel) (pa_cons (pe_op op_mul (pv 4) (pv 5)) pa_nil)) (pv 2))) (pss_one (ps_if (pt_cmpR op_eq (pv 4) pe_int (nomark _)) (pss_one ps_break) pss_nil))))) (pss_one (ps_ret (pe_ix ix_list (pv 3) (pe_op op_mod (pe_callTy call_int1 rfl T.z_int (by decide +kernel) (pa_cons (pv 1) pa_nil)) (pe_callB call_len_seq rfl T.z_len (by decide +kernel) (pa_cons (pv 3) pa_nil))) (by intro _ _; rfl))))))), ?_⟩
    refine ⟨_, rfl, rfl, _, rfl, ?_⟩
    refine ite2 (fun h1 => ?_) (fun h1 => ?_)
    · have h1' : m = 1 := by have := of_decide_eq_true h1; injection this with this; omega
      subst h1'
      have z : pw b e 1 = 0 := Nat.mod_one _
      have := q H (Ext.refl H)
      rw [z] at this
      exact this
    · have h1' : 2 ≤ m := by
        rcases Nat.lt_or_ge m 2 with z | z
        · exact (h1 (decide_eq_true (by rw [show m = 1 by omega]; rfl))).elim
        · exact z
      have em : ((b : Int) % (m : Int)) = ((b % m : Nat) : Int) := (Int.natCast_emod b m).symm
      have hrm : b % m < m := Nat.mod_lt _ (by omega)
      have hrg : Nat.gcd (b % m) m = 1 := by rw [← Nat.gcd_rec m b, Nat.gcd_comm]; exact hg
      refine ⟨by show 0 ≤ sizeLine; decide, fun tl htl => ⟨_, rfl, .inl ⟨_, rfl, _, rfl, _, _, rfl, rfl, by omega, _, _, _, rfl, ?_⟩⟩⟩
      have q' : ∀ H', Ext H H' → Q (.int (pw (b % m) e m : Nat)) H' := fun H' e' => by rw [pw_base]; exact q H' e'
      generalize b % m = r at em hrm hrg q'
      refine ⟨fun σ' H' => ∃ (k : Nat) (u v : Option V), σ' = [some (.int b), some (.int e), some (.int m), some (.ref tl), u, some (.int ((b : Int) % (m : Int))), v] ∧ H' tl = some (.lst (nv (powL r m k))) ∧ Ext H H' ∧ (1 ≤ k ∧ k ≤ 12) ∧ r ^ k % m = 1 ∧ k ∣ 60, ?_, ?_⟩
      · refine ⟨_, rfl, m, rfl, by omega, by omega, ?_⟩
        refine for_range (lo := 0) (n := m) (fun i σ' H' => ∃ (v : Option V), σ' = [some (.int b), some (.int e), some (.int m), some (.ref tl), some (.int ((r ^ i % m : Nat) : Int)), some (.int ((b : Int) % (m : Int))), v] ∧ H' tl = some (.lst (nv (powL r m i))) ∧ Ext H H' ∧ ∀ j, 1 ≤ j → j ≤ i → ¬ r ^ j % m = 1)
          ⟨_, by rw [Nat.pow_zero, Nat.mod_eq_of_lt (by omega)]; rfl, upd_same, Ext.new htl _, fun j h1 h2 => by omega⟩ ?_ ?_
        · rintro i σ' H1 hi ⟨v, rfl, hl, e1, hno⟩
          have hlt : r ^ i % m < m := Nat.mod_lt _ (by omega)
          refine ⟨_, rfl, .inl ⟨rfl, _, SqL.of hl⟩, _, rfl, tl, _, _, rfl, rfl, hl, by rw [List.length_map, powL_len]; exact small_lt (by omega), ?_⟩
          have ev : ((r ^ i % m : Nat) : Int) * ((b : Int) % (m : Int)) % (m : Int) = ((r ^ (i + 1) % m : Nat) : Int) := by
            rw [em, ← Int.natCast_mul, ← Int.natCast_emod, Nat.pow_succ, Nat.mod_mul_mod]
          have hr12 : (b : Int) % (m : Int) < 13 := by rw [em]; omega
          have hr0 : 0 ≤ (b : Int) % (m : Int) := by rw [em]; omega
          refine ⟨_, rfl, _, rfl, _, _, rfl, rfl, .inl ⟨by omega, by omega⟩, .inl ⟨_, rfl, _, rfl, _, _, rfl, rfl, by omega, ?_⟩⟩
          have hl2 : upd H1 tl (.lst (nv (powL r m i) ++ [V.int ((r ^ i % m : Nat) : Int)])) tl = some (.lst (nv (powL r m (i + 1)))) := by
            rw [upd_same, powL_succ]
            show _ = some (HO.lst (List.map _ (powL r m i ++ [r ^ i % m])))
            rw [List.map_append]
            rfl
          have e2 : Ext H (upd H1 tl (.lst (nv (powL r m i) ++ [V.int ((r ^ i % m : Nat) : Int)]))) := e1.mut htl _
          refine ⟨_, rfl, rfl, _, rfl, ?_⟩
          show if decide (V.int (((r ^ i % m : Nat) : Int) * ((b : Int) % (m : Int)) % (m : Int)) = V.int 1) = true then _ else _
          rw [ev]
          refine ite2 (fun hb => ?_) (fun hb => ?_)
          · have hb' : r ^ (i + 1) % m = 1 := by have := of_decide_eq_true hb; injection this with this; omega
            refine ⟨i + 1, _, _, rfl, hl2, e2, ⟨by omega, by omega⟩, hb', ?_⟩
            exact Nat.dvd_of_mod_eq_zero (pord_all ⟨m, by omega⟩ ⟨r, by omega⟩ ⟨i + 1, by omega⟩ h1' hrm hrg (by show 1 ≤ i + 1; omega) hb' fun j j1 j2 => hno j.val j1 (by have : j.val < i + 1 := j2; omega))
          · refine ⟨some (.int (0 + (i : Int))), ?_, hl2, e2, fun j j1 j2 => ?_⟩
            · show [some (V.int b), some (V.int e), some (V.int m), some (V.ref tl), some (V.int (((r ^ i % m : Nat) : Int) * ((b : Int) % (m : Int)) % (m : Int))), some (V.int ((b : Int) % (m : Int))), some (V.int (0 + (i : Int)))] = _
              rw [ev]
            · rcases Nat.lt_or_ge j (i + 1) with z | z
              · exact hno j j1 (by omega)
              · rw [show j = i + 1 by omega]
                exact fun z => hb (decide_eq_true (by rw [z]; rfl))
        · rintro σ' H1 ⟨v, rfl, hl, e1, hno⟩
          obtain ⟨k, k1, k2, k3⟩ := pord_ex ⟨m, by omega⟩ ⟨r, by omega⟩ h1' hrm hrg
          exact (hno k.val k1 k2 k3).elim
      · rintro σ' H1 ⟨k, u, v, rfl, hl, e1, ⟨k1, k2⟩, hk, hd⟩
        have hk2 : r ^ k % m = 1 % m := by rw [hk, Nat.mod_eq_of_lt (by omega)]
        obtain ⟨j1, j2⟩ := powL_at (e := e) k1 hd hk2
        have hnn := Int.emod_nonneg e (show (k : Int) ≠ 0 by omega)
        refine ⟨_, rfl, _, rfl, .inl ⟨_, rfl, _, rfl, tl, _, rfl, .inl (SqL.of hl), _, _, rfl, rfl, ?_, tl, _, _, V.int (pw r e m : Nat), rfl, rfl, SqL.of hl, ?_, q' H1 e1⟩⟩
        · rw [List.length_map, powL_len]
          omega
        · rw [List.length_map, powL_len]
          rw [show e % (k : Int) = ((e % (k : Int)).toNat : Int) by omega]
          exact atI_nat (by rw [List.getElem?_map, j2]; rfl)
end
end K75

set_option Elab.async false
set_option linter.all false
set_option maxRecDepth 100000
set_option maxHeartbeats 4000000
namespace K75
open PySem PySem.Spec PyProof.Rows L2 Bk Evl
section
variable {P : Program} {w : World} {K : PySem.W.Frag} {mg : Str → Option Value} {base : Heap}
/-! ### _law_text -/
def spLText (K : PySem.W.Frag) : Sp := fun vs H Q _ => ∃ (s : Addr) (a b c : Nat), vs = [.ref s] ∧ SqT K H s [.int a, .int b, .int c] ∧ (a ≤ 12 ∧ b ≤ 12 ∧ c ≤ 12) ∧ Q (.str (ruleT a b c)) H
theorem sc_ulaw_text : FnScope ["_law_spec_here"] ["_law_spec_here"] (defScope s_ulaw_text) := ⟨rfl, rfl, rfl, by decide +kernel, rfl, by decide +kernel, by decide +kernel⟩
theorem ok_ulaw_text (T : Txt K mg) : Ok P w K mg base 1 (He.ga K "_law_text") ["_law_spec_here"] (spLText K) := by
  refine fd_ok T.f_ulaw_text sc_ulaw_text (fun vs H Q E h => ?_) (fun _ _ _ _ _ _ us hl => match us, hl with | [_], _ => rfl) (fun cdv A outer s H vs Q E hr h => ?_)
  · obtain ⟨s, a, b, c, rfl, _⟩ := h
    rfl
  · obtain ⟨s, a, b, c, rfl, hs, ⟨a2, b2, c2⟩, q⟩ := h
    have nd := sc_ulaw_text.nd
    refine ⟨_, (pss_one (ps_ret (pe_op op_add_str (pe_op op_add_str (pe_op op_add_str (pe_op op_add_str (pe_op op_add_str (pe_callTy call_str_int rfl T.z_str (by decide +kernel) (pa_cons (pe_ix ix_tup (pv 0) pe_int (by intro _ _; rfl)) pa_nil)) pe_str) (pe_callTy call_str_int rfl T.z_str (by decide +kernel) (pa_cons (pe_ix ix_tup (pv 0) pe_int (by intro _ _; rfl)) pa_nil))) pe_str) (pe_callTy call_str_int rfl T.z_str (by decide +kernel) (pa_cons (pe_ix ix_tup (pv 0) pe_int (by intro _ _; rfl)) pa_nil))) pe_str))), ?_⟩
    have la := natS_len a2
    have lb := natS_len b2
    have lc := natS_len c2
    have lr := rule_len a2 b2 c2
    have lg : ∀ k : Nat, k ≤ 12 → (k : Int).natAbs.log2 < 1920 := fun k hk => by
      show Nat.log2 k < 1920
      exact PySem.Flt.log2_lt_of (by decide) (Nat.lt_of_le_of_lt hk (Nat.lt_of_lt_of_le (show 12 < 2 ^ 4 by decide) (Nat.pow_le_pow_right (by decide) (by decide))))
    have q1 : (natS a ++ ("/n = " : Str)).length ≤ 100 := by rw [natS_eq, t1, SX.S_cat, SX.S_len]; rw [natS_eq, SX.S_len] at la; simp; omega
    have q2 : (natS a ++ ("/n = " : Str) ++ natS b).length ≤ 100 := by rw [natS_eq, natS_eq, t1, SX.S_cat, SX.S_cat, SX.S_len]; rw [natS_eq, SX.S_len] at la lb; simp; omega
    have q3 : (natS a ++ ("/n = " : Str) ++ natS b ++ ("/x + " : Str)).length ≤ 100 := by rw [natS_eq, natS_eq, t1, t2, SX.S_cat, SX.S_cat, SX.S_cat, SX.S_len]; rw [natS_eq, SX.S_len] at la lb; simp; omega
    have q4 : (natS a ++ ("/n = " : Str) ++ natS b ++ ("/x + " : Str) ++ natS c).length ≤ 100 := by rw [natS_eq, natS_eq, natS_eq, t1, t2, SX.S_cat, SX.S_cat, SX.S_cat, SX.S_cat, SX.S_len]; rw [natS_eq, SX.S_len] at la lb lc; simp; omega
    have r1 : ("/n = " : Str).length = 5 := by decide +kernel
    have r2 : ("/x + " : Str).length = 5 := by decide +kernel
    have r3 : ("/y" : Str).length = 2 := by decide +kernel
    exact ⟨_, rfl, s, _, 0, _, rfl, rfl, hs, rfl, _, rfl, lg a a2, natS a, _, rfl, rfl, small_line (by omega), _, rfl, s, _, 1, _, rfl, rfl, hs, rfl, _, rfl, lg b b2, _, natS b, rfl, rfl, small_line (by omega), _, _, rfl, rfl, small_line (by omega), _, rfl, s, _, 2, _, rfl, rfl, hs, rfl, _, rfl, lg c c2, _, natS c, rfl, rfl, small_line (by omega), _, _, rfl, rfl, small_line (by omega), q⟩
end
end K75

set_option Elab.async false
set_option linter.all false
set_option maxRecDepth 100000
set_option maxHeartbeats 4000000
namespace K75
open PySem PySem.Spec PyProof.Rows L2 Bk Evl
/-! data that == and != can lay -/
def Sh (n : Nat) (d : PyData) : Prop := d.canLay0 = true ∧ d.depth ≤ n
theorem canAll : ∀ {ds : List PyData}, (∀ d ∈ ds, d.canLay0 = true) → PyData.canLayAll0 ds = true
  | [], _ => rfl
  | d :: ds, h => by
    show (d.canLay0 && PyData.canLayAll0 ds) = true
    rw [h d List.mem_cons_self, canAll fun e he => h e (List.mem_cons_of_mem _ he)]
    rfl
theorem depAll {n : Nat} : ∀ {ds : List PyData}, (∀ d ∈ ds, d.depth ≤ n) → PyData.depthAll ds ≤ n
  | [], _ => Nat.zero_le _
  | d :: ds, h => by
    show max d.depth (PyData.depthAll ds) ≤ n
    exact Nat.max_le.mpr ⟨h d List.mem_cons_self, depAll fun e he => h e (List.mem_cons_of_mem _ he)⟩
theorem Sh.int (i : Int) (n : Nat) : Sh n (.int i) := ⟨rfl, Nat.zero_le _⟩
theorem Sh.tup {n : Nat} {ds : List PyData} (h : ∀ d ∈ ds, Sh n d) : Sh (n + 1) (.tuple ds) := ⟨canAll fun d hd => (h d hd).1, Nat.succ_le_succ (depAll fun d hd => (h d hd).2)⟩
theorem Sh.lst {n : Nat} {ds : List PyData} (h : ∀ d ∈ ds, Sh n d) : Sh (n + 1) (.list ds) := ⟨canAll fun d hd => (h d hd).1, Nat.succ_le_succ (depAll fun d hd => (h d hd).2)⟩
theorem Sh.shaped {n : Nat} {d : PyData} (h : Sh n d) (hn : n ≤ 64) : SeqAt.shaped d = true := by
  unfold SeqAt.shaped
  rw [h.1, decide_eq_true (Nat.le_trans h.2 hn)]
  rfl
theorem Sh.nil (n : Nat) : Sh (n + 1) (.list []) := Sh.lst fun d h => by cases h
theorem eqv_nil (ds : List PyData) : PyData.eqv (.list ds) (.list []) = ds.isEmpty := by
  cases ds with
  | nil => rfl
  | cons d ds => rfl
def dS (L : Sps3) : List PyData := L.map fun q => PyData.tuple [.int q.1, .int q.2.1, .int q.2.2]
theorem dS_sh (L : Sps3) : Sh 5 (.list (dS L)) := Sh.lst fun d hd => by
  obtain ⟨q, _, rfl⟩ := List.mem_map.mp hd
  exact Sh.tup (n := 3) fun e he => by
    simp only [List.mem_cons, List.not_mem_nil, or_false] at he
    rcases he with rfl | rfl | rfl <;> exact Sh.int _ _
theorem dpall_tris {K : PySem.W.Frag} {H : Hp} : ∀ {ts : List Addr} {L : Sps3}, Paired (fun p (q : Int × Int × Int) => H p = some (.tup [.int q.1, .int q.2.1, .int q.2.2])) ts L → DpAll K H (ts.map V.ref) (dS L)
  | _, _, .nil => .nil
  | _, _, .cons h t => .cons (.tup (SqT.of h) (.cons (.int _) (.cons (.int _) (.cons (.int _) .nil)))) (dpall_tris t)
/-- each of a sorted list once -/
def onceI : List Int → List Int := fun l => l.foldl (fun a x => if a.getLast? = some x then a else a ++ [x]) []
theorem once_snoc (l : List Int) (x : Int) : onceI (l ++ [x]) = if (onceI l).getLast? = some x then onceI l else onceI l ++ [x] := by
  unfold onceI
  rw [List.foldl_append]
  rfl
theorem once_ok : ∀ l : List Int, l.Pairwise (· ≤ ·) → (onceI l).Pairwise (· < ·) ∧ (∀ x, x ∈ onceI l ↔ x ∈ l) ∧ (onceI l).length ≤ l.length := by
  intro l
  induction h : l.length generalizing l with
  | zero =>
    intro _
    obtain rfl := List.length_eq_zero_iff.mp h
    exact ⟨.nil, fun x => Iff.rfl, Nat.le_refl _⟩
  | succ n ih =>
    intro hs
    obtain ⟨l', x, rfl⟩ : ∃ l' x, l = l' ++ [x] := ⟨l.dropLast, l.getLast (by intro z; rw [z] at h; cases h), (List.dropLast_concat_getLast _).symm⟩
    rw [List.length_append, List.length_singleton] at h
    rw [List.pairwise_append] at hs
    obtain ⟨i1, i2, i3⟩ := ih l' (by omega) hs.1
    rw [once_snoc]
    split
    · rename_i hl
      refine ⟨i1, fun y => ?_, by omega⟩
      rw [i2 y, List.mem_append]
      constructor
      · exact .inl
      · rintro (z | z)
        · exact z
        · rw [List.mem_singleton.mp z]
          exact (i2 x).mp (List.mem_of_getLast? hl)
    · rename_i hl
      refine ⟨?_, fun y => by rw [List.mem_append, List.mem_append, i2 y], by rw [List.length_append, List.length_singleton]; omega⟩
      rw [List.pairwise_append]
      refine ⟨i1, by simp, fun y hy z hz => ?_⟩
      obtain rfl := List.mem_singleton.mp hz
      have h1 : y ≤ z := hs.2.2 y ((i2 y).mp hy) z (by simp)
      rcases Int.lt_or_eq_of_le h1 with h2 | h2
      · exact h2
      · exfalso
        subst h2
        -- y is in the list, greatest: it is the last
        obtain ⟨a, ha⟩ : ∃ a, (onceI l').getLast? = some a := by
          cases e : (onceI l').getLast? with
          | none => rw [List.getLast?_eq_none_iff] at e; rw [e] at hy; cases hy
          | some a => exact ⟨a, rfl⟩
        have ha' := List.mem_of_getLast? ha
        have h3 : a ≤ y := hs.2.2 a ((i2 a).mp ha') y (by simp)
        have h4 : y ≤ a := by
          obtain ⟨pre, hp⟩ := List.getLast?_eq_some_iff.mp ha
          rw [hp] at hy i1
          rcases List.mem_append.mp hy with z | z
          · have := (List.pairwise_append.mp i1).2.2 y z a (by simp)
            omega
          · rw [List.mem_singleton.mp z]
            exact Int.le_refl _
        exact hl (by rw [ha, Int.le_antisymm h3 h4])
theorem paired_last {α β : Type} {F : α → β → Prop} : ∀ {xs : List α} {ys : List β} {x : α} {y : β}, Paired F (xs ++ [x]) (ys ++ [y]) → F x y
  | [], [], _, _, .cons h _ => h
  | [], y0 :: ys, _, _, .cons _ h => by cases ys <;> cases h
  | x0 :: xs, [], _, _, .cons _ h => by cases xs <;> cases h
  | x0 :: xs, y0 :: ys, _, _, .cons _ h => paired_last h
theorem given_filter (js : List Int) (p : Int → Bool) : given js.length (fun i => p (js.getD i 0)) (fun i => V.int (js.getD i 0)) = (js.filter p).map V.int := by
  have e : (List.range js.length).map (fun i => js.getD i 0) = js := by
    refine List.ext_getElem (by simp) fun i h1 h2 => ?_
    rw [List.getElem_map, List.getElem_range, List.getD_eq_getElem?_getD, List.getElem?_eq_getElem h2]
    rfl
  unfold given
  rw [show (js.filter p) = ((List.range js.length).map (fun i => js.getD i 0)).filter p by rw [e], List.filter_map, List.map_map]
  rfl
end K75

set_option Elab.async false
set_option linter.all false
set_option maxRecDepth 100000
set_option maxHeartbeats 4000000
namespace K75
open PySem PySem.Spec PyProof.Rows L2 Bk Evl
section
variable {P : Program} {w : World} {K : PySem.W.Frag} {mg : Str → Option Value} {base : Heap}
/-! ### _law_spans -/
def spLSpans (K : PySem.W.Frag) : Sp := fun vs H Q _ => ∃ (s t : Addr) (a b c : Nat) (cl : Prs), vs = [.ref s, .ref t] ∧ SqT K H s [.int a, .int b, .int c] ∧ ((1 ≤ b ∧ b ≤ 12) ∧ 1 ≤ c ∧ c ≤ 12) ∧ PairsAt K H t cl ∧ (cl.Pairwise fun x y => x.1 < y.1) ∧ cl.length ≤ 12 ∧
  ∀ sl L H', TrisAt H' sl L → SpansOf cl b c L → H sl = none → Ext H H' → Q (.ref sl) H'
theorem sc_ulaw_spans : FnScope ["_law_spec_here", "_law_core_here", "_law_here", "_law_near", "_law_far", "_law_found", "_law_k", "_law_many", "_law_j"] ["_law_spec_here", "_law_core_here"] (defScope s_ulaw_spans) := ⟨rfl, rfl, rfl, by decide +kernel, rfl, by decide +kernel, by decide +kernel⟩
theorem ok_ulaw_spans (T : Txt K mg) : Ok P w K mg base 2 (He.ga K "_law_spans") ["_law_spec_here", "_law_core_here"] (spLSpans K) := by
  obtain ⟨fd_ulaw_split, F_ulaw_split, b_ulaw_split, k_ulaw_split, _⟩ := (ok_ulaw_split (P := P) (w := w) (base := base) T).ex
  refine fd_ok T.f_ulaw_spans sc_ulaw_spans (fun vs H Q E h => ?_) (fun _ _ _ _ _ _ us hl => match us, hl with | [_, _], _ => rfl) (fun cdv A outer s H vs Q E hr h => ?_)
  · obtain ⟨s, t, a, b, c, cl, rfl, _⟩ := h
    rfl
  · obtain ⟨s, t, a, b, c, cl, rfl, hs, ⟨⟨b1, b2⟩, c1, c2⟩, p3, clasc, cllen, q⟩ := h
    have nd := sc_ulaw_spans.nd
    refine ⟨_, (pss_cons (ps_asg (pe_tup (pa_cons (pe_callTy (call_dictT rfl) rfl T.z_dict (by decide +kernel) (pa_cons (pv 1) pa_nil)) (pa_cons (pe_callTy (call_dictT rfl) rfl T.z_dict (by decide +kernel) (pa_cons (pe_call F_ulaw_split (hr.mono (by decide)) rfl T.g_ulaw_split k_ulaw_split b_ulaw_split .nil pass0 (pa_cons (pe_ix ix_tup (pv 0) pe_int (by intro _ _; rfl)) pa_nil)) pa_nil)) pa_nil))) (pg_tup rfl (pgs_cons (pg_name (i := 2) nd rfl (Or.inr rfl)) (pgs_cons (pg_name (i := 3) nd rfl (Or.inl rfl)) pgs_nil)))) (pss_cons (ps_par (i := 4) (j := 5) rfl nd rfl rfl (by decide) rfl rfl (pa_cons (pe_callTy (call_dictT rfl) rfl T.z_dict (by decide +kernel) (pa_cons (pe_call F_ulaw_split (hr.mono (by decide)) rfl T.g_ulaw_split k_ulaw_split b_ulaw_split .nil pass0 (pa_cons (pe_ix ix_tup (pv 0) pe_int (by intro _ _; rfl)) pa_nil)) pa_nil)) (pa_cons (pe_lst pa_nil) pa_nil)) (by rfl)) (pss_cons (ps_for PassesOwn.never rfl (pi_list (pe_callB cr_sortedI rfl T.z_sorted (by decide +kernel) (pa_cons (pe_op op_cat (pe_callTy (call_listD rfl) rfl T.z_list (by decide +kernel) (pa_cons (pv 2) pa_nil)) (pe_lc (own := [("_law_j", 8)]) (g := (gName 8)) rfl nd (pi_list (pe_op op_cat (pe_callTy (call_listD rfl) rfl T.z_list (by decide +kernel) (pa_cons (pv 3) pa_nil)) (pe_callTy (call_listD rfl) rfl T.z_list (by decide +kernel) (pa_cons (pv 4) pa_nil)))) (blkOk_by (own := [("_law_j", 8)]) (N := ["_law_spec_here", "_law_core_here", "_law_here", "_law_near", "_law_far", "_law_found", "_law_k", "_law_many", "_law_j"]) (sc := defScope s_ulaw_spans) (by decide +kernel)) (fun _ _ _ _ _ => (pg_name (i := 8) nd rfl (Or.inl rfl))) (fun _ _ _ _ _ => (pts_one (pt_cmp (pc_dnotin (ru hr) (pv 8) (pv 2))))) (fun _ _ _ _ _ => (pv 8)))) pa_nil))) (pg_name (i := 6) nd rfl (Or.inl rfl)) (pss_one (ps_if (PW.pt (pw_or (pt_cmpR (op_eqD (hr.units)) (pv 5) (pe_lst pa_nil) (nomark _)) (pw_or1 (pt_cmpR op_ne (pe_ix ix_tup (pe_ix ix_list (pv 5) (pe_un un_neg pe_int) (by intro _ _; rfl)) pe_int (by intro _ _; rfl)) (pv 6) (nomark _))))) (pss_cons (ps_set (i := 7) nd rfl (Or.inl rfl) (pe_dget2 (ru hr) (pv 2) (pv 6) pe_int ⟨rfl, rfl, rfl, rfl⟩)) (pss_one (ps_expr (pe_bm PySem.F.plainAttrs_list PySem.F.slot_list_append PySem.F.type_list_append mt_append (pv 5) (pa_cons (pe_tup (pa_cons (pv 6) (pa_cons (pe_op op_sub (pe_op op_sub pe_int (pv 7)) (pe_dget2 (ru hr) (pv 3) (pv 6) pe_int ⟨rfl, rfl, rfl, rfl⟩)) (pa_cons (pe_op op_add (pv 7) (pe_dget2 (ru hr) (pv 4) (pv 6) pe_int ⟨rfl, rfl, rfl, rfl⟩)) pa_nil)))) pa_nil))))) pss_nil))) (pss_one (ps_ret (pv 5)))))), ?_⟩
    obtain ⟨ps1, pl1, pp1⟩ := dictOf p3
    refine ⟨_, rfl, t, ps1, _, rfl, pl1, pp1, fun d1 hd1 => ?_⟩
    rw [merge_entI (nodup_asc clasc)]
    have e4 := Ext.new hd1 (.dK (cl.map entI))
    have k1 : upd H d1 (.dK (cl.map entI)) d1 = some (.dK (cl.map entI)) := upd_same
    generalize upd H d1 (.dK (cl.map entI)) = H4 at e4 k1 ⊢
    refine ⟨_, rfl, s, _, 1, _, rfl, rfl, sqt_ext hs e4, rfl, b, rfl, ⟨b1, by omega⟩, fun t5 H5 p5 _ e5 => ?_⟩
    obtain ⟨ps2, pl2, pp2⟩ := dictOf p5
    refine ⟨t5, ps2, _, rfl, pl2, pp2, fun d2 hd2 => ?_⟩
    rw [merge_entI (nodup_asc (facN_asc b2))]
    have e6 := Ext.new hd2 (.dK ((toI (facN b)).map entI))
    have k2 : upd H5 d2 (.dK ((toI (facN b)).map entI)) d2 = some (.dK ((toI (facN b)).map entI)) := upd_same
    generalize upd H5 d2 (.dK ((toI (facN b)).map entI)) = H6 at e6 k2 ⊢
    refine ⟨by show 2 ≤ sizeLine; decide, fun tp htp => ⟨tp, _, rfl, SqT.of upd_same, rfl, _, _, rfl, _, _, rfl, rfl, ?_⟩⟩
    have e36 := ((e4.trans e5).trans e6).trans (Ext.new htp (.tup [.ref d1, .ref d2]))
    have k1 := (Ext.new htp (.tup [.ref d1, .ref d2])) _ _ (e6 _ _ (e5 _ _ k1))
    have k2 := (Ext.new htp (.tup [.ref d1, .ref d2])) _ _ k2
    generalize upd H6 tp (.tup [.ref d1, .ref d2]) = H6 at e36 k1 k2 ⊢
    refine ⟨_, rfl, s, _, 2, _, rfl, rfl, sqt_ext hs e36, rfl, c, rfl, ⟨c1, by omega⟩, fun t7 H7 p7 _ e7 => ?_⟩
    obtain ⟨ps3, pl3, pp3⟩ := dictOf p7
    refine ⟨t7, ps3, _, rfl, pl3, pp3, fun d3 hd3 => ?_⟩
    rw [merge_entI (nodup_asc (facN_asc c2))]
    have e8 := Ext.new hd3 (.dK ((toI (facN c)).map entI))
    have k3 : upd H7 d3 (.dK ((toI (facN c)).map entI)) d3 = some (.dK ((toI (facN c)).map entI)) := upd_same
    generalize upd H7 d3 (.dK ((toI (facN c)).map entI)) = H8 at e8 k3 ⊢
    refine ⟨by show 0 ≤ sizeLine; decide, fun sl hsl => ⟨_, _, rfl, ?_⟩⟩
    have e38 := (e36.trans e7).trans e8
    have hsl0 : H sl = none := by
      cases z : H sl with
      | none => rfl
      | some o => rw [e38 _ _ z] at hsl; cases hsl
    have k1 := e8 _ _ (e7 _ _ k1)
    have k2 := e8 _ _ (e7 _ _ k2)
    have nd1 := ne_of_none k1 hsl
    have nd2 := ne_of_none k2 hsl
    have nd3 := ne_of_none k3 hsl
    have ee := Ext.new hsl (.lst [])
    have k1 := ee _ _ k1
    have k2 := ee _ _ k2
    have k3 := ee _ _ k3
    have e39 := e38.trans ee
    have hs9 : upd H8 sl (.lst []) sl = some (.lst []) := upd_same
    generalize upd H8 sl (.lst []) = H9 at e39 k1 k2 k3 hs9 ⊢
    clear e4 e5 e6 e7 e8 e36 e38 ee pl1 pp1 pl2 pp2 pl3 pp3 p5 p7
    -- list(here) + [..]
    refine ⟨_, rfl, d1, _, rfl, .inl k1, fun u1 hu1 => ?_⟩
    have eu1 := Ext.new hu1 (.lst ((cl.map entI).map fun kv => kV kv.1))
    have ku1 : upd H9 u1 (.lst ((cl.map entI).map fun kv => kV kv.1)) u1 = some (.lst ((cl.map (·.1)).map V.int)) := by rw [upd_same, List.map_map, List.map_map]; rfl
    have k1 := eu1 _ _ k1
    have k2 := eu1 _ _ k2
    have k3 := eu1 _ _ k3
    have hs9 := eu1 _ _ hs9
    have e39 := e39.trans eu1
    generalize upd H9 u1 (.lst ((cl.map entI).map fun kv => kV kv.1)) = H10 at e39 ku1 k1 k2 k3 hs9 ⊢
    refine ⟨_, rfl, d2, _, rfl, .inl k2, fun u2 hu2 => ?_⟩
    have eu2 := Ext.new hu2 (.lst (((toI (facN b)).map entI).map fun kv => kV kv.1))
    have ku2 : upd H10 u2 (.lst (((toI (facN b)).map entI).map fun kv => kV kv.1)) u2 = some (.lst (((toI (facN b)).map (·.1)).map V.int)) := by rw [upd_same, List.map_map, List.map_map]; rfl
    have k1 := eu2 _ _ k1
    have k3 := eu2 _ _ k3
    have k2 := eu2 _ _ k2
    have hs9 := eu2 _ _ hs9
    have ku1 := eu2 _ _ ku1
    have e39 := e39.trans eu2
    generalize upd H10 u2 (.lst (((toI (facN b)).map entI).map fun kv => kV kv.1)) = H11 at e39 ku1 ku2 k1 k2 k3 hs9 ⊢
    refine ⟨_, rfl, d3, _, rfl, .inl k3, fun u3 hu3 => ?_⟩
    have eu3 := Ext.new hu3 (.lst (((toI (facN c)).map entI).map fun kv => kV kv.1))
    have ku3 : upd H11 u3 (.lst (((toI (facN c)).map entI).map fun kv => kV kv.1)) u3 = some (.lst (((toI (facN c)).map (·.1)).map V.int)) := by rw [upd_same, List.map_map, List.map_map]; rfl
    have k1 := eu3 _ _ k1
    have k2 := eu3 _ _ k2
    have k3 := eu3 _ _ k3
    have hs9 := eu3 _ _ hs9
    have ku1 := eu3 _ _ ku1
    have ku2 := eu3 _ _ ku2
    have e39 := e39.trans eu3
    generalize upd H11 u3 (.lst (((toI (facN c)).map entI).map fun kv => kV kv.1)) = H12 at e39 ku1 ku2 ku3 k1 k2 k3 hs9 ⊢
    have l2 := facN_len3 b2
    have l3 := facN_len3 c2
    refine ⟨u2, u3, _, _, rfl, rfl, ku2, ku3, by rw [List.length_map, List.length_map, List.length_map, List.length_map]; exact small_line (by omega), fun u4 hu4 => ?_⟩
    rw [← List.map_append]
    have eu4 := Ext.new hu4 (.lst (((toI (facN b)).map (·.1) ++ (toI (facN c)).map (·.1)).map V.int))
    have ku4 : upd H12 u4 (.lst (((toI (facN b)).map (·.1) ++ (toI (facN c)).map (·.1)).map V.int)) u4 = some (.lst (((toI (facN b)).map (·.1) ++ (toI (facN c)).map (·.1)).map V.int)) := upd_same
    have k1 := eu4 _ _ k1
    have k2 := eu4 _ _ k2
    have k3 := eu4 _ _ k3
    have hs9 := eu4 _ _ hs9
    have ku1 := eu4 _ _ ku1
    have e39 := e39.trans eu4
    have hjl : ((toI (facN b)).map (·.1) ++ (toI (facN c)).map (·.1)).length ≤ 6 := by rw [List.length_append, List.length_map, List.length_map]; omega
    generalize hjs : (toI (facN b)).map (·.1) ++ (toI (facN c)).map (·.1) = js at eu4 ku4 k1 k2 k3 hs9 ku1 e39 hjl ⊢
    generalize upd H12 u4 (.lst (js.map V.int)) = H13 at e39 ku1 ku4 k1 k2 k3 hs9 ⊢
    refine ⟨u4, rfl, ⟨_, SqL.of ku4⟩, fun D hD => ?_⟩
    refine lc_list (xs := js.map V.int) (Cw H13 (fun i => decide (js.getD i 0 ∉ cl.map (·.1))) (fun i => V.int (js.getD i 0)) D) ⟨hD, Ex.new hD, upd_same⟩ (fun i H6 _ p => SqL.of (p.2.1 _ _ ku4)) (fun i y H6 hy p => ?_) (fun H14 p => ?_)
    · have il : i < (js.map V.int).length := (List.getElem?_eq_some_iff.mp hy).1
      rw [List.getElem?_map] at hy
      obtain ⟨j, hj, rfl⟩ := Option.map_eq_some_iff.mp hy
      have hjd : js.getD i 0 = j := by rw [List.getD_eq_getElem?_getD, hj]; rfl
      rw [List.length_map] at il
      refine ⟨rfl, cw_turn p (by omega) (fun H1 e Q q => ?_) (fun _ H1 e Q q => ⟨_, rfl, by rw [hjd] at q; exact q H1 (Ex.refl H1)⟩)⟩
      rw [hjd] at q
      refine ⟨_, rfl, _, rfl, d1, (valV (cl.map entI) (Sum.inl j)), rfl, .inl ⟨_, Sum.inl j, .inl (e _ _ k1), rfl, rfl⟩, _, rfl, ?_⟩
      rw [show (!(valV (cl.map entI) (Sum.inl j : Key)).isSome) = decide (j ∉ cl.map (·.1)) by
        rw [Bool.eq_iff_iff, decide_eq_true_iff]
        have hk : (Sum.inl j : Key) ∈ (cl.map entI).map (·.1) ↔ j ∈ cl.map (·.1) := by
          rw [List.map_map, List.mem_map, List.mem_map]
          exact ⟨fun ⟨z, h1, h2⟩ => ⟨z, h1, Sum.inl.inj h2⟩, fun ⟨z, h1, h2⟩ => ⟨z, h1, congrArg Sum.inl h2⟩⟩
        cases z : valV (cl.map entI) (Sum.inl j : Key) with
        | none => exact ⟨fun _ h => valV_not z (hk.mpr h), fun _ => rfl⟩
        | some v => exact ⟨fun h => (by cases h), fun h => absurd (hk.mp (valV_in z)) h⟩]
      exact q H1 (Ex.refl H1)
    · obtain ⟨p1, p2, p3⟩ := p
      have e4 : H14 D = some (.lst ((js.filter fun j => decide (j ∉ cl.map (·.1))).map V.int)) := by
        rw [p3, List.length_map, given_filter js fun j => decide (j ∉ cl.map (·.1))]
      have e39 := e39.trans p2
      have k1 := p2 _ _ k1
      have k2 := p2 _ _ k2
      have k3 := p2 _ _ k3
      have hs9 := p2 _ _ hs9
      have ku1 := p2 _ _ ku1
      have hfl : (js.filter fun j => decide (j ∉ cl.map (·.1))).length ≤ 6 := Nat.le_trans (List.length_filter_le _ _) hjl
      refine ⟨u1, D, _, _, rfl, rfl, ku1, e4, by rw [List.length_map, List.length_map, List.length_map]; exact small_line (by omega), fun u5 hu5 => ?_⟩
      rw [← List.map_append]
      have hkm : ∀ y, y ∈ cl.map (·.1) ++ (js.filter fun j => decide (j ∉ cl.map (·.1))) ↔ y ∈ cl.map (·.1) ∨ y ∈ (toI (facN b)).map (·.1) ∨ y ∈ (toI (facN c)).map (·.1) := fun y => by
        rw [← List.mem_append (s := (toI (facN b)).map (·.1)), hjs, List.mem_append, List.mem_filter, decide_eq_true_iff]
        constructor
        · rintro (z | z)
          · exact .inl z
          · exact .inr z.1
        · rintro (z | z)
          · exact .inl z
          · by_cases z' : y ∈ cl.map (·.1)
            · exact .inl z'
            · exact .inr ⟨z, z'⟩
      have hkl : (cl.map (·.1) ++ (js.filter fun j => decide (j ∉ cl.map (·.1)))).length ≤ 18 := by
        rw [List.length_append, List.length_map]
        omega
      generalize cl.map (·.1) ++ (js.filter fun j => decide (j ∉ cl.map (·.1))) = ks at hkm hkl ⊢
      refine ⟨u5, ks, rfl, SqL.of upd_same, fun ys pr perm rise hpr => ?_⟩
      have e5 := (Ext.new hu5 (.lst (ks.map V.int))).trans (Ext.new hpr (.lst (ys.map V.int)))
      have hys : upd (upd H14 u5 (.lst (ks.map V.int))) pr (.lst (ys.map V.int)) pr = some (.lst (ys.map V.int)) := upd_same
      have nsp : pr ≠ sl := fun z => by
        subst z
        exact ne_of_none (Ext.new hu5 (.lst (ks.map V.int)) _ _ hs9) hpr rfl
      have k1 := e5 _ _ k1
      have k2 := e5 _ _ k2
      have k3 := e5 _ _ k3
      have hs9 := e5 _ _ hs9
      have e39 := e39.trans e5
      generalize upd (upd H14 u5 (.lst (ks.map V.int))) pr (.lst (ys.map V.int)) = H15 at e39 hys k1 k2 k3 hs9 ⊢
      obtain ⟨o1, o2, o3⟩ := once_ok ys rise
      have ylen : ys.length ≤ 18 := by rw [perm.length_eq]; exact hkl
      refine ⟨pr, rfl, ⟨_, SqL.of hys⟩, ?_⟩
      refine for_list (xs := ys.map V.int) (fun i σ H' => ∃ (u v : Option V), σ = [some (.ref s), some (.ref t), some (.ref d1), some (.ref d2), some (.ref d3), some (.ref sl), u, v, none] ∧ (∀ y o, H15 y = some o → y ≠ sl → H' y = some o) ∧ TrisAt H' sl ((onceI (ys.take i)).map (spanOf cl b c)))
        ⟨_, _, rfl, fun _ _ e _ => e, [], hs9, .nil⟩ ?_ ?_ ?_
      · rintro i σ H' _ ⟨u, v, rfl, e, _⟩
        exact SqL.of (e _ _ hys nsp)
      · rintro i y0 σ H' hy0 ⟨u, v, rfl, e, ts, hts, hpt⟩
        rw [List.getElem?_map] at hy0
        obtain ⟨y, hy, rfl⟩ := Option.map_eq_some_iff.mp hy0
        have tk : ys.take (i + 1) = ys.take i ++ [y] := by rw [List.take_add_one, hy] <;> rfl
        have il := (List.getElem?_eq_some_iff.mp hy).1
        have k1 := e _ _ k1 nd1
        have k2 := e _ _ k2 nd2
        have k3 := e _ _ k3 nd3
        have tl : ts.length = (onceI (ys.take i)).length := by rw [hpt.length, List.length_map]
        have hts' : ts.length ≤ 18 := by
          rw [tl]
          exact Nat.le_trans (once_ok _ (rise.sublist (List.take_sublist _ _))).2.2 (by rw [List.length_take]; omega)
        have hos := once_snoc (ys.take i) y
        rw [← tk] at hos
        refine ⟨_, rfl, by show 0 ≤ sizeLine; decide, fun nl hnl => ?_⟩
        have en := Ext.new hnl (.lst [])
        refine ⟨.list (dS ((onceI (ys.take i)).map (spanOf cl b c))), .list [], .lst (SqL.of (en _ _ hts)) (dpall_tris (L2.Paired.mapP hpt fun q z w => en _ _ w)), .lst (SqL.of upd_same) .nil, (dS_sh _).shaped (by decide), (Sh.nil 0).shaped (by decide), _, rfl, ?_⟩
        rw [eqv_nil]
        generalize upd H' nl (.lst []) = Hn at en ⊢
        have k1 := en _ _ k1
        have k2 := en _ _ k2
        have k3 := en _ _ k3
        have hts0 := hts
        have hts := en _ _ hts
        have hpt := L2.Paired.mapP hpt fun q z w => en _ _ w
        have e : ∀ y o, H15 y = some o → y ≠ sl → Hn y = some o := fun y o h1 h2 => en _ _ (e _ _ h1 h2)
        cases hem : (onceI (ys.take i)) with
        | nil =>
          rw [hem] at hos hpt tl
          have ho : onceI (ys.take (i + 1)) = [] ++ [y] := by rw [hos]; rfl
          refine iteT ?_
          refine ⟨_, rfl, d1, rfl, .inl ⟨_, .inl k1⟩, _, rfl, _, .inl ⟨cl.map entI, Sum.inl y, .inl k1, rfl, rfl⟩, ?_⟩
          rw [getD_entI]
          refine ⟨_, rfl, .inl ⟨rfl, _, SqL.of hts⟩, ?_⟩
          refine ⟨_, rfl, _, rfl, _, _, rfl, rfl, _, rfl, d2, rfl, .inl ⟨_, .inl k2⟩, _, rfl, _, .inl ⟨(toI (facN b)).map entI, Sum.inl y, .inl k2, rfl, rfl⟩, ?_⟩
          rw [getD_entI]
          refine ⟨_, _, rfl, rfl, _, rfl, _, rfl, d3, rfl, .inl ⟨_, .inl k3⟩, _, rfl, _, .inl ⟨(toI (facN c)).map entI, Sum.inl y, .inl k3, rfl, rfl⟩, ?_⟩
          rw [getD_entI]
          refine ⟨_, _, rfl, rfl, by show 3 ≤ sizeLine; decide, fun tp htp => ?_⟩
          have nst : sl ≠ tp := ne_of_none hts htp
          refine ⟨sl, _, _, rfl, rfl, by rw [upd_ne nst]; exact hts, by rw [List.length_map]; exact small_lt (by omega), ?_⟩
          refine ⟨_, _, rfl, fun z o e' ne => ?_, ts ++ [tp], by rw [upd_same, List.map_append]; rfl, ?_⟩
          · rw [upd_ne ne, upd_ne (ne_of_none (e _ _ e' ne) htp)]
            exact e _ _ e' ne
          · rw [ho, List.map_append]
            refine Paired.snoc (L2.Paired.mapP hpt fun q z w => ?_) ?_
            · rw [upd_ne (ne_of w hts (by intro z; cases z)), upd_ne (ne_of_none w htp)]
              exact w
            · rw [upd_ne nst.symm, upd_same]
              show some (HO.tup [V.int y, V.int (0 - getI cl y - getI (toI (facN b)) y), V.int (getI cl y + getI (toI (facN c)) y)]) = _
              rw [Int.zero_sub]
              rfl
        | cons z0 zs =>
          refine iteF ?_
          obtain ⟨zi, zl, hz⟩ : ∃ zi zl, onceI (ys.take i) = zi ++ [zl] := ⟨(onceI (ys.take i)).dropLast, (onceI (ys.take i)).getLast (by rw [hem]; simp), (List.dropLast_concat_getLast _).symm⟩
          rw [hz] at hpt tl
          rw [hz] at hos
          rw [List.getLast?_concat] at hos
          obtain ⟨ti, tz, rfl⟩ : ∃ ti tz, ts = ti ++ [tz] := ⟨ts.dropLast, ts.getLast (by intro z; rw [z] at tl; simp at tl), (List.dropLast_concat_getLast _).symm⟩
          have hlast : Hn tz = some (.tup [.int zl, .int (-getI cl zl - getI (toI (facN b)) zl), .int (getI cl zl + getI (toI (facN c)) zl)]) := by
            rw [List.map_append] at hpt
            have h := paired_last (ys := zi.map (spanOf cl b c)) (y := spanOf cl b c zl) hpt
            exact h
          refine ⟨_, rfl, _, rfl, sl, _, -1, .ref tz, rfl, rfl, SqL.of hts, by rw [List.map_append]; exact atI_last _ _, tz, _, 0, .int zl, rfl, rfl, SqT.of hlast, rfl, _, rfl, rfl, _, rfl, ?_⟩
          by_cases hzy : zl = y
          · subst hzy
            rw [if_pos rfl] at hos
            show if (!decide (V.int zl = V.int zl)) = true then _ else _
            rw [decide_eq_true rfl]
            refine iteF ⟨_, _, rfl, e, _, hts, ?_⟩
            rw [hos]
            exact hpt
          · rw [if_neg (fun z => hzy (Option.some.inj z))] at hos
            have ho : onceI (ys.take (i + 1)) = (zi ++ [zl]) ++ [y] := hos
            show if (!decide (V.int zl = V.int y)) = true then _ else _
            rw [decide_eq_false fun z => hzy (by injection z)]
            refine iteT ?_
            refine ⟨_, rfl, d1, rfl, .inl ⟨_, .inl k1⟩, _, rfl, _, .inl ⟨cl.map entI, Sum.inl y, .inl k1, rfl, rfl⟩, ?_⟩
            rw [getD_entI]
            refine ⟨_, rfl, .inl ⟨rfl, _, SqL.of hts⟩, ?_⟩
            refine ⟨_, rfl, _, rfl, _, _, rfl, rfl, _, rfl, d2, rfl, .inl ⟨_, .inl k2⟩, _, rfl, _, .inl ⟨(toI (facN b)).map entI, Sum.inl y, .inl k2, rfl, rfl⟩, ?_⟩
            rw [getD_entI]
            refine ⟨_, _, rfl, rfl, _, rfl, _, rfl, d3, rfl, .inl ⟨_, .inl k3⟩, _, rfl, _, .inl ⟨(toI (facN c)).map entI, Sum.inl y, .inl k3, rfl, rfl⟩, ?_⟩
            rw [getD_entI]
            refine ⟨_, _, rfl, rfl, by show 3 ≤ sizeLine; decide, fun tp htp => ?_⟩
            have nst : sl ≠ tp := ne_of_none hts htp
            refine ⟨sl, _, _, rfl, rfl, by rw [upd_ne nst]; exact hts, by rw [List.length_map]; exact small_lt (by omega), ?_⟩
            refine ⟨_, _, rfl, fun z o e' ne => ?_, (ti ++ [tz]) ++ [tp], by rw [upd_same]; exact congrArg _ (congrArg _ (by simp)), ?_⟩
            · rw [upd_ne ne, upd_ne (ne_of_none (e _ _ e' ne) htp)]
              exact e _ _ e' ne
            · rw [ho, List.map_append (l₁ := zi ++ [zl])]
              refine Paired.snoc (L2.Paired.mapP hpt fun q z w => ?_) ?_
              · rw [upd_ne (ne_of w hts (by intro z; cases z)), upd_ne (ne_of_none w htp)]
                exact w
              · rw [upd_ne nst.symm, upd_same]
                show some (HO.tup [V.int y, V.int (0 - getI cl y - getI (toI (facN b)) y), V.int (getI cl y + getI (toI (facN c)) y)]) = _
                rw [Int.zero_sub]
                rfl
      · rintro σ H' ⟨u, v, rfl, e, tri⟩
        have hyl : (ys.map V.int).length = ys.length := List.length_map _
        rw [hyl, List.take_length] at tri
        refine ⟨_, rfl, q sl _ H' tri ⟨?_, fun y => ?_, fun q hq => ?_⟩ hsl0 fun y o e' => e _ _ (e39 _ _ e') (fun z => by rw [z, hsl0] at e'; cases e')⟩
        · rw [List.pairwise_map]
          exact o1
        · rw [List.map_map]
          rw [← hkm y, ← perm.mem_iff, ← o2 y]
          have : (onceI ys).map ((fun x : Int × Int × Int => x.1) ∘ spanOf cl b c) = onceI ys := (List.map_congr_left fun _ _ => rfl).trans (List.map_id _)
          rw [this]
        · obtain ⟨y, _, rfl⟩ := List.mem_map.mp hq
          exact ⟨rfl, rfl⟩
end
end K75

set_option Elab.async false
set_option linter.all false
set_option maxRecDepth 100000
set_option maxHeartbeats 4000000
namespace K75
open PySem PySem.Spec PyProof.Rows L2 Bk Evl
/-- a row of few nats to 12 -/
def RowS (r : List Nat) : Prop := r.length ≤ 14 ∧ ∀ x ∈ r, x ≤ 12
/-- distinct ints below 13, ascending: a row of nats -/
theorem set_row {ns ms : List Int} (hns : ∀ x ∈ ns, 0 ≤ x ∧ x < 13) (hm : ∀ k : Int, k ∈ ms ↔ decide (k ∈ ns) = true) (hp : ms.Pairwise (· < ·)) : ∃ r : List Nat, ms = r.map (fun k : Nat => (k : Int)) ∧ RowS r ∧ r.Pairwise (· < ·) ∧ ∀ k : Nat, k ∈ r ↔ (k : Int) ∈ ns := by
  obtain ⟨r, hr⟩ := nat_list (l := ms) fun x hx => by
    have h := hns x (of_decide_eq_true ((hm x).mp hx))
    exact ⟨x.toNat, by omega⟩
  have hk : ∀ k : Nat, k ∈ r ↔ (k : Int) ∈ ns := fun k => by
    have h := hm (k : Int)
    rw [decide_eq_true_iff, hr, List.mem_map] at h
    rw [← h]
    exact ⟨fun z => ⟨k, z, rfl⟩, fun ⟨q, z, e⟩ => by rw [← Int.ofNat.inj e]; exact z⟩
  have ha : r.Pairwise (· < ·) := by
    rw [hr, List.pairwise_map] at hp
    exact hp.imp fun {a b} z => by omega
  have h12 : ∀ x ∈ r, x ≤ 12 := fun x hx => by
    have := hns _ ((hk x).mp hx)
    omega
  exact ⟨r, hr, ⟨Nat.le_trans (asc_len (a := 0) (m := 13) ha fun x hx => ⟨Nat.zero_le _, by have := h12 x hx; omega⟩) (by decide), h12⟩, ha, hk⟩
section
variable {P : Program} {w : World} {K : PySem.W.Frag} {mg : Str → Option Value} {base : Heap}
theorem dpall_of_rows {H : Hp} : ∀ {ts : List Addr} {rows : List (List Nat)}, Paired (fun p r => SqT K H p (nv r)) ts rows → DpAll K H (ts.map V.ref) (dR rows)
  | _, _, .nil => .nil
  | _, _, .cons h t => .cons (.tup h (dpall_nv _)) (dpall_of_rows t)
theorem sqt_updL {H : Hp} {p fl : Addr} {xs ys : List V} {o : HO} (h : SqT K H p xs) (hf : H fl = some (.lst ys)) : SqT K (upd H fl o) p xs := by
  rcases h with (e | ⟨ob, e⟩) | h
  · exact .inl (.inl (by rw [upd_ne (ne_of e hf (by intro z; cases z))]; exact e))
  · exact .inl (.inr ⟨ob, by rw [upd_ne (ne_of e hf (by intro z; cases z))]; exact e⟩)
  · exact .inr h
/-! ### _law_rows -/
def spLRows (K : PySem.W.Frag) : Sp := fun vs H Q _ => ∃ (m : Nat) (st sp : Addr) (S : List Nat) (L : Sps3), vs = [.int m, .ref st, .ref sp] ∧ (1 ≤ m ∧ m ≤ 12) ∧ (SqL K H st (nv S) ∨ SqT K H st (nv S)) ∧ RowS S ∧ TrisAt H sp L ∧ StepsOk m L ∧
  ∀ t' rows H', Dp K H' (.ref t') (.tuple (dR rows)) → rows.length = L.length + 1 → (∀ r ∈ rows, RowS r) → Ext H H' → Q (.ref t') H'
theorem sc_ulaw_rows : FnScope ["_law_modulus_here", "_law_start_here", "_law_spans_here", "_law_found", "_law_base", "_law_low", "_law_high", "_law_more", "_law_k", "_law_power_here", "_law_rest"] ["_law_modulus_here", "_law_start_here", "_law_spans_here"] (defScope s_ulaw_rows) := ⟨rfl, rfl, rfl, by decide +kernel, rfl, by decide +kernel, by decide +kernel⟩
theorem ok_ulaw_rows (T : Txt K mg) : Ok P w K mg base 2 (He.ga K "_law_rows") ["_law_modulus_here", "_law_start_here", "_law_spans_here"] (spLRows K) := by
  obtain ⟨fd_ulaw_power, F_ulaw_power, b_ulaw_power, k_ulaw_power, _⟩ := (ok_ulaw_power (P := P) (w := w) (base := base) T).ex
  refine fd_ok T.f_ulaw_rows sc_ulaw_rows (fun vs H Q E h => ?_) (fun _ _ _ _ _ _ us hl => match us, hl with | [_, _, _], _ => rfl) (fun cdv A outer s H vs Q E hr h => ?_)
  · obtain ⟨m, st, sp, S, L, rfl, _⟩ := h
    rfl
  · obtain ⟨m, st, sp, S, L, rfl, ⟨m1, m2⟩, hS, hrS, hL, ok, q⟩ := h
    have nd := sc_ulaw_rows.nd
    refine ⟨_, (pss_cons (ps_set (i := 3) nd rfl (Or.inl rfl) (pe_lst (pa_cons (pe_tupleP rfl T.z_tuple (pe_callB cr_sortedLT rfl T.z_sorted (by decide +kernel) (pa_cons (pv 1) pa_nil))) pa_nil))) (pss_cons (ps_for PassesOwn.never rfl (pi_list (pv 2)) (pg_tup rfl (pgs_cons (pg_name (i := 4) nd rfl (Or.inl rfl)) (pgs_cons (pg_name (i := 5) nd rfl (Or.inl rfl)) (pgs_cons (pg_name (i := 6) nd rfl (Or.inl rfl)) pgs_nil)))) (pss_cons (ps_set (i := 7) nd rfl (Or.inl rfl) (pe_lst pa_nil)) (Evl.pss_cut (ps_for PassesOwn.never rfl (pi_range2 rfl T.z_range (pa_cons (pe_callB (call_max2 rfl) rfl T.z_max (by decide +kernel) (pa_cons (pv 5) (pa_cons (pe_un un_neg pe_int) pa_nil))) (pa_cons (pe_op op_add (pe_callB (call_min2 rfl) rfl T.z_min (by decide +kernel) (pa_cons (pv 6) (pa_cons pe_int pa_nil))) pe_int) pa_nil))) (pg_name (i := 8) nd rfl (Or.inl rfl)) (pss_cons (ps_set (i := 9) nd rfl (Or.inr rfl) (pe_call F_ulaw_power (hr.mono (by decide)) rfl T.g_ulaw_power k_ulaw_power b_ulaw_power .nil pass0 (pa_cons (pv 4) (pa_cons (pv 8) (pa_cons (pv 0) pa_nil))))) (pss_one (ps_set (i := 7) nd rfl (Or.inl rfl) (pe_op op_cat (pv 7) (pe_lc (own := [("_law_rest", 10)]) (g := (gName 10)) (tt := tYes) rfl nd (pi_tup (pe_ix ix_list (pv 3) (pe_un un_neg pe_int) (by intro _ _; rfl))) (blkOk_by (own := [("_law_rest", 10)]) (N := ["_law_modulus_here", "_law_start_here", "_law_spans_here", "_law_found", "_law_base", "_law_low", "_law_high", "_law_more", "_law_k", "_law_power_here", "_law_rest"]) (sc := defScope s_ulaw_rows) (by decide +kernel)) (fun _ _ _ _ _ => (pg_name (i := 10) nd rfl (Or.inl rfl))) (fun _ _ _ _ _ => pts_nil) (fun _ _ _ _ _ => (pe_op op_mod (pe_callTy call_int1 rfl T.z_int (by decide +kernel) (pa_cons (pe_op op_mul (pv 10) (pv 9)) pa_nil)) (pv 0))))))))) (pss_one (ps_expr (pe_bm PySem.F.plainAttrs_list PySem.F.slot_list_append PySem.F.type_list_append mt_append (pv 3) (pa_cons (pe_tupleP rfl T.z_tuple (pe_callB (cr_sortedSet rfl) rfl T.z_sorted (by decide +kernel) (pa_cons (pe_callTy (cr_setI rfl) rfl T.z_set (by decide +kernel) (pa_cons (pv 7) pa_nil)) pa_nil))) pa_nil))))))) (pss_one (ps_ret (pe_tupleP rfl T.z_tuple (pv 3)))))), ?_⟩
    obtain ⟨sp0, hsp, hpt⟩ := id hL
    refine ⟨_, rfl, st, S.map fun k : Nat => (k : Int), rfl, by rw [List.map_map]; exact hS, fun ys p perm rise hp => ?_⟩
    refine ⟨p, _, rfl, SqL.of upd_same, fun t0 o ht0 oc od => ?_⟩
    have e1 := (Ext.new hp (.lst (ys.map V.int))).trans (Ext.new ht0 (.frz o (.tup (ys.map V.int))))
    have hq0 : SqT K (upd (upd H p (.lst (ys.map V.int))) t0 (.frz o (.tup (ys.map V.int)))) t0 (ys.map V.int) := (plt_new (K := K) oc od).sqt
    generalize upd (upd H p (.lst (ys.map V.int))) t0 (.frz o (.tup (ys.map V.int))) = H1 at e1 hq0 ⊢
    obtain ⟨r0, rfl⟩ := nat_list (l := ys) fun x hx => by
      obtain ⟨k, _, rfl⟩ := List.mem_map.mp (perm.mem_iff.mp hx)
      exact ⟨k, rfl⟩
    have hr0 : RowS r0 := by
      refine ⟨?_, fun x hx => ?_⟩
      · have := perm.length_eq
        rw [List.length_map, List.length_map] at this
        rw [this]
        exact hrS.1
      · obtain ⟨k, hk, e⟩ := List.mem_map.mp (perm.mem_iff.mp (List.mem_map.mpr ⟨x, hx, rfl⟩))
        rw [← Int.ofNat.inj e]
        exact hrS.2 k hk
    have hq0 : SqT K H1 t0 (nv r0) := by rw [List.map_map] at hq0; exact hq0
    refine ⟨by show 1 ≤ sizeLine; decide, fun fl hfl => ?_⟩
    have hfl0 : H fl = none := by
      cases z : H fl with
      | none => rfl
      | some o => rw [e1 _ _ z] at hfl; cases hfl
    have e2 := e1.trans (Ext.new hfl (.lst [.ref t0]))
    have hq0 := sqt_ext hq0 (Ext.new hfl (.lst [.ref t0]))
    refine ⟨_, rfl, sp, rfl, ⟨_, SqL.of (e2 _ _ hsp)⟩, ?_⟩
    refine for_list (xs := sp0.map V.ref) (fun i σ H' => ∃ (u4 u5 u6 u7 u8 u9 : Option V), σ = [some (.int m), some (.ref st), some (.ref sp), some (.ref fl), u4, u5, u6, u7, u8, u9, none] ∧ Ext H H' ∧ ∃ (ts : List Addr) (rows : List (List Nat)), H' fl = some (.lst (ts.map V.ref)) ∧ Paired (fun p r => SqT K H' p (nv r)) ts rows ∧ rows.length = i + 1 ∧ ∀ r ∈ rows, RowS r)
      ⟨_, _, _, _, _, _, rfl, e2, [t0], [r0], upd_same, .cons hq0 .nil, rfl, fun r hr => by rw [List.mem_singleton.mp hr]; exact hr0⟩ ?_ ?_ ?_
    · rintro i σ H' _ ⟨u4, u5, u6, u7, u8, u9, rfl, e, _⟩
      exact SqL.of (e _ _ hsp)
    · rintro i x σ H' hx ⟨u4, u5, u6, u7, u8, u9, rfl, e, ts, rows, hts, hpr, hrl, hrs⟩
      rw [List.getElem?_map] at hx
      obtain ⟨tp, htp, rfl⟩ := Option.map_eq_some_iff.mp hx
      obtain ⟨⟨q1, q2, q3⟩, hLi, htr⟩ := paired_at hpt i tp htp
      dsimp only at htr
      obtain ⟨b, hqb, hgb, hlo, hhi⟩ := ok.2 _ (List.mem_of_getElem? hLi)
      dsimp only at hqb hlo hhi
      subst hqb
      obtain ⟨ri, rl, hrr⟩ : ∃ ri rl, rows = ri ++ [rl] := ⟨rows.dropLast, rows.getLast (by intro z; rw [z] at hrl; simp at hrl), (List.dropLast_concat_getLast _).symm⟩
      obtain ⟨ti, tz, htt⟩ : ∃ ti tz, ts = ti ++ [tz] := ⟨ts.dropLast, ts.getLast (by intro z; have := hpr.length; rw [z, hrl] at this; simp at this), (List.dropLast_concat_getLast _).symm⟩
      have hlast : SqT K H' tz (nv rl) := by
        have h := hpr
        rw [hrr, htt] at h
        have h' := paired_last (F := fun p r => SqT K H' p (nv r)) h
        exact h'
      have hrl' : RowS rl := hrs rl (by rw [hrr]; simp)
      have hlv : (nv rl).length = rl.length := List.length_map _
      refine ⟨tp, _, rfl, SqT.of (e _ _ htr), rfl, _, _, rfl, _, _, rfl, _, _, rfl, rfl, ?_⟩
      refine ⟨by show 0 ≤ sizeLine; decide, fun ml hml => ?_⟩
      refine ⟨fun σ' H'' => ∃ (ml : Addr) (ns : List Int) (u8 u9 : Option V), σ' = [some (.int m), some (.ref st), some (.ref sp), some (.ref fl), some (.int b), some (.int q2), some (.int q3), some (.ref ml), u8, u9, none] ∧ Ext H' H'' ∧ H'' ml = some (.lst (ns.map V.int)) ∧ ns.length ≤ 1000 ∧ ∀ x ∈ ns, 0 ≤ x ∧ x < 13, ?_, ?_⟩
      · have em := Ext.new hml (.lst [])
        have kml : upd H' ml (.lst []) ml = some (.lst []) := upd_same
        generalize upd H' ml (.lst []) = H1' at em kml ⊢
        refine ⟨_, rfl, _, rfl, _, _, rfl, _, rfl, _, _, rfl, _, _, rfl, rfl, _, _, rfl, ⟨by split <;> omega, by split <;> omega, by split <;> omega, by split <;> omega⟩, ?_⟩
        generalize hA : (if (-13 : Int) > q2 then (-13 : Int) else q2) = lo
        generalize hB : (if (13 : Int) < q3 then (13 : Int) else q3) + 1 = hi
        have hn : (hi - lo).toNat ≤ 27 := by
          have h1 : -13 ≤ lo := by rw [← hA]; split <;> omega
          have h2 : hi ≤ 14 := by rw [← hB]; split <;> omega
          omega
        refine for_range (lo := lo) (n := (hi - lo).toNat) (fun j σ' H'' => ∃ (ml : Addr) (ns : List Int) (u8 u9 : Option V), σ' = [some (.int m), some (.ref st), some (.ref sp), some (.ref fl), some (.int b), some (.int q2), some (.int q3), some (.ref ml), u8, u9, none] ∧ Ext H' H'' ∧ H'' ml = some (.lst (ns.map V.int)) ∧ ns.length ≤ j * 14 ∧ ∀ x ∈ ns, 0 ≤ x ∧ x < 13)
          ⟨ml, [], _, _, rfl, em, kml, Nat.zero_le _, fun x h => by cases h⟩ ?_ ?_
        · rintro j σ' H2 hj ⟨ml, ns, u8, u9, rfl, e3, hml, hnl, hns⟩
          refine ⟨_, rfl, _, rfl, _, rfl, b, m, _, rfl, ⟨m1, m2⟩, hgb, fun H3 e4 => ?_⟩
          have e5 := e3.trans e4
          have hpl : pw b (lo + (j : Int)) m < m := pw_lt m1
          refine ⟨_, rfl, _, rfl, _, rfl, fl, _, -1, .ref tz, rfl, rfl, SqL.of (e5 _ _ hts), by rw [htt, List.map_append]; exact atI_last _ _, tz, rfl, ⟨_, sqt_ext hlast e5⟩, fun D hD => ?_⟩
          refine lc_tup (xs := nv rl) (Cw H3 (fun _ => true) (fun i => V.int (((rl.getD i 0 : Nat) : Int) * (pw b (lo + (j : Int)) m : Nat) % (m : Int))) D) ⟨hD, Ex.new hD, upd_same⟩ (fun i H6 _ p => sqt_ext hlast (e5.trans p.2.1)) (fun i x H6 hx p => ?_) (fun H6 p => ?_)
          · have il : i < (nv rl).length := (List.getElem?_eq_some_iff.mp hx).1
            obtain ⟨k, hk, rfl⟩ := nv_at hx
            have hk12 := hrl'.2 k (List.mem_of_getElem? hk)
            have hkd : rl.getD i 0 = k := by rw [List.getD_eq_getElem?_getD, hk]; rfl
            refine ⟨rfl, cw_turn p (by have := hrl'.1; omega) (fun H1 e Q q => q H1 (Ex.refl H1)) (fun _ H1 e Q q => ?_)⟩
            rw [hkd] at q
            exact ⟨_, rfl, _, rfl, _, _, rfl, rfl, .inl ⟨by omega, by omega⟩, .inl ⟨_, rfl, _, rfl, _, _, rfl, rfl, by omega, q H1 (Ex.refl H1)⟩⟩
          · obtain ⟨p1, p2, p3⟩ := p
            rw [given_all, hlv] at p3
            have p3' : H6 D = some (.lst (((List.range rl.length).map fun i => ((rl.getD i 0 : Nat) : Int) * (pw b (lo + (j : Int)) m : Nat) % (m : Int)).map V.int)) := by rw [p3, List.map_map]; rfl
            have e6 := e5.trans p2
            have hnl2 := hrl'.1
            refine ⟨ml, D, _, _, rfl, rfl, p2 _ _ (e4 _ _ hml), p3', by rw [List.length_map, List.length_map, List.length_map, List.length_range]; exact small_line (by omega), fun p hp => ?_⟩
            rw [← List.map_append]
            refine ⟨p, _, _, _, rfl, e6.trans (Ext.new hp _), upd_same, by rw [List.length_append, List.length_map, List.length_range]; omega, fun x hx => ?_⟩
            rcases List.mem_append.mp hx with z | z
            · exact hns x z
            · obtain ⟨i, _, rfl⟩ := List.mem_map.mp z
              have h1 := Int.emod_nonneg (((rl.getD i 0 : Nat) : Int) * (pw b (lo + (j : Int)) m : Nat)) (show (m : Int) ≠ 0 by omega)
              have h2 := Int.emod_lt_of_pos (((rl.getD i 0 : Nat) : Int) * (pw b (lo + (j : Int)) m : Nat)) (show 0 < (m : Int) by omega)
              omega
        · rintro σ' H2 ⟨ml, ns, u8, u9, rfl, e3, hml, hnl, hns⟩
          exact ⟨ml, ns, _, _, rfl, e3, hml, by omega, hns⟩
      · rintro σ' H2 ⟨ml, ns, u8, u9, rfl, e3, hml, hnl, hns⟩
        refine ⟨_, rfl, .inl ⟨rfl, _, SqL.of (e3 _ _ hts)⟩, ?_⟩
        refine ⟨_, rfl, ml, ns, rfl, .inl (SqL.of hml), hnl, fun sa n hn hfew hsa => ?_⟩
        refine ⟨sa, _, n, rfl, upd_same, ?_, fun ms p asc mem ml2 hp => ?_⟩
        · have := hfew ((List.range 13).map fun k : Nat => (k : Int)) fun x hx => by
            have := hns x hx
            exact List.mem_map.mpr ⟨x.toNat, List.mem_range.mpr (by omega), by omega⟩
          rw [List.length_map, List.length_range] at this
          omega
        · obtain ⟨r, rfl, hrS2, _, _⟩ := set_row hns mem asc
          refine ⟨p, _, rfl, SqL.of upd_same, fun t o ht oc od => ?_⟩
          rw [show (Cx.nox (cxOf CX0 P w K mg base _ _ _ _ cdv A outer s H E)).w = w from rfl]
          have ef : Ext H2 (upd (upd (upd H2 sa (SetO w sa (fun j => decide (j ∈ ns)) n)) p (.lst ((r.map fun k : Nat => (k : Int)).map V.int))) t (.frz o (.tup ((r.map fun k : Nat => (k : Int)).map V.int)))) := (((Ext.new hsa (SetO w sa (fun j => decide (j ∈ ns)) n)).trans (Ext.new hp (.lst ((r.map fun k : Nat => (k : Int)).map V.int)))).trans (Ext.new ht (.frz o (.tup ((r.map fun k : Nat => (k : Int)).map V.int)))))
          have hqt : SqT K (upd (upd (upd H2 sa (SetO w sa (fun j => decide (j ∈ ns)) n)) p (.lst ((r.map fun k : Nat => (k : Int)).map V.int))) t (.frz o (.tup ((r.map fun k : Nat => (k : Int)).map V.int)))) t ((r.map fun k : Nat => (k : Int)).map V.int) := (plt_new (K := K) oc od).sqt
          have e7 : Ext H' (upd (upd (upd H2 sa (SetO w sa (fun j => decide (j ∈ ns)) n)) p (.lst ((r.map fun k : Nat => (k : Int)).map V.int))) t (.frz o (.tup ((r.map fun k : Nat => (k : Int)).map V.int)))) := e3.trans ef
          generalize upd (upd (upd H2 sa (SetO w sa (fun j => decide (j ∈ ns)) n)) p (.lst ((r.map fun k : Nat => (k : Int)).map V.int))) t (.frz o (.tup ((r.map fun k : Nat => (k : Int)).map V.int))) = H3 at e7 hqt ⊢
          replace hqt : SqT K H3 t (nv r) := by
            rw [List.map_map] at hqt
            exact hqt
          have hts3 := e7 _ _ hts
          have tlen : ts.length ≤ 100 := by
            rw [hpr.length, hrl]
            have := (List.getElem?_eq_some_iff.mp hLi).1
            have := ok.1
            omega
          refine ⟨fl, _, _, rfl, rfl, hts3, by rw [List.length_map]; exact small_lt (by omega), ?_⟩
          refine ⟨_, _, _, _, _, _, rfl, (e.trans e7).mut hfl0 _, ts ++ [t], rows ++ [r], by rw [upd_same, List.map_append]; rfl, ?_, by rw [List.length_append, hrl]; rfl, fun r' hr' => ?_⟩
          · exact Paired.snoc (L2.Paired.mapP hpr fun p r h => sqt_updL (sqt_ext h e7) hts3) (sqt_updL hqt hts3)
          · rcases List.mem_append.mp hr' with z | z
            · exact hrs r' z
            · rw [List.mem_singleton.mp z]
              exact hrS2
    · rintro σ H' ⟨u4, u5, u6, u7, u8, u9, rfl, e, ts, rows, hts, hpr, hrl, hrs⟩
      rw [List.length_map, hpt.length] at hrl
      refine ⟨_, rfl, fl, _, rfl, SqL.of hts, fun t o ht oc od => ?_⟩
      refine q t rows _ (.tup (plt_new (K := K) oc od).sqt (dpall_of_rows (L2.Paired.mapP hpr fun p r h => sqt_ext h (Ext.new ht _)))) hrl hrs (e.trans (Ext.new ht _))
end
end K75

set_option Elab.async false
set_option linter.all false
set_option maxRecDepth 100000
set_option maxHeartbeats 4000000
namespace K75
open PySem PySem.Spec PyProof.Rows L2 Bk Evl
theorem RowS.sub {r r' : List Nat} (h : RowS r) (s : r'.Sublist r) : RowS r' := ⟨Nat.le_trans s.length_le h.1, fun x hx => h.2 x (s.subset hx)⟩
section
variable {P : Program} {w : World} {K : PySem.W.Frag} {mg : Str → Option Value} {base : Heap}
theorem sqt_mill {H H' : Hp} {d a : Addr} {xs : List V} (M : MillAt H d) (b : But d H H') (h : SqT K H a xs) : SqT K H' a xs := by
  rcases h with (e | ⟨ob, e⟩) | h
  · exact .inl (.inl (b _ _ e (mill_ne M e (by intro _ z; cases z))))
  · exact .inl (.inr ⟨ob, b _ _ e (mill_ne M e (by intro _ z; cases z))⟩)
  · exact .inr h
end
end K75

set_option Elab.async false
set_option linter.all false
set_option maxRecDepth 100000
set_option maxHeartbeats 4000000
namespace K75
open PySem PySem.Spec PyProof.Rows L2 Bk Evl
/-- a tuple has few items, no truths among them, all of them plain -/
def Fair (d : PyData) : Prop := ∀ ds, d = .tuple ds → ds.length ≤ 20 ∧ ∀ e ∈ ds, isB e = false ∧ Sh 20 e
theorem asc_extI : ∀ {L M : List Int}, L.Pairwise (· < ·) → M.Pairwise (· < ·) → (∀ x, x ∈ L ↔ x ∈ M) → L = M
  | [], [], _, _, _ => rfl
  | [], y :: M, _, _, h => absurd ((h y).mpr List.mem_cons_self) (by simp)
  | x :: L, [], _, _, h => absurd ((h x).mp List.mem_cons_self) (by simp)
  | x :: L, y :: M, h1, h2, h => by
    obtain ⟨a1, a2⟩ := List.pairwise_cons.mp h1
    obtain ⟨b1, b2⟩ := List.pairwise_cons.mp h2
    have hxy : x = y := by
      have h3 := (h x).mp List.mem_cons_self
      have h4 := (h y).mpr List.mem_cons_self
      rcases List.mem_cons.mp h3 with z | z
      · exact z
      · rcases List.mem_cons.mp h4 with z' | z'
        · exact z'.symm
        · have := b1 x z
          have := a1 y z'
          omega
    subst hxy
    rw [asc_extI a2 b2 fun z => ?_]
    constructor
    · intro hz
      rcases List.mem_cons.mp ((h z).mp (List.mem_cons_of_mem _ hz)) with e | e
      · have := a1 z hz
        omega
      · exact e
    · intro hz
      rcases List.mem_cons.mp ((h z).mpr (List.mem_cons_of_mem _ hz)) with e | e
      · have := b1 z hz
        omega
      · exact e
theorem eqv_ints : ∀ L M : List Int, PyData.eqv (.list (L.map PyData.int)) (.list (M.map PyData.int)) = decide (L = M)
  | [], [] => rfl
  | [], y :: M => by
    show false = _
    exact (decide_eq_false (by simp)).symm
  | x :: L, [] => by
    show false = _
    exact (decide_eq_false (by simp)).symm
  | x :: L, y :: M => by
    show ((x == y) && PyData.eqv (.list (L.map PyData.int)) (.list (M.map PyData.int))) = _
    rw [eqv_ints L M, Bool.eq_iff_iff, Bool.and_eq_true, beq_iff_eq, decide_eq_true_iff, decide_eq_true_iff, List.cons.injEq]
theorem ints_sh (L : List Int) : Sh 20 (.list (L.map PyData.int)) := Sh.lst (n := 19) fun d hd => by
  obtain ⟨i, _, rfl⟩ := List.mem_map.mp hd
  exact Sh.int _ _
section
variable {P : Program} {w : World} {K : PySem.W.Frag} {mg : Str → Option Value} {base : Heap}
theorem dpall_intsI {H : Hp} : ∀ L : List Int, DpAll K H (L.map V.int) (L.map PyData.int)
  | [] => .nil
  | _ :: L => .cons (.int _) (dpall_intsI L)
theorem dpall_pick {H : Hp} {xs : List V} {ds : List PyData} (h : DpAll K H xs ds) : ∀ l : List Nat, (∀ i ∈ l, i < xs.length) → DpAll K H (l.map fun i => xs.getD i .non) (l.map fun i => ds.getD i .none)
  | [], _ => .nil
  | i :: l, hi => by
    have h1 := hi i List.mem_cons_self
    obtain ⟨d, hd, hdp⟩ := dpall_at h (i := i) (List.getElem?_eq_getElem h1)
    refine .cons ?_ (dpall_pick h l fun j hj => hi j (List.mem_cons_of_mem _ hj))
    dsimp only
    rw [List.getD_eq_getElem?_getD, List.getD_eq_getElem?_getD, hd, List.getElem?_eq_getElem h1]
    exact hdp
theorem ne_nil {H : Hp} {D nl : Addr} {vs : List V} {es : List PyData} {Q : VK} (hD : H D = some (.lst vs)) (hd : DpAll K H vs es) (sh : ∀ e ∈ es, Sh 20 e) (hnl : H nl = none) (q : Q (.bl (!es.isEmpty)) (upd H nl (.lst []))) :
    rNeD K (.ref D) (.ref nl) (upd H nl (.lst [])) Q := by
  refine ⟨.list es, .list [], .lst (SqL.of ((Ext.new hnl _) _ _ hD)) (Dp.extAll (Ext.new hnl _) _ _ hd), .lst (SqL.of upd_same) .nil, (Sh.lst sh).shaped (by decide), (Sh.nil 0).shaped (by decide), ?_⟩
  rw [eqv_nil]
  exact q
theorem ne_nilI {H : Hp} {D nl : Addr} {L : List Int} {Q : VK} (hD : H D = some (.lst (L.map V.int))) (hnl : H nl = none) (q : Q (.bl (!L.isEmpty)) (upd H nl (.lst []))) :
    rNeD K (.ref D) (.ref nl) (upd H nl (.lst [])) Q := ne_nil hD (dpall_intsI L) (fun e he => by
      obtain ⟨i, _, rfl⟩ := List.mem_map.mp he
      exact Sh.int _ _) hnl (by rw [List.isEmpty_map]; exact q)
theorem filter_empty {L : List Int} {p : Int → Bool} : (L.filter p).isEmpty = true ↔ ∀ x ∈ L, p x = false := by
  rw [List.isEmpty_iff, List.filter_eq_nil_iff]
  exact ⟨fun h x hx => by
    cases z : p x with
    | false => rfl
    | true => exact absurd z (h x hx), fun h x hx z => by rw [h x hx] at z; cases z⟩
end
end K75

set_option Elab.async false
set_option linter.all false
set_option maxRecDepth 100000
set_option maxHeartbeats 4000000
namespace K75
open PySem PySem.Spec PyProof.Rows L2 Bk Evl
/-- rows as data: few of them, each fair -/
def Fair2 (d : PyData) : Prop := ∀ ds, d = .tuple ds → ds.length ≤ 40 ∧ ∀ e ∈ ds, Fair e
section
variable {P : Program} {w : World} {K : PySem.W.Frag} {mg : Str → Option Value} {base : Heap}
/-! ### _law_are_rows -/
def spLAreRows (K : PySem.W.Frag) : Sp := fun vs H Q _ => ∃ (m : Nat) (st sp : Addr) (S : List Nat) (L : Sps3) (x : V) (d : PyData), vs = [.int m, .ref st, .ref sp, x] ∧ (1 ≤ m ∧ m ≤ 12) ∧ (SqL K H st (nv S) ∨ SqT K H st (nv S)) ∧ S.length ≤ 14 ∧ TrisAt H sp L ∧ StepsOk m L ∧ Dp K H x d ∧ Fair2 d ∧
  ∀ b H', (b = true ↔ RowsD m S L d) → Ext H H' → Q (.bl b) H'
theorem sc_ulaw_are_rows : FnScope ["_law_modulus_here", "_law_start_here", "_law_spans_here", "_law_proof", "_law_row", "_law_at", "_law_base", "_law_low", "_law_high", "_law_k", "_law_power_here", "_law_rest"] ["_law_modulus_here", "_law_start_here", "_law_spans_here", "_law_proof"] (defScope s_ulaw_are_rows) := ⟨rfl, rfl, rfl, by decide +kernel, rfl, by decide +kernel, by decide +kernel⟩
theorem ok_ulaw_are_rows (T : Txt K mg) : Ok P w K mg base 2 (He.ga K "_law_are_rows") ["_law_modulus_here", "_law_start_here", "_law_spans_here", "_law_proof"] (spLAreRows K) := by
  obtain ⟨fd_ulaw_power, F_ulaw_power, b_ulaw_power, k_ulaw_power, _⟩ := (ok_ulaw_power (P := P) (w := w) (base := base) T).ex
  refine fd_ok T.f_ulaw_are_rows sc_ulaw_are_rows (fun vs H Q E h => ?_) (fun _ _ _ _ _ _ us hl => match us, hl with | [_, _, _, _], _ => rfl) (fun cdv A outer s H vs Q E hr h => ?_)
  · obtain ⟨m, st, sp, S, L, x, d, rfl, _⟩ := h
    rfl
  · obtain ⟨m, st, sp, S, L, x, d, rfl, ⟨m1, m2⟩, hS, hSl, hL, ok, hx, fair, q⟩ := h
    have nd := sc_ulaw_are_rows.nd
    refine ⟨_, (pss_cons (ps_if (PW.pt (pw_or (pt_not (pt_val (pe_callB call_isi rfl T.z_isinstance (by decide +kernel) (pa_cons (pv 3) (pa_cons (pe_bltn rfl T.z_tuple (by decide +kernel) (v := .ty "tuple") rfl) pa_nil))))) (pw_or1 (pt_cmpR op_ne (pe_callB call_len_seq rfl T.z_len (by decide +kernel) (pa_cons (pv 3) pa_nil)) (pe_op op_add (pe_callB call_len_seq rfl T.z_len (by decide +kernel) (pa_cons (pv 2) pa_nil)) pe_int) (nomark _))))) (pss_one (ps_ret pe_bl)) pss_nil) (pss_cons (ps_for PassesOwn.never rfl (pi_tup (pv 3)) (pg_name (i := 4) nd rfl (Or.inl rfl)) (pss_cons (ps_if (PW.pt (pw_or (pt_not (pt_val (pe_callB call_isi rfl T.z_isinstance (by decide +kernel) (pa_cons (pv 4) (pa_cons (pe_bltn rfl T.z_tuple (by decide +kernel) (v := .ty "tuple") rfl) pa_nil))))) (pw_or1 (pt_cmpR (op_neD (hr.units)) (pe_lc (own := [("_law_rest", 11)]) (g := (gName 11)) rfl nd (pi_tup (pv 4)) (blkOk_by (own := [("_law_rest", 11)]) (N := ["_law_modulus_here", "_law_start_here", "_law_spans_here", "_law_proof", "_law_row", "_law_at", "_law_base", "_law_low", "_law_high", "_law_k", "_law_power_here", "_law_rest"]) (sc := defScope s_ulaw_are_rows) (by decide +kernel)) (fun _ _ _ _ _ => (pg_name (i := 11) nd rfl (Or.inl rfl))) (fun _ _ _ _ _ => (pts_one (pt_not (pt_val (pe_callB (callK (K0 := K) (r := rIsi) call_isi) rfl T.z_isinstance (by decide +kernel) (pa_cons (pv 11) (pa_cons (pe_bltn rfl T.z_int (by decide +kernel) (v := .ty "int") rfl) pa_nil))))))) (fun _ _ _ _ _ => (pv 11))) (pe_lst pa_nil) (nomark _))))) (pss_one (ps_ret pe_bl)) pss_nil) (pss_one (ps_if (PW.pt (pw_or (pt_cmpR (op_neD (hr.units)) (pe_callTy call_list_of rfl T.z_list (by decide +kernel) (pa_cons (pv 4) pa_nil)) (pe_callB (cr_sortedSet rfl) rfl T.z_sorted (by decide +kernel) (pa_cons (pe_callTy (cr_setI rfl) rfl T.z_set (by decide +kernel) (pa_cons (pv 4) pa_nil)) pa_nil)) (nomark _)) (pw_or1 (pt_cmpR (op_neD (hr.units)) (pe_lc (own := [("_law_rest", 11)]) (g := (gName 11)) rfl nd (pi_tup (pv 4)) (blkOk_by (own := [("_law_rest", 11)]) (N := ["_law_modulus_here", "_law_start_here", "_law_spans_here", "_law_proof", "_law_row", "_law_at", "_law_base", "_law_low", "_law_high", "_law_k", "_law_power_here", "_law_rest"]) (sc := defScope s_ulaw_are_rows) (by decide +kernel)) (fun _ _ _ _ _ => (pg_name (i := 11) nd rfl (Or.inl rfl))) (fun _ _ _ _ _ => (pts_one (pt_not (pt_chain op_le op_lt pe_int (pv 11) (pv 0))))) (fun _ _ _ _ _ => (pv 11))) (pe_lst pa_nil) (nomark _))))) (pss_one (ps_ret pe_bl)) pss_nil)))) (pss_cons (ps_if (PW.pt (pw_or (pt_cmpR (op_neD (hr.units)) (pe_lc (own := [("_law_rest", 11)]) (g := (gName 11)) rfl nd (pi_lt (pv 1)) (blkOk_by (own := [("_law_rest", 11)]) (N := ["_law_modulus_here", "_law_start_here", "_law_spans_here", "_law_proof", "_law_row", "_law_at", "_law_base", "_law_low", "_law_high", "_law_k", "_law_power_here", "_law_rest"]) (sc := defScope s_ulaw_are_rows) (by decide +kernel)) (fun _ _ _ _ _ => (pg_name (i := 11) nd rfl (Or.inl rfl))) (fun _ _ _ _ _ => (pts_one (pt_cmpR (opK (K0 := K) (r := fun K => rIn K true) op_notIn_seq) (pv 11) (pe_ix (ixK (K0 := K) (r := rIxT) ix_tup) (pv 3) pe_int (by intro _ _; rfl)) rfl))) (fun _ _ _ _ _ => (pv 11))) (pe_lst pa_nil) (nomark _)) (pw_or1 (pt_cmpR op_in_seq (pe_op op_sub (pv 0) pe_int) (pe_ix ix_tup (pv 3) (pe_un un_neg pe_int) (by intro _ _; rfl)) rfl)))) (pss_one (ps_ret pe_bl)) pss_nil) (pss_cons (ps_for PassesOwn.never rfl (pi_range1 rfl T.z_range (pa_cons (pe_callB call_len_seq rfl T.z_len (by decide +kernel) (pa_cons (pv 2) pa_nil)) pa_nil)) (pg_name (i := 5) nd rfl (Or.inr rfl)) (pss_cons (ps_asg (pe_ix ix_list (pv 2) (pv 5) (by intro _ _; rfl)) (pg_tup rfl (pgs_cons (pg_name (i := 6) nd rfl (Or.inl rfl)) (pgs_cons (pg_name (i := 7) nd rfl (Or.inl rfl)) (pgs_cons (pg_name (i := 8) nd rfl (Or.inl rfl)) pgs_nil))))) (pss_one (ps_for PassesOwn.never rfl (pi_range2 rfl T.z_range (pa_cons (pe_callB (call_max2 rfl) rfl T.z_max (by decide +kernel) (pa_cons (pv 7) (pa_cons (pe_un un_neg pe_int) pa_nil))) (pa_cons (pe_op op_add (pe_callB (call_min2 rfl) rfl T.z_min (by decide +kernel) (pa_cons (pv 8) (pa_cons pe_int pa_nil))) pe_int) pa_nil))) (pg_name (i := 9) nd rfl (Or.inl rfl)) (pss_cons (ps_set (i := 10) nd rfl (Or.inr rfl) (pe_call F_ulaw_power (hr.mono (by decide)) rfl T.g_ulaw_power k_ulaw_power b_ulaw_power .nil pass0 (pa_cons (pv 6) (pa_cons (pv 9) (pa_cons (pv 0) pa_nil))))) (pss_one (ps_if (pt_cmpR (op_neD (hr.units)) (pe_lc (own := [("_law_rest", 11)]) (g := (gName 11)) rfl nd (pi_tup (pe_ix ix_tup (pv 3) (pv 5) (by intro _ _; rfl))) (blkOk_by (own := [("_law_rest", 11)]) (N := ["_law_modulus_here", "_law_start_here", "_law_spans_here", "_law_proof", "_law_row", "_law_at", "_law_base", "_law_low", "_law_high", "_law_k", "_law_power_here", "_law_rest"]) (sc := defScope s_ulaw_are_rows) (by decide +kernel)) (fun _ _ _ _ _ => (pg_name (i := 11) nd rfl (Or.inl rfl))) (fun _ _ _ _ _ => (pts_one (pt_cmpR (opK (K0 := K) (r := fun K => rIn K true) op_notIn_seq) (pe_op op_mod (pe_callTy call_int1 rfl T.z_int (by decide +kernel) (pa_cons (pe_op op_mul (pv 11) (pv 10)) pa_nil)) (pv 0)) (pe_ix (ixK (K0 := K) (r := rIxT) ix_tup) (pv 3) (pe_op op_add (pv 5) pe_int) (by intro _ _; rfl)) rfl))) (fun _ _ _ _ _ => (pv 11))) (pe_lst pa_nil) (nomark _)) (pss_one (ps_ret pe_bl)) pss_nil))))))) (pss_one (ps_ret pe_bl)))))), ?_⟩
    obtain ⟨sp0, hsp, hpt⟩ := id hL
    refine ⟨_, rfl, _, _, _, _, isT d, rfl, .ty _, tyx_dp hx, kit_tup d, isT d, rfl, ?_⟩
    cases et : isT d with
    | false =>
      exact iteT (q false H (Iff.intro (fun z => by cases z) fun ⟨L, z, _⟩ => by rw [z] at et; cases et) (Ext.refl H))
    | true =>
      refine iteF ?_
      obtain ⟨a, xs, ds, rfl, rfl, hs, ha⟩ := isT_dp hx et
      obtain ⟨fl, fe⟩ := fair ds rfl
      have hl := dpall_len ha
      refine ⟨_, rfl, a, _, rfl, .inr hs, _, rfl, sp, _, rfl, .inl (SqL.of hsp), _, _, rfl, rfl, rfl, _, rfl, ?_⟩
      have tl : sp0.length = L.length := hpt.length
      have hb : (!decide (V.int (xs.length : Int) = V.int (((sp0.map V.ref).length : Nat) + 1 : Int))) = !decide (ds.length = L.length + 1) := by
        rw [List.length_map, hl, tl]
        congr 1
        exact decide_eq_decide.mpr ⟨fun z => by injection z with z; omega, fun z => by rw [z]; rfl⟩
      show if (!decide (V.int (xs.length : Int) = V.int (((sp0.map V.ref).length : Nat) + 1 : Int))) = true then _ else _
      rw [hb]
      by_cases hlen : ¬ ds.length = L.length + 1
      · rw [decide_eq_false hlen]
        refine iteT (q false H (Iff.intro (fun z => by cases z) fun ⟨R, z, r⟩ => absurd ?_ hlen) (Ext.refl H))
        injection z with z
        rw [z, List.length_map, r.len]
      have hlen := Decidable.not_not.mp hlen
      rw [decide_eq_true hlen]
      refine iteF ?_
      refine ⟨_, rfl, a, rfl, ⟨_, hs⟩, ?_⟩
      refine for_tup (xs := xs) (fun i σ H' => ∃ u4 : Option V, σ = [some (.int m), some (.ref st), some (.ref sp), some (.ref a), u4, none, none, none, none, none, none, none] ∧ Ext H H' ∧ ∀ j, j < i → RestsD m (ds.getD j .none)) ⟨_, rfl, Ext.refl H, fun j h => by omega⟩ ?_ ?_ ?_
      · rintro i σ H' _ ⟨u4, rfl, e, _⟩
        exact sqt_ext hs e
      · rintro i y σ H0 hy ⟨u4, rfl, e00, gone⟩
        obtain ⟨dr, hdr, hyd0⟩ := dpall_at ha hy
        have hyd := Dp.ext e00 dr y hyd0
        have fr := fe dr (List.mem_of_getElem? hdr)
        have hdr' : ds.getD i .none = dr := by rw [List.getD_eq_getElem?_getD, hdr]; rfl
        have bad : ∀ H', Ext H H' → ¬ RestsD m dr → Q (.bl false) H' := fun H' k h => q false H' (Iff.intro (fun z => by cases z) fun ⟨R, z, r⟩ => absurd (by
          injection z with z
          rw [z, List.getElem?_map] at hdr
          obtain ⟨r0, hr0, rfl⟩ := Option.map_eq_some_iff.mp hdr
          exact ⟨r0, rfl, r.asc r0 (List.mem_of_getElem? hr0)⟩) h) k
        refine ⟨_, rfl, _, _, _, _, isT dr, rfl, .ty _, tyx_dp hyd, kit_tup dr, isT dr, rfl, ?_⟩
        cases ert : isT dr with
        | false => exact iteT (bad H0 e00 fun ⟨L, z, _⟩ => by rw [z] at ert; cases ert)
        | true =>
          refine iteF ?_
          obtain ⟨ra, rxs, rds, rfl, rfl, rhs, rha⟩ := isT_dp hyd ert
          obtain ⟨rfew, rfe⟩ := fr rds rfl
          have rhl := dpall_len rha
          refine ⟨_, rfl, ra, rfl, ⟨_, rhs⟩, fun D hD => ?_⟩
          refine lc_tup (xs := rxs) (Cw H0 (fun i => !isIB (rds.getD i .none)) (fun i => rxs.getD i .non) D) ⟨hD, Ex.new hD, upd_same⟩ (fun i H' _ p => sqt_ext rhs p.2.1) (fun i x H' hx p => ?_) (fun H1 p => ?_)
          · have il : i < rxs.length := (List.getElem?_eq_some_iff.mp hx).1
            obtain ⟨d, hd, hdp⟩ := dpall_at rha hx
            have e1 : rds.getD i .none = d := by rw [List.getD_eq_getElem?_getD, hd]; rfl
            have e2 : rxs.getD i .non = x := by rw [List.getD_eq_getElem?_getD, hx]; rfl
            refine ⟨rfl, cw_turn p (by omega) (fun H1 e Q q => ?_) (fun _ H1 e Q q => ⟨_, rfl, by rw [e2] at q; exact q H1 (Ex.refl H1)⟩)⟩
            rw [e1] at q
            exact ⟨_, rfl, _, _, _, _, isIB d, rfl, .ty _, tyx_dp (Dp.ext e d x hdp), kit_int d, isIB d, rfl, q H1 (Ex.refl H1)⟩
          · obtain ⟨p1, p2, p3⟩ := p
            refine ⟨by show 0 ≤ sizeLine; decide, fun nl hnl => ?_⟩
            refine ne_nil p3 (Dp.extAll p2 _ _ (dpall_pick rha _ fun i hi => List.mem_range.mp (List.mem_filter.mp hi).1)) (fun e he => ?_) hnl ⟨_, rfl, ?_⟩
            · obtain ⟨i, hi, rfl⟩ := List.mem_map.mp he
              have := List.mem_range.mp (List.mem_filter.mp hi).1
              rw [List.getD_eq_getElem?_getD, List.getElem?_eq_getElem (show i < rds.length by omega)]
              exact (rfe _ (List.getElem_mem _)).2
            have e01 := e00.trans (Ext.trans p2 (Ext.new hnl (.lst [])))
            have e10 : Ext H0 (upd H1 nl (.lst [])) := Ext.trans p2 (Ext.new hnl (.lst []))
            generalize upd H1 nl (.lst []) = H2 at e01 e10 ⊢
            cases emp : ((List.filter (fun i => !isIB (rds.getD i .none)) (List.range rxs.length)).map fun i => rds.getD i .none).isEmpty with
            | false =>
              refine iteT (bad H2 e01 fun ⟨L, z, _⟩ => ?_)
              injection z with z
              rw [List.isEmpty_map] at emp
              rw [show (List.filter (fun i => !isIB (rds.getD i .none)) (List.range rxs.length)) = [] from List.filter_eq_nil_iff.mpr fun i hi => ?_] at emp
              · cases emp
              · have hi' : i < L.length := by have := List.mem_range.mp hi; rw [z, List.length_map] at rhl; omega
                rw [z, List.getD_eq_getElem?_getD, List.getElem?_map, List.getElem?_eq_getElem hi']
                exact Bool.false_ne_true
            | true =>
              refine iteF ?_
              rw [List.isEmpty_map, List.isEmpty_iff, List.filter_eq_nil_iff] at emp
              obtain ⟨N, rfl, rfl⟩ := dpall_ints rha fun d hd => by
                obtain ⟨i, hi⟩ := List.mem_iff_getElem?.mp hd
                have h1 := emp i (List.mem_range.mpr (by have := (List.getElem?_eq_some_iff.mp hi).1; omega))
                rw [List.getD_eq_getElem?_getD, hi] at h1
                have h2 := (rfe d hd).1
                cases d <;> first | rfl | exact absurd rfl h1 | cases h2
              have hNl : N.length ≤ 20 := by rw [List.length_map] at rfew; exact rfew
              have inj : ∀ {M : List Nat}, PyData.tuple (N.map PyData.int) = .tuple (dN M) → N = M.map fun k : Nat => (k : Int) := fun {M} z => by
                injection z with z
                rw [show dN M = (M.map fun k : Nat => (k : Int)).map PyData.int by rw [List.map_map]; rfl] at z
                exact List.map_inj_right (fun a b h => by injection h) |>.mp z
              have rhs2 := sqt_ext rhs e10
              refine ⟨_, rfl, ra, _, rfl, .inr rhs2, fun u1 hu1 => ?_⟩
              have ku1 : upd H2 u1 (.lst (N.map V.int)) u1 = some (.lst (N.map V.int)) := upd_same
              have e02 := e01.trans (Ext.new hu1 (.lst (N.map V.int)))
              have e20 := e10.trans (Ext.new hu1 (.lst (N.map V.int)))
              generalize upd H2 u1 (.lst (N.map V.int)) = H3 at ku1 e02 e20 ⊢
              refine ⟨_, rfl, ra, N, rfl, .inr (sqt_ext rhs e20), by omega, fun sa n hn hfew hsa => ?_⟩
              refine ⟨sa, _, n, rfl, upd_same, by omega, fun ms p asc mem ml2 hp => ?_⟩
              have e34 := (Ext.new hsa (SetO w sa (fun j => decide (j ∈ N)) n)).trans (Ext.new hp (.lst (ms.map V.int)))
              refine ⟨.list (N.map .int), .list (ms.map .int), .lst (SqL.of (e34 _ _ ku1)) (dpall_intsI N), .lst (SqL.of upd_same) (dpall_intsI ms), (ints_sh N).shaped (by decide), (ints_sh ms).shaped (by decide), _, rfl, ?_⟩
              rw [eqv_ints, show (Cx.nox (cxOf CX0 P w K mg base _ _ _ _ cdv A outer s H E)).w = w from rfl]
              have e03 : Ext H (upd (upd H3 sa (SetO w sa (fun j => decide (j ∈ N)) n)) p (.lst (ms.map V.int))) := e02.trans e34
              have e30 : Ext H0 (upd (upd H3 sa (SetO w sa (fun j => decide (j ∈ N)) n)) p (.lst (ms.map V.int))) := e20.trans e34
              generalize upd (upd H3 sa (SetO w sa (fun j => decide (j ∈ N)) n)) p (.lst (ms.map V.int)) = H4 at e03 e30 ⊢
              have hasc : N = ms ↔ N.Pairwise (· < ·) := ⟨fun z => by rw [z]; exact asc, fun z => asc_extI z asc fun x => by rw [mem x, decide_eq_true_iff]⟩
              by_cases hLm : ¬ N = ms
              · rw [decide_eq_false hLm]
                refine iteT (bad H4 e03 fun ⟨M, z, g⟩ => absurd (hasc.mpr ?_) hLm)
                rw [inj z, List.pairwise_map]
                exact g.1.imp fun {a b} h => by omega
              have hLm := Decidable.not_not.mp hLm
              rw [decide_eq_true hLm]
              refine iteF ?_
              have hNa := hasc.mp hLm
              have rhs4 := sqt_ext rhs e30
              refine ⟨_, rfl, ra, rfl, ⟨_, rhs4⟩, fun D2 hD2 => ?_⟩
              refine lc_tup (xs := N.map V.int) (Cw H4 (fun i => !(decide (0 ≤ N.getD i 0) && decide (N.getD i 0 < (m : Int)))) (fun i => V.int (N.getD i 0)) D2) ⟨hD2, Ex.new hD2, upd_same⟩ (fun i H' _ p => sqt_ext rhs4 p.2.1) (fun i x H' hx p => ?_) (fun H5 p => ?_)
              · have il : i < (N.map V.int).length := (List.getElem?_eq_some_iff.mp hx).1
                rw [List.length_map] at il
                rw [List.getElem?_map] at hx
                obtain ⟨j, hj, rfl⟩ := Option.map_eq_some_iff.mp hx
                have hjd : N.getD i 0 = j := by rw [List.getD_eq_getElem?_getD, hj]; rfl
                refine ⟨rfl, cw_turn p (by omega) (fun H1 e Q q => ?_) (fun _ H1 e Q q => ⟨_, rfl, by rw [hjd] at q; exact q H1 (Ex.refl H1)⟩)⟩
                rw [hjd] at q
                refine ⟨_, rfl, _, _, rfl, rfl, _, rfl, ?_⟩
                cases e1 : decide (0 ≤ j) with
                | false =>
                  rw [e1] at q
                  exact iteF ⟨_, rfl, q H1 (Ex.refl H1)⟩
                | true =>
                  rw [e1] at q
                  exact iteT ⟨_, rfl, _, _, rfl, rfl, _, rfl, q H1 (Ex.refl H1)⟩
              · obtain ⟨p1, p2', p3⟩ := p
                rw [List.length_map, given_filter N fun j => !(decide (0 ≤ j) && decide (j < (m : Int)))] at p3
                refine ⟨by show 0 ≤ sizeLine; decide, fun nl2 hnl2 => ?_⟩
                refine ne_nilI p3 hnl2 ⟨_, rfl, ?_⟩
                have e04 := e03.trans (Ext.trans p2' (Ext.new hnl2 (.lst [])))
                generalize upd H5 nl2 (.lst []) = H6 at e04 ⊢
                cases emp2 : (N.filter fun j => !(decide (0 ≤ j) && decide (j < (m : Int)))).isEmpty with
                | false =>
                  refine iteT (bad H6 e04 fun ⟨M, z, g⟩ => ?_)
                  rw [filter_empty.mpr fun x hx => ?_] at emp2
                  · cases emp2
                  · rw [inj z] at hx
                    obtain ⟨k, hk, rfl⟩ := List.mem_map.mp hx
                    have := g.2 k hk
                    rw [decide_eq_true (show (0 : Int) ≤ (k : Int) by omega), decide_eq_true (show (k : Int) < (m : Int) by omega)]
                    rfl
                | true =>
                  have hun := filter_empty.mp emp2
                  have hbd : ∀ x ∈ N, 0 ≤ x ∧ x < (m : Int) := fun x hx => by
                    have h1 := hun x hx
                    rw [Bool.not_eq_false', Bool.and_eq_true, decide_eq_true_iff, decide_eq_true_iff] at h1
                    exact h1
                  obtain ⟨N', rfl⟩ := nat_list (l := N) fun x hx => ⟨x.toNat, by have := hbd x hx; omega⟩
                  refine iteF ⟨_, rfl, e04, fun j hj => ?_⟩
                  rcases Nat.lt_succ_iff_lt_or_eq.mp hj with z | z
                  · exact gone j z
                  · subst z
                    rw [hdr']
                    refine ⟨N', by rw [List.map_map]; rfl, ?_, fun k hk => ?_⟩
                    · rw [List.pairwise_map] at hNa
                      exact hNa.imp fun {a b} h => by omega
                    · have := hbd _ (List.mem_map.mpr ⟨k, hk, rfl⟩)
                      omega
      · rintro σ H1 ⟨u4, rfl, e01, gone⟩
        rw [hl] at gone
        obtain ⟨rows, rfl, hra⟩ := rests_rows (m := m) (ds := ds) fun d hd => by
          obtain ⟨i, hi⟩ := List.mem_iff_getElem?.mp hd
          have := gone i (List.getElem?_eq_some_iff.mp hi).1
          rw [List.getD_eq_getElem?_getD, hi] at this
          exact this
        have hrl : rows.length = L.length + 1 := by rw [List.length_map] at hlen; exact hlen
        have row : ∀ i, i < rows.length → ∃ p : Addr, xs[i]? = some (V.ref p) ∧ SqT K H p (nv (rows.getD i [])) := fun i hi => by
          obtain ⟨p, h1, h2⟩ := dpall_rows ha i rows[i] (List.getElem?_eq_getElem hi)
          refine ⟨p, h1, ?_⟩
          rw [List.getD_eq_getElem?_getD, List.getElem?_eq_getElem hi]
          exact h2
        have rasc : ∀ i, i < rows.length → AscL m (rows.getD i []) := fun i hi => hra _ (by rw [List.getD_eq_getElem?_getD, List.getElem?_eq_getElem hi]; exact List.getElem_mem _)
        have inj : ∀ {R}, PyData.tuple (dR rows) = PyData.tuple (dR R) → R = rows := fun z => by
          injection z with z
          exact (dR_inj z).symm
        clear gone
        obtain ⟨pr0, hp0, hq0⟩ := row 0 (by omega)
        have hSI : nv S = (S.map fun k : Nat => (k : Int)).map V.int := by rw [List.map_map]; rfl
        refine ⟨_, rfl, lc_lt (hS.imp (fun z => sql_ext z e01) fun z => sqt_ext z e01) fun J G S1 hG D3 hD3 => ?_⟩
        refine lc_seq S1 (Cw H1 (fun i => !inV (.int ((S.map fun k : Nat => (k : Int)).getD i 0)) (nv (rows.getD 0 []))) (fun i => V.int ((S.map fun k : Nat => (k : Int)).getD i 0)) D3) ⟨hD3, Ex.new hD3, upd_same⟩ (fun i H' _ p => hG _ p.2.1) (fun i x H' hx p => ?_) (fun H7 p => ?_)
        · have il : i < (nv S).length := (List.getElem?_eq_some_iff.mp hx).1
          rw [List.length_map] at il
          obtain ⟨k, hk, rfl⟩ := nv_at hx
          have hjd : (S.map fun k : Nat => (k : Int)).getD i 0 = k := by rw [List.getD_eq_getElem?_getD, List.getElem?_map, hk]; rfl
          refine ⟨rfl, cw_turn p (by omega) (fun H1 e Q q => ?_) (fun _ H1 e Q q => ⟨_, rfl, by rw [hjd] at q; exact q H1 (Ex.refl H1)⟩)⟩
          rw [hjd] at q
          exact ⟨_, rfl, _, rfl, a, xs, 0, .ref pr0, rfl, rfl, sqt_ext (sqt_ext hs e01) e, atI_nat hp0, pr0, _, rfl, .inr (sqt_ext (sqt_ext hq0 e01) e), rfl, flat_nats _, _, rfl, q H1 (Ex.refl H1)⟩
        · obtain ⟨p1, p2', p3⟩ := p
          rw [hSI, List.length_map, given_filter (S.map fun k : Nat => (k : Int)) fun j => !inV (.int j) (nv (rows.getD 0 []))] at p3
          refine ⟨by show 0 ≤ sizeLine; decide, fun nl3 hnl3 => ?_⟩
          refine ne_nilI p3 hnl3 ⟨_, rfl, ?_⟩
          have e05 := e01.trans (Ext.trans p2' (Ext.new hnl3 (.lst [])))
          generalize upd H7 nl3 (.lst []) = H8 at e05 ⊢
          have hrest : ((S.map fun k : Nat => (k : Int)).filter fun j => !inV (.int j) (nv (rows.getD 0 []))).isEmpty = true ↔ ∀ x ∈ S, x ∈ rows.getD 0 [] := by
            rw [filter_empty]
            constructor
            · intro h x hx
              have h := h _ (List.mem_map.mpr ⟨x, hx, rfl⟩)
              rw [inV_nats, Bool.not_eq_false', decide_eq_true_iff] at h
              exact h
            · intro h x hx
              obtain ⟨k, hk, rfl⟩ := List.mem_map.mp hx
              rw [inV_nats, decide_eq_true (h k hk)]
              rfl
          cases emp3 : ((S.map fun k : Nat => (k : Int)).filter fun j => !inV (.int j) (nv (rows.getD 0 []))).isEmpty with
          | false =>
            refine iteT (q false H8 (Iff.intro (fun z => by cases z) fun ⟨M, z, g⟩ => ?_) e05)
            obtain rfl := inj z
            rw [hrest.mpr g.start] at emp3
            cases emp3
          | true =>
            refine iteF ?_
            have start := hrest.mp emp3
            obtain ⟨pl, hpl, hql⟩ := row L.length (by omega)
            have hxl : atI xs (-1) = some (.ref pl) := by
              have e : xs = xs.take L.length ++ [.ref pl] := by
                have h1 : xs.length = L.length + 1 := by rw [hl, List.length_map, hrl]
                have h2 := List.take_append_drop L.length xs
                rw [List.drop_eq_getElem_cons (by omega), List.drop_eq_nil_of_le (by omega)] at h2
                have h3 : xs[L.length] = .ref pl := (List.getElem?_eq_some_iff.mp hpl).2
                rw [h3] at h2
                exact h2.symm
              rw [e]
              exact atI_last _ _
            refine ⟨_, rfl, _, _, rfl, rfl, _, rfl, _, rfl, a, xs, -1, .ref pl, rfl, rfl, sqt_ext hs e05, hxl, pl, nv (rows.getD L.length []), rfl, .inr (sqt_ext hql e05), rfl, flat_nats _, _, rfl, ?_⟩
            show if (inV (.int ((m : Int) - 1)) (nv (rows.getD L.length []))) = true then _ else _
            rw [show ((m : Int) - 1) = ((m - 1 : Nat) : Int) by omega, inV_nats]
            by_cases hout : m - 1 ∈ rows.getD L.length []
            · rw [decide_eq_true hout]
              refine iteT (q false H8 (Iff.intro (fun z => by cases z) fun ⟨M, z, g⟩ => ?_) e05)
              obtain rfl := inj z
              exact absurd hout g.out
            rw [decide_eq_false hout]
            refine iteF ?_
            refine ⟨_, rfl, sp, _, rfl, .inl (SqL.of (e05 _ _ hsp)), _, rfl, ?_⟩
            have hLl := ok.1
            rw [List.length_map, tl]
            refine ⟨by omega, by omega, ?_⟩
            refine for_range (lo := 0) (n := L.length) (fun i σ H' => ∃ v5 v6 v7 v8 v9 v10 : Option V, σ = [some (.int m), some (.ref st), some (.ref sp), some (.ref a), u4, v5, v6, v7, v8, v9, v10, none] ∧ Ext H H' ∧ ∀ i', i' < i → ∀ q, L[i']? = some q → GoesTo m q (rows.getD i' []) (rows.getD (i' + 1) []))
              ⟨_, _, _, _, _, _, rfl, e05, fun i h => by omega⟩ ?_ ?_
            · rintro i σ H9 hi9 ⟨v5, v6, v7, v8, v9, v10, rfl, e, gone⟩
              obtain ⟨tp, htp⟩ : ∃ tp, sp0[i]? = some tp := ⟨sp0[i], List.getElem?_eq_getElem (by omega)⟩
              obtain ⟨⟨q1, q2, q3⟩, hLi, htr⟩ := paired_at hpt i tp htp
              dsimp only at htr
              obtain ⟨b, hqb, hgb, hlo, hhi⟩ := ok.2 _ (List.mem_of_getElem? hLi)
              dsimp only at hqb hlo hhi
              subst hqb
              obtain ⟨pj, hpj, hqj⟩ := row i (by omega)
              obtain ⟨pj', hpj', hqj'⟩ := row (i + 1) (by omega)
              have ei : (0 : Int) + (i : Int) = ((i : Nat) : Int) := by omega
              refine ⟨_, rfl, _, rfl, sp, _, _, .ref tp, rfl, rfl, SqL.of (e _ _ hsp), by rw [ei]; exact atI_nat (by rw [List.getElem?_map, htp]; rfl), tp, _, rfl, SqT.of (e _ _ htr), rfl, _, _, rfl, _, _, rfl, _, _, rfl, rfl, ?_⟩
              refine ⟨_, rfl, _, rfl, _, _, rfl, _, rfl, _, _, rfl, _, _, rfl, rfl, _, _, rfl, ⟨by split <;> omega, by split <;> omega, by split <;> omega, by split <;> omega⟩, ?_⟩
              obtain ⟨lo, hlo1⟩ : ∃ lo : Int, (if (-13 : Int) > q2 then (-13 : Int) else q2) = lo := ⟨_, rfl⟩
              obtain ⟨hi, hhi1⟩ : ∃ hi : Int, (if (13 : Int) < q3 then (13 : Int) else q3) = hi := ⟨_, rfl⟩
              rw [hlo1, hhi1]
              have hlo2 : lo = max q2 (-13) := by rw [← hlo1]; split <;> omega
              have hhi2 : hi = min q3 13 := by rw [← hhi1]; split <;> omega
              refine for_range (lo := lo) (n := (hi + 1 - lo).toNat) (fun j σ' H'' => ∃ v9 v10 : Option V, σ' = [some (.int m), some (.ref st), some (.ref sp), some (.ref a), u4, some (.int (0 + (i : Int))), some (.int b), some (.int q2), some (.int q3), v9, v10, none] ∧ Ext H H'' ∧ ∀ j' : Nat, j' < j → ∀ x ∈ rows.getD i [], x * pw b (lo + (j' : Int)) m % m ∈ rows.getD (i + 1) [])
                ⟨_, _, rfl, e, fun j h => by omega⟩ ?_ ?_
              · rintro j σ' H10 hj ⟨v9, v10, rfl, e10, gone2⟩
                refine ⟨_, rfl, _, rfl, _, rfl, b, m, _, rfl, ⟨by omega, m2⟩, hgb, fun H11 e11 => ?_⟩
                have e011 := e10.trans e11
                have hpl : pw b (lo + (j : Int)) m < m := pw_lt (by omega)
                have hai := rasc i (by omega)
                have hal := asc_len12 hai
                have hqj11 := sqt_ext hqj e011
                have hNI : nv (rows.getD i []) = ((rows.getD i []).map fun k : Nat => (k : Int)).map V.int := by rw [List.map_map]; rfl
                refine ⟨_, rfl, _, rfl, a, xs, _, .ref pj, rfl, rfl, sqt_ext hs e011, by rw [ei]; exact atI_nat hpj, pj, rfl, ⟨_, hqj11⟩, fun D4 hD4 => ?_⟩
                refine lc_tup (xs := nv (rows.getD i [])) (Cw H11 (fun z => !inV (.int (((rows.getD i []).map fun k : Nat => (k : Int)).getD z 0 * (pw b (lo + (j : Int)) m : Nat) % (m : Int))) (nv (rows.getD (i + 1) []))) (fun z => V.int (((rows.getD i []).map fun k : Nat => (k : Int)).getD z 0)) D4) ⟨hD4, Ex.new hD4, upd_same⟩ (fun i H' _ p => sqt_ext hqj11 p.2.1) (fun z x H' hx p => ?_) (fun H12 p => ?_)
                · have il : z < (nv (rows.getD i [])).length := (List.getElem?_eq_some_iff.mp hx).1
                  rw [List.length_map] at il
                  obtain ⟨k2, hk2, rfl⟩ := nv_at hx
                  have hkm2 := hai.2 k2 (List.mem_of_getElem? hk2)
                  have hjd : ((rows.getD i []).map fun k : Nat => (k : Int)).getD z 0 = k2 := by rw [List.getD_eq_getElem?_getD, List.getElem?_map, hk2]; rfl
                  refine ⟨rfl, cw_turn p (by omega) (fun H1 e Q q => ?_) (fun _ H1 e Q q => ⟨_, rfl, by rw [hjd] at q; exact q H1 (Ex.refl H1)⟩)⟩
                  rw [hjd] at q
                  exact ⟨_, rfl, _, rfl, _, _, rfl, rfl, .inl ⟨by omega, by omega⟩, .inl ⟨_, rfl, _, rfl, _, _, rfl, rfl, by omega, _, rfl, _, rfl, _, _, rfl, rfl, a, xs, _, .ref pj', rfl, rfl, sqt_ext (sqt_ext hs e011) e, by rw [show (0 : Int) + (i : Int) + 1 = ((i + 1 : Nat) : Int) by omega]; exact atI_nat hpj', pj', _, rfl, .inr (sqt_ext (sqt_ext hqj' e011) e), rfl, flat_nats _, _, rfl, q H1 (Ex.refl H1)⟩⟩
                · obtain ⟨p1, p2'', p3⟩ := p
                  rw [hNI, List.length_map, given_filter ((rows.getD i []).map fun k : Nat => (k : Int)) fun y => !inV (.int (y * (pw b (lo + (j : Int)) m : Nat) % (m : Int))) (nv (rows.getD (i + 1) []))] at p3
                  refine ⟨by show 0 ≤ sizeLine; decide, fun nl4 hnl4 => ?_⟩
                  refine ne_nilI p3 hnl4 ⟨_, rfl, ?_⟩
                  have e06 := e011.trans (Ext.trans p2'' (Ext.new hnl4 (.lst [])))
                  generalize upd H12 nl4 (.lst []) = H13 at e06 ⊢
                  have hmul : (((rows.getD i []).map fun k : Nat => (k : Int)).filter fun y => !inV (.int (y * (pw b (lo + (j : Int)) m : Nat) % (m : Int))) (nv (rows.getD (i + 1) []))).isEmpty = true ↔ ∀ x ∈ rows.getD i [], x * pw b (lo + (j : Int)) m % m ∈ rows.getD (i + 1) [] := by
                    rw [filter_empty]
                    constructor
                    · intro h x hx
                      have h := h _ (List.mem_map.mpr ⟨x, hx, rfl⟩)
                      rw [← Int.natCast_mul, ← Int.natCast_emod, inV_nats, Bool.not_eq_false', decide_eq_true_iff] at h
                      exact h
                    · intro h x hx
                      obtain ⟨y, hy, rfl⟩ := List.mem_map.mp hx
                      rw [← Int.natCast_mul, ← Int.natCast_emod, inV_nats, decide_eq_true (h y hy)]
                      rfl
                  cases emp4 : (((rows.getD i []).map fun k : Nat => (k : Int)).filter fun y => !inV (.int (y * (pw b (lo + (j : Int)) m : Nat) % (m : Int))) (nv (rows.getD (i + 1) []))).isEmpty with
                  | false =>
                    refine iteT (q false H13 (Iff.intro (fun z => by cases z) fun ⟨M, z, g⟩ => ?_) e06)
                    obtain rfl := inj z
                    have hg := g.go i _ hLi
                    unfold GoesTo at hg
                    dsimp only at hg
                    rw [Int.toNat_natCast] at hg
                    rw [hmul.mpr fun x hx => hg x hx _ ⟨by omega, by omega⟩] at emp4
                    cases emp4
                  | true =>
                    refine iteF ⟨_, _, rfl, e06, fun j' hj' => ?_⟩
                    rcases Nat.lt_succ_iff_lt_or_eq.mp hj' with z | z
                    · exact gone2 j' z
                    · rw [z]
                      exact hmul.mp emp4
              · rintro σ' H10 ⟨v9, v10, rfl, e10, gone2⟩
                refine ⟨_, _, _, _, _, _, rfl, e10, fun i' hi' q hq => ?_⟩
                rcases Nat.lt_succ_iff_lt_or_eq.mp hi' with z | z
                · exact gone i' z q hq
                · subst z
                  rw [hLi] at hq
                  obtain rfl := Option.some.inj hq
                  intro x hx e he
                  dsimp only at he ⊢
                  rw [Int.toNat_natCast]
                  obtain ⟨e', he', hpe⟩ := (pw_cut (b := b) (show 1 ≤ m by omega) m2 hgb hlo hhi (c := 13) (by decide) (pw b e m)).mp ⟨e, he, rfl⟩
                  rw [hpe]
                  have := gone2 (e' - lo).toNat (by omega) x hx
                  rw [show lo + (((e' - lo).toNat : Nat) : Int) = e' by omega] at this
                  exact this
            · rintro σ H9 ⟨v5, v6, v7, v8, v9, v10, rfl, e, gone⟩
              exact q true H9 (Iff.intro (fun _ => ⟨rows, rfl, hrl, hra, start, fun i q hq => gone i (List.getElem?_eq_some_iff.mp hq).1 q hq, hout⟩) fun _ => rfl) e
end
end K75

set_option Elab.async false
set_option linter.all false
set_option maxRecDepth 100000
set_option maxHeartbeats 4000000
namespace K75
open PySem PySem.Spec PyProof.Rows L2 Bk Evl
theorem Fair.tup {es : List PyData} (hl : es.length ≤ 20) (h : ∀ y ∈ es, isB y = false ∧ Sh 20 y) : Fair (.tuple es) := fun ds z => by
  injection z with z
  subst z
  exact ⟨hl, h⟩
theorem Fair.non {d : PyData} (h : isT d = false) : Fair d := fun ds z => by rw [z] at h; cases h
theorem fair_dN {r : List Nat} (h : r.length ≤ 20) : Fair (.tuple (dN r)) := Fair.tup (by rw [List.length_map]; exact h) fun y hy => by
  obtain ⟨k, _, rfl⟩ := List.mem_map.mp hy
  exact ⟨rfl, Sh.int _ _⟩
theorem Fair2.tup {es : List PyData} (hl : es.length ≤ 40) (h : ∀ e ∈ es, Fair e) : Fair2 (.tuple es) := fun ds z => by
  injection z with z
  subst z
  exact ⟨hl, h⟩
theorem Fair2.non {d : PyData} (h : isT d = false) : Fair2 d := fun ds z => by rw [z] at h; cases h
theorem eqv_nilT (ds : List PyData) : PyData.eqv (.tuple ds) (.tuple []) = ds.isEmpty := by
  cases ds with
  | nil => rfl
  | cons d ds => rfl
section
variable {P : Program} {w : World} {K : PySem.W.Frag} {mg : Str → Option Value} {base : Heap}
theorem dpall_drop {H : Hp} : ∀ {xs : List V} {ds : List PyData}, DpAll K H xs ds → ∀ n, DpAll K H (xs.drop n) (ds.drop n)
  | _, _, h, 0 => by rw [List.drop_zero, List.drop_zero]; exact h
  | _, _, .nil, n + 1 => .nil
  | _, _, .cons _ h, n + 1 => dpall_drop h n
theorem dpall_take {H : Hp} : ∀ {xs : List V} {ds : List PyData}, DpAll K H xs ds → ∀ n, DpAll K H (xs.take n) (ds.take n)
  | _, _, _, 0 => .nil
  | _, _, .nil, n + 1 => .nil
  | _, _, .cons h t, n + 1 => .cons h (dpall_take t n)
theorem dpall_cut {H : Hp} {xs : List V} {ds : List PyData} (h : DpAll K H xs ds) (hf : ∀ e ∈ ds, Fair e) (lo hi : Option Int) : ∃ es, DpAll K H (cutV xs lo hi) es ∧ (∀ e ∈ es, Fair e) ∧ es.length ≤ ds.length :=
  ⟨_, dpall_take (dpall_drop h _) _, fun e he => hf e (((List.take_sublist _ _).trans (List.drop_sublist _ _)).subset he), by
    have := ((List.take_sublist (HT.sIx xs.length xs.length hi - HT.sIx xs.length 0 lo) (ds.drop (HT.sIx xs.length 0 lo))).trans (List.drop_sublist _ _)).length_le
    exact this⟩
theorem dpall_app {H : Hp} : ∀ {xs ys : List V} {ds es : List PyData}, DpAll K H xs ds → DpAll K H ys es → DpAll K H (xs ++ ys) (ds ++ es)
  | _, _, _, _, .nil, h => h
  | _, _, _, _, .cons a t, h => .cons a (dpall_app t h)
theorem dpall_rev {H : Hp} : ∀ {xs : List V} {ds : List PyData}, DpAll K H xs ds → DpAll K H xs.reverse ds.reverse
  | _, _, .nil => .nil
  | _, _, .cons h t => by
    rw [List.reverse_cons, List.reverse_cons]
    exact dpall_app (dpall_rev t) (.cons h .nil)
/-! ### _law_bent_rows -/
def spLBentR (K : PySem.W.Frag) : Sp := fun vs H Q _ => ∃ (d t : Addr) (m : Nat) (ts : List Addr) (rows : List (List Nat)), vs = [.ref d, .ref t, .int m] ∧ MillAt H d ∧ (1 ≤ m ∧ m ≤ 12) ∧ SqT K H t (ts.map V.ref) ∧ Paired (fun p r => SqT K H p (nv r)) ts rows ∧ (1 ≤ rows.length ∧ rows.length ≤ 13) ∧ (∀ r ∈ rows, RowS r) ∧
  ∀ x e H', Dp K H' x e → Fair2 e → MillAt H' d → But d H H' → Q x H'
theorem sc_ulaw_bent_rows : FnScope ["_law_mill_here", "_law_proof", "_law_modulus_here", "_law_at", "_law_row", "_law_way_here", "_law_k", "_law_fresh", "_law_more", "_law_odd"] ["_law_mill_here", "_law_proof", "_law_modulus_here"] (defScope s_ulaw_bent_rows) := ⟨rfl, rfl, rfl, by decide +kernel, rfl, by decide +kernel, by decide +kernel⟩
theorem ok_ulaw_bent_rows (T : Txt K mg) : Ok P w K mg base 2 (He.ga K "_law_bent_rows") ["_law_mill_here", "_law_proof", "_law_modulus_here"] (spLBentR K) := by
  obtain ⟨fd_ulaw_grain, F_ulaw_grain, b_ulaw_grain, k_ulaw_grain, _⟩ := (ok_ulaw_grain (P := P) (w := w) (base := base) T).ex
  refine fd_ok T.f_ulaw_bent_rows sc_ulaw_bent_rows (fun vs H Q E h => ?_) (fun _ _ _ _ _ _ us hl => match us, hl with | [_, _, _], _ => rfl) (fun cdv A outer s H vs Q E hr h => ?_)
  · obtain ⟨d, t, m, ts, rows, rfl, _⟩ := h
    rfl
  · obtain ⟨d, t, m, ts, rows, rfl, M, ⟨m1, m2⟩, ht, hpr, ⟨rl1, rl2⟩, hrs, q⟩ := h
    have nd := sc_ulaw_bent_rows.nd
    refine ⟨_, (pss_cons (ps_set (i := 3) nd rfl (Or.inl rfl) (pe_call F_ulaw_grain (hr.mono (by decide)) rfl T.g_ulaw_grain k_ulaw_grain b_ulaw_grain .nil pass0 (pa_cons (pv 0) (pa_cons (pe_callB call_len_seq rfl T.z_len (by decide +kernel) (pa_cons (pv 1) pa_nil)) pa_nil)))) (pss_cons (ps_par (i := 4) (j := 5) rfl nd rfl rfl (by decide) rfl rfl (pa_cons (pe_ix ix_tup (pv 1) (pv 3) (by intro _ _; rfl)) (pa_cons (pe_call F_ulaw_grain (hr.mono (by decide)) rfl T.g_ulaw_grain k_ulaw_grain b_ulaw_grain .nil pass0 (pa_cons (pv 0) (pa_cons pe_int pa_nil))) pa_nil)) (by rfl)) (Evl.pss_cut (ps_if (PW.pt (pw_and (pt_cmpR op_lt (pv 5) pe_int (nomark _)) (pw_and1 (pt_cmpR (op_neD (hr.units)) (pv 4) (pe_tupP pa_nil) (nomark _))))) (pss_cons (ps_set (i := 6) nd rfl (Or.inl rfl) (pe_call F_ulaw_grain (hr.mono (by decide)) rfl T.g_ulaw_grain k_ulaw_grain b_ulaw_grain .nil pass0 (pa_cons (pv 0) (pa_cons (pe_callB call_len_seq rfl T.z_len (by decide +kernel) (pa_cons (pv 4) pa_nil)) pa_nil)))) (pss_cons (ps_set (i := 7) nd rfl (Or.inl rfl) (pe_lst (pa_cons (pe_op op_catA (pe_slice sl_tupA (pv 4) po_none (po_some (pv 6))) (pe_slice sl_tupA (pv 4) (po_some (pe_op op_add (pv 6) pe_int)) po_none)) (pa_cons (pe_op op_catA (pv 4) (pe_tup (pa_cons (pv 2) pa_nil))) (pa_cons (pe_op op_catA (pe_op op_catA (pe_slice sl_tupA (pv 4) po_none (po_some (pv 6))) (pe_tup (pa_cons (pe_op op_sub (pe_ix ix_tup (pv 4) (pv 6) (by intro _ _; rfl)) pe_int) pa_nil))) (pe_slice sl_tupA (pv 4) (po_some (pe_op op_add (pv 6) pe_int)) po_none)) pa_nil))))) (pss_one (ps_ret (pe_op op_catA (pe_op op_catA (pe_slice sl_tupA (pv 1) po_none (po_some (pv 3))) (pe_tup (pa_cons (pe_ix ix_list (pe_op op_cat (pv 7) (pe_lst (pa_cons (pe_op op_catA (pv 4) (pe_slice sl_tupA (pv 4) (po_some (pe_un un_neg pe_int)) po_none)) pa_nil))) (pv 5) (by intro _ _; rfl)) pa_nil))) (pe_slice sl_tupA (pv 1) (po_some (pe_op op_add (pv 3) pe_int)) po_none)))))) pss_nil) (pss_cons (ps_if (pt_cmpR op_eq (pv 5) pe_int (nomark _)) (pss_one (ps_ret (pe_op op_catA (pe_op op_catA (pe_slice sl_tupA (pv 1) po_none (po_some (pv 3))) (pe_tup (pa_cons (pe_tupRg rfl rfl T.z_tuple (prg_1 rfl T.z_range (pv 2))) pa_nil))) (pe_slice sl_tupA (pv 1) (po_some (pe_op op_add (pv 3) pe_int)) po_none)))) pss_nil) (pss_cons (ps_if (pt_cmpR op_eq (pv 5) pe_int (nomark _)) (pss_cons (ps_set (i := 8) nd rfl (Or.inl rfl) (pe_tupleP rfl T.z_tuple (pe_callB (cr_sortedSet rfl) rfl T.z_sorted (by decide +kernel) (pa_cons (pe_callTy (cr_setI rfl) rfl T.z_set (by decide +kernel) (pa_cons (pe_op op_cat (pe_callTy call_list_of rfl T.z_list (by decide +kernel) (pa_cons (pv 4) pa_nil)) (pe_lst (pa_cons (pe_call F_ulaw_grain (hr.mono (by decide)) rfl T.g_ulaw_grain k_ulaw_grain b_ulaw_grain .nil pass0 (pa_cons (pv 0) (pa_cons (pv 2) pa_nil))) pa_nil))) pa_nil)) pa_nil)))) (pss_one (ps_ret (pe_op op_catA (pe_op op_catA (pe_slice sl_tupA (pv 1) po_none (po_some (pv 3))) (pe_tup (pa_cons (pv 8) pa_nil))) (pe_slice sl_tupA (pv 1) (po_some (pe_op op_add (pv 3) pe_int)) po_none))))) pss_nil) (pss_cons (ps_if (pt_cmpR op_eq (pv 5) pe_int (nomark _)) (pss_one (ps_ret (pe_ix ix_list (pe_lst (pa_cons (pe_slice sl_tupA (pv 1) po_none (po_some (pe_un un_neg pe_int))) (pa_cons (pe_op op_catA (pv 1) (pe_slice sl_tupA (pv 1) (po_some (pe_un un_neg pe_int)) po_none)) (pa_cons (pe_callTy call_list_of rfl T.z_list (by decide +kernel) (pa_cons (pv 1) pa_nil)) (pa_cons pe_non (pa_cons (pe_tupP pa_nil) (pa_cons (pe_revT (pv 1)) pa_nil))))))) (pe_call F_ulaw_grain (hr.mono (by decide)) rfl T.g_ulaw_grain k_ulaw_grain b_ulaw_grain .nil pass0 (pa_cons (pv 0) (pa_cons pe_int pa_nil))) (by intro _ _; rfl)))) pss_nil) (pss_cons (ps_set (i := 9) nd rfl (Or.inl rfl) (pe_lst (pa_cons pe_non (pa_cons (pe_callTy call_list_of rfl T.z_list (by decide +kernel) (pa_cons (pv 4) pa_nil)) (pa_cons pe_str (pa_cons (pe_op op_catA (pv 4) (pe_tup (pa_cons pe_str pa_nil))) (pa_cons pe_int (pa_cons (pe_op op_catA (pv 4) (pe_tup (pa_cons (pe_tup (pa_cons pe_int pa_nil)) pa_nil))) pa_nil)))))))) (pss_one (ps_ret (pe_op op_catA (pe_op op_catA (pe_slice sl_tupA (pv 1) po_none (po_some (pv 3))) (pe_tup (pa_cons (pe_ix ix_list (pv 9) (pe_call F_ulaw_grain (hr.mono (by decide)) rfl T.g_ulaw_grain k_ulaw_grain b_ulaw_grain .nil pass0 (pa_cons (pv 0) (pa_cons pe_int pa_nil))) (by intro _ _; rfl)) pa_nil))) (pe_slice sl_tupA (pv 1) (po_some (pe_op op_add (pv 3) pe_int)) po_none))))))))))), ?_⟩
    have tl := hpr.length
    have hlt : (ts.map V.ref).length = rows.length := by rw [List.length_map]; exact tl
    -- the parts, whatever is drawn
    have keep : ∀ {H'}, But d H H' → SqT K H' t (ts.map V.ref) ∧ DpAll K H' (ts.map V.ref) (dR rows) := fun b => ⟨sqt_mill M b ht, dpall_of_rows (L2.Paired.mapP hpr fun p r h => sqt_mill M b h)⟩
    have fairR : ∀ e ∈ dR rows, Fair e := fun e he => by
      obtain ⟨r, hr, rfl⟩ := List.mem_map.mp he
      exact fair_dN (Nat.le_trans (hrs r hr).1 (by decide))
    -- what is put together
    have fin : ∀ {H' : Hp} {p : Addr} {v : V} {e : PyData} {a1 a2 b1 b2 : Option Int}, SqT K H' p (cutV (ts.map V.ref) a1 a2 ++ [v] ++ cutV (ts.map V.ref) b1 b2) → Dp K H' v e → Fair e → MillAt H' d → But d H H' → Q (.ref p) H' := fun {H' p v e a1 a2 b1 b2} hp hv hf M' b => by
      obtain ⟨es, x1, x2, x3⟩ := dpall_cut (keep b).2 fairR a1 a2
      obtain ⟨fs, y1, y2, y3⟩ := dpall_cut (keep b).2 fairR b1 b2
      rw [List.length_map] at x3 y3
      refine q _ _ H' (.tup hp (dpall_app (dpall_app x1 (.cons hv .nil)) y1)) (Fair2.tup (by rw [List.length_append, List.length_append]; show es.length + 1 + fs.length ≤ 40; omega) fun z hz => ?_) M' b
      rcases List.mem_append.mp hz with z1 | z1
      · rcases List.mem_append.mp z1 with z2 | z2
        · exact x2 z z2
        · rw [List.mem_singleton.mp z2]
          exact hf
      · exact y2 z z1
    refine ⟨_, rfl, _, rfl, t, _, rfl, .inr ht, d, _, rfl, M, ⟨by rw [hlt]; exact rl1, by rw [hlt]; omega⟩, fun k1 H1 hk1 M1 b1 => ?_⟩
    rw [hlt] at hk1
    obtain ⟨pr, hpr1, r, hr, hsr⟩ : ∃ pr, ts[k1]? = some pr ∧ ∃ r, rows[k1]? = some r ∧ SqT K H1 pr (nv r) := by
      have h1 : k1 < ts.length := by omega
      obtain ⟨r, hr, hs⟩ := paired_at (L2.Paired.mapP hpr fun p r h => sqt_mill M b1 h) k1 ts[k1] (List.getElem?_eq_getElem h1)
      exact ⟨ts[k1], List.getElem?_eq_getElem h1, r, hr, hs⟩
    have hrS := hrs r (List.mem_of_getElem? hr)
    have ht1 := (keep b1).1
    refine ⟨_, rfl, _, rfl, t, _, _, .ref pr, rfl, rfl, ht1, atI_nat (by rw [List.getElem?_map, hpr1]; rfl), _, rfl, d, 9, rfl, M1, ⟨by decide, by decide⟩, fun wy H2 hwy M2 b2 => ⟨_, _, rfl, ?_⟩⟩
    have b02 := b1.trans b2
    have hsr2 := sqt_mill M1 b2 hsr
    have hrl := hrS.1
    refine ⟨fun σ' H' => ∃ (u6 u7 u8 u9 : Option V), σ' = [some (.ref d), some (.ref t), some (.int m), some (.int k1), some (.ref pr), some (.int wy), u6, u7, u8, u9] ∧ MillAt H' d ∧ But d H H' ∧ SqT K H' pr (nv r), ?_, ?_⟩
    · have next : ∀ H', Ext H2 H' → ∃ (u6 u7 u8 u9 : Option V), [some (V.ref d), some (.ref t), some (.int m), some (.int k1), some (.ref pr), some (.int wy), none, none, none, none] = [some (.ref d), some (.ref t), some (.int m), some (.int k1), some (.ref pr), some (.int wy), u6, u7, u8, u9] ∧ MillAt H' d ∧ But d H H' ∧ SqT K H' pr (nv r) := fun H' e => ⟨_, _, _, _, rfl, M2.ext e, b02.trans (e.but d), sqt_ext hsr2 e⟩
      refine ⟨_, rfl, _, _, rfl, rfl, _, rfl, ?_⟩
      refine ite2 (fun h4 => ?_) (fun _ => next H2 (Ext.refl H2))
      have h4' : wy < 4 := by have := of_decide_eq_true h4; omega
      refine ⟨_, rfl, by show 0 ≤ sizeLine; decide, fun t0 o hn oc od => ?_⟩
      have e3 := Ext.new hn (.frz o (.tup []))
      have h0 : SqT K (upd H2 t0 (.frz o (.tup []))) t0 [] := (plt_new (K := K) oc od).sqt
      have hsr3 := sqt_ext hsr2 e3
      have M3 := M2.ext e3
      have b03 := b02.trans (e3.but d)
      refine ⟨.tuple (dN r), .tuple [], .tup hsr3 (dpall_nv r), .tup h0 .nil, (Sh.tup (n := 19) fun y hy => ?_).shaped (by decide), (Sh.tup (n := 19) fun y hy => by cases hy).shaped (by decide), _, rfl, ?_⟩
      · obtain ⟨k, _, rfl⟩ := List.mem_map.mp hy
        exact Sh.int _ _
      rw [eqv_nilT]
      cases r with
      | nil => exact iteF (next _ e3)
      | cons x0 r0 =>
        refine iteT ?_
        generalize hrr : x0 :: r0 = r at *
        have hr1 : 1 ≤ r.length := by rw [← hrr]; simp
        have hrv : (nv r).length = r.length := List.length_map _
        generalize upd H2 t0 (.frz o (.tup [])) = H3 at hsr3 M3 b03 ⊢
        refine ⟨_, rfl, _, rfl, pr, _, rfl, .inr hsr3, d, _, rfl, M3, ⟨by rw [hrv]; exact hr1, by rw [hrv]; omega⟩, fun k4 H4 hk4 M4 b4 => ?_⟩
        rw [hrv] at hk4
        have hsr4 := sqt_mill M3 b4 hsr3
        have b04 := b03.trans b4
        obtain ⟨rk, hrk⟩ : ∃ z, r[k4]? = some z := ⟨r[k4], List.getElem?_eq_getElem hk4⟩
        have rowI : ∀ {q : List Nat}, ∀ y ∈ dN q, isB y = false ∧ Sh 20 y := fun y hy => by
          obtain ⟨z, _, rfl⟩ := List.mem_map.mp hy
          exact ⟨rfl, Sh.int _ _⟩
        obtain ⟨ra, ea, sa1⟩ := cutV_nv r none (some (k4 : Int))
        obtain ⟨rb, eb, sb1⟩ := cutV_nv r (some ((k4 : Int) + 1)) none
        obtain ⟨rc, ec, sc1⟩ := cutV_nv r (some (-1)) none
        have la := sa1.length_le
        have lb := sb1.length_le
        have lc := sc1.length_le
        have la2 := cut_hi (nv r) k4
        have lb2 := cut_lo (nv r) k4 (by rw [hrv]; exact hk4)
        rw [ea, List.length_map] at la2
        rw [eb, List.length_map, hrv] at lb2
        have lc2 : rc.length ≤ 1 := by
          have h : (cutV (nv r) (some (-1)) none).length ≤ 1 := by
            unfold cutV
            rw [List.length_take, List.length_drop]
            unfold HT.sIx
            dsimp only
            rw [if_pos (by decide)]
            omega
          rw [ec, List.length_map] at h
          exact h
        refine ⟨_, rfl, _, rfl, _, rfl, slA hsr4 fun a1 H5 ha1 e5 => ⟨_, rfl, _, rfl, _, _, rfl, rfl, _, rfl, ?_⟩⟩
        try unfold tNoPart
        dsimp only
        refine slA (sqt_ext hsr4 e5) fun a2 H6 ha2 e6 => ?_
        rw [ea] at ha1
        rw [eb] at ha2
        refine catA (sqt_ext ha1 e6) ha2 (by rw [List.length_map, List.length_map]; omega) fun f1 H7 hf1 e7 => ?_
        have e47 := (e5.trans e6).trans e7
        have hsr7 := sqt_ext hsr4 e47
        have M7 := M4.ext e47
        have b07 := b04.trans (e47.but d)
        refine ⟨_, rfl, _, rfl, by show 1 ≤ sizeLine; decide, fun a3 ha3 => ?_⟩
        have e8 := Ext.new ha3 (.tup [.int m])
        refine catA (sqt_ext hsr7 e8) (SqT.of upd_same) (by rw [hrv]; show r.length + 1 ≤ 1000; omega) fun f2 H9 hf2 e9 => ?_
        have e79 := e8.trans e9
        have hsr9 := sqt_ext hsr7 e79
        have hf1 := sqt_ext hf1 e79
        have M9 := M7.ext e79
        have b09 := b07.trans (e79.but d)
        refine ⟨_, rfl, _, rfl, _, rfl, slA hsr9 fun a4 H10 ha4 e10 => ?_⟩
        rw [ea] at ha4
        refine ⟨_, rfl, _, rfl, pr, _, _, .int rk, rfl, rfl, sqt_ext hsr9 e10, atI_nat (by rw [List.getElem?_map, hrk]; rfl), _, _, rfl, rfl, by show 1 ≤ sizeLine; decide, fun a5 ha5 => ?_⟩
        have e11 := Ext.new ha5 (.tup [.int ((rk : Int) - 1)])
        refine catA (sqt_ext ha4 e11) (SqT.of upd_same) (by rw [List.length_map]; show ra.length + 1 ≤ 1000; omega) fun a6 H12 ha6 e12 => ?_
        have e912 := (e10.trans e11).trans e12
        refine ⟨_, rfl, _, rfl, _, _, rfl, rfl, _, rfl, ?_⟩
        dsimp only
        refine slA (sqt_ext hsr9 e912) fun a7 H13 ha7 e13 => ?_
        rw [eb] at ha7
        refine catA (sqt_ext ha6 e13) ha7 (by rw [List.length_append, List.length_map, List.length_map]; show ra.length + 1 + rb.length ≤ 1000; omega) fun f3 H14 hf3 e14 => ?_
        have e914 := (e912.trans e13).trans e14
        have hf1 := sqt_ext hf1 e914
        have hf2 := sqt_ext hf2 e914
        have hsr14 := sqt_ext hsr9 e914
        have M14 := M9.ext e914
        have b014 := b09.trans (e914.but d)
        refine ⟨by show 3 ≤ sizeLine; decide, fun fl hfl => ?_⟩
        have e15 := Ext.new hfl (.lst [.ref f1, .ref f2, .ref f3])
        have kfl : upd H14 fl (.lst [.ref f1, .ref f2, .ref f3]) fl = some (.lst [.ref f1, .ref f2, .ref f3]) := upd_same
        have hf1 := sqt_ext hf1 e15
        have hf2 := sqt_ext hf2 e15
        have hf3 := sqt_ext hf3 e15
        have hsr15 := sqt_ext hsr14 e15
        have M15 := M14.ext e15
        have b015 := b014.trans (e15.but d)
        generalize upd H14 fl (.lst [.ref f1, .ref f2, .ref f3]) = H15 at kfl hf1 hf2 hf3 hsr15 M15 b015 ⊢
        refine ⟨_, rfl, _, rfl, _, rfl, slA (keep b015).1 fun p1 HC h1 eC => ?_⟩
        have MC := M15.ext eC
        have bC := b015.trans (eC.but d)
        refine ⟨_, rfl, _, rfl, _, rfl, _, rfl, _, rfl, ?_⟩
        dsimp only
        refine slA (sqt_ext hsr15 eC) fun a8 H16 ha8 e16 => ?_
        rw [ec] at ha8
        refine catA (sqt_ext hsr15 (eC.trans e16)) ha8 (by rw [List.length_map, List.length_map]; omega) fun f4 H17 hf4 e17 => ?_
        refine ⟨by show 1 ≤ sizeLine; decide, fun l2 hl2 => ?_⟩
        have e18 := Ext.new hl2 (.lst [.ref f4])
        have eCx := (e16.trans e17).trans e18
        refine ⟨fl, l2, _, _, rfl, rfl, eCx _ _ (eC _ _ kfl), upd_same, by show 3 + 1 ≤ sizeLine; decide, fun l3 hl3 => ?_⟩
        have e19 := Ext.new hl3 (.lst ([.ref f1, .ref f2, .ref f3] ++ [.ref f4]))
        have eCy := eCx.trans e19
        have hf1 := sqt_ext hf1 (eC.trans eCy)
        have hf2 := sqt_ext hf2 (eC.trans eCy)
        have hf3 := sqt_ext hf3 (eC.trans eCy)
        have hf4 := sqt_ext hf4 (e18.trans e19)
        have h1 := sqt_ext h1 eCy
        have MC := MC.ext eCy
        have bC := bC.trans (eCy.but d)
        have kl3 : upd (upd H17 l2 (.lst [.ref f4])) l3 (.lst ([.ref f1, .ref f2, .ref f3] ++ [.ref f4])) l3 = some (.lst [.ref f1, .ref f2, .ref f3, .ref f4]) := upd_same
        generalize upd (upd H17 l2 (.lst [.ref f4])) l3 (.lst ([.ref f1, .ref f2, .ref f3] ++ [.ref f4])) = H' at kl3 hf1 hf2 hf3 hf4 h1 MC bC ⊢
        obtain ⟨v, e, hv, dv, fv⟩ : ∃ (v : V) (e : PyData), ([.ref f1, .ref f2, .ref f3, .ref f4] : List V)[wy]? = some v ∧ Dp K H' v e ∧ Fair e := by
          have app : ∀ {q1 q2 : List Nat} {y : PyData}, y ∈ dN q1 ++ dN q2 → isB y = false ∧ Sh 20 y := fun hy => (List.mem_append.mp hy).elim (rowI _) (rowI _)
          match wy, h4' with
          | 0, _ => exact ⟨_, _, rfl, .tup hf1 (dpall_app (dpall_nv ra) (dpall_nv rb)), Fair.tup (by rw [List.length_append, List.length_map, List.length_map]; omega) fun y hy => app hy⟩
          | 1, _ => exact ⟨_, _, rfl, .tup hf2 (dpall_app (dpall_nv r) (dpall_nv [m])), Fair.tup (by rw [List.length_append, List.length_map]; show r.length + 1 ≤ 20; omega) fun y hy => app hy⟩
          | 2, _ => exact ⟨_, _, rfl, .tup hf3 (dpall_app (dpall_app (dpall_nv ra) (.cons (.int _) .nil)) (dpall_nv rb)), Fair.tup (by rw [List.length_append, List.length_append, List.length_map, List.length_map]; show ra.length + 1 + rb.length ≤ 20; omega) fun y hy => by
              rcases List.mem_append.mp hy with z | z
              · rcases List.mem_append.mp z with z | z
                · exact rowI y z
                · rw [List.mem_singleton.mp z]
                  exact ⟨rfl, Sh.int _ _⟩
              · exact rowI y z⟩
          | 3, _ => exact ⟨_, _, rfl, .tup hf4 (dpall_app (dpall_nv r) (dpall_nv rc)), Fair.tup (by rw [List.length_append, List.length_map, List.length_map]; omega) fun y hy => app hy⟩
          | k + 4, hk => omega
        refine ⟨_, rfl, l3, _, _, v, rfl, rfl, SqL.of kl3, atI_nat hv, ?_⟩
        refine ⟨by show 1 ≤ sizeLine; decide, fun p9 hp9 => ?_⟩
        have e9 := Ext.new hp9 (.tup [v])
        have c1 := cutV_length (ts.map V.ref) none (some (k1 : Int))
        have c2 := cutV_length (ts.map V.ref) (some ((k1 : Int) + 1)) none
        refine catA (sqt_ext h1 e9) (SqT.of upd_same) (by rw [hlt] at c1; show _ + 1 ≤ 1000; omega) fun p10 H12 h10 e13 => ?_
        have M12 := (MC.ext e9).ext e13
        have b12 := (bC.trans (e9.but d)).trans (e13.but d)
        have d12 := Dp.ext e13 _ _ (Dp.ext e9 _ _ dv)
        refine ⟨_, rfl, _, rfl, _, _, rfl, rfl, _, rfl, ?_⟩
        try unfold tNoPart
        dsimp only
        refine slA (keep b12).1 fun p11 H13 h11 e14 => ?_
        refine catA (sqt_ext h10 e14) h11 (by rw [hlt] at c1 c2; rw [List.length_append]; show _ + 1 + _ ≤ 1000; omega) fun p12 H14 h12 e15 => ?_
        exact fin h12 (Dp.ext e15 _ _ (Dp.ext e14 _ _ d12)) fv ((M12.ext e14).ext e15) ((b12.trans (e14.but d)).trans (e15.but d))
    · rintro σ' H3 ⟨u6, u7, u8, u9, rfl, M3, b03, hsr3⟩
      refine ⟨_, rfl, rfl, _, rfl, ?_⟩
      refine ite2 (fun _ => ?_) (fun _ => ?_)
      · refine ⟨_, rfl, _, rfl, _, rfl, slA (keep b03).1 fun p1 HC h1 eC => ?_⟩
        have MC := M3.ext eC
        have bC := b03.trans (eC.but d)
        refine ⟨_, rfl, _, rfl, RgOk.of_le (by decide) (by omega) (by decide) (by omega), fun p8 hp8 => ?_⟩
        have e8 := Ext.new hp8 (.tup (rgV 0 (m : Int)))
        have h8 : SqT K (upd HC p8 (.tup (rgV 0 (m : Int)))) p8 (nv (List.range m)) := by
          have er : nv (List.range m) = rgV 0 (m : Int) := by
            unfold rgV
            rw [show ((m : Int) - 0).toNat = m by omega]
            refine List.map_congr_left fun x _ => ?_
            show V.int ((x : Nat) : Int) = V.int (0 + (x : Nat))
            congr 1
            omega
          rw [er]
          exact SqT.of upd_same
        have h1 := sqt_ext h1 e8
        have MC := MC.ext e8
        have bC := bC.trans (e8.but d)
        generalize upd HC p8 (.tup (rgV 0 (m : Int))) = HC at h8 h1 MC bC ⊢
        refine ⟨by show 1 ≤ sizeLine; decide, fun p9 hp9 => ?_⟩
        have e9 := Ext.new hp9 (.tup [.ref p8])
        have c1 := cutV_length (ts.map V.ref) none (some (k1 : Int))
        have c2 := cutV_length (ts.map V.ref) (some ((k1 : Int) + 1)) none
        refine catA (sqt_ext h1 e9) (SqT.of upd_same) (by rw [hlt] at c1; show _ + 1 ≤ 1000; omega) fun p10 H12 h10 e13 => ?_
        have M12 := (MC.ext e9).ext e13
        have b12 := (bC.trans (e9.but d)).trans (e13.but d)
        have d12 := Dp.ext e13 _ _ (Dp.ext e9 _ _ (.tup h8 (dpall_nv _)))
        refine ⟨_, rfl, _, rfl, _, _, rfl, rfl, _, rfl, ?_⟩
        try unfold tNoPart
        dsimp only
        refine slA (keep b12).1 fun p11 H13 h11 e14 => ?_
        refine catA (sqt_ext h10 e14) h11 (by rw [hlt] at c1 c2; rw [List.length_append]; show _ + 1 + _ ≤ 1000; omega) fun p12 H14 h12 e15 => ?_
        exact fin h12 (Dp.ext e15 _ _ (Dp.ext e14 _ _ d12)) (fair_dN (by rw [List.length_range]; omega)) ((M12.ext e14).ext e15) ((b12.trans (e14.but d)).trans (e15.but d))
      · refine ⟨_, rfl, rfl, _, rfl, ?_⟩
        refine ite2 (fun _ => ?_) (fun _ => ?_)
        · refine ⟨_, rfl, pr, _, rfl, .inr hsr3, fun l1 hl1 => ?_⟩
          have el1 := Ext.new hl1 (.lst (nv r))
          have kl1 : upd H3 l1 (.lst (nv r)) l1 = some (.lst (nv r)) := upd_same
          have nl1 := mill_new M3 hl1
          have M4 := M3.ext el1
          have b04 := b03.trans (el1.but d)
          generalize upd H3 l1 (.lst (nv r)) = H4 at kl1 M4 b04 ⊢
          refine ⟨_, rfl, _, rfl, d, m, rfl, M4, ⟨by omega, by omega⟩, fun k2 H5 hk2 M5 b5 => ⟨by show 1 ≤ sizeLine; decide, fun l2 hl2 => ?_⟩⟩
          have kl1 := b5 _ _ kl1 nl1
          have b05 := b04.trans b5
          have el2 := Ext.new hl2 (.lst [.int k2])
          refine ⟨l1, l2, _, _, rfl, rfl, el2 _ _ kl1, upd_same, by rw [List.length_map]; exact small_line (by show r.length + 1 ≤ 1000; omega), fun l3 hl3 => ?_⟩
          have el3 := el2.trans (Ext.new hl3 (.lst (nv r ++ [.int k2])))
          have kl3 : upd (upd H5 l2 (.lst [.int k2])) l3 (.lst (nv r ++ [.int k2])) l3 = some (.lst (((r ++ [k2]).map fun k : Nat => (k : Int)).map V.int)) := by rw [upd_same, List.map_map, List.map_append]; rfl
          generalize upd (upd H5 l2 (.lst [.int k2])) l3 (.lst (nv r ++ [.int k2])) = H6 at el3 kl3 ⊢
          refine ⟨l3, _, rfl, .inl (SqL.of kl3), by rw [List.length_map, List.length_append]; show r.length + 1 ≤ 1000; omega, fun sa n hn hfew hsa => ?_⟩
          refine ⟨sa, _, n, rfl, upd_same, by rw [List.length_map, List.length_append] at hn; have : n ≤ r.length + 1 := hn; omega, fun ms p asc mem ml2 hp => ?_⟩
          obtain ⟨r1, rfl, hr1, _, _⟩ := set_row (fun x hx => by
            obtain ⟨k, hk, rfl⟩ := List.mem_map.mp hx
            rcases List.mem_append.mp hk with z | z
            · have := hrS.2 k z
              omega
            · rw [List.mem_singleton.mp z]
              omega) mem asc
          refine ⟨p, _, rfl, SqL.of upd_same, fun t1 o ht1' oc od => ?_⟩
          rw [show (Cx.nox (cxOf CX0 P w K mg base _ _ _ _ cdv A outer s H E)).w = w from rfl]
          have e4 : Ext H5 (upd (upd (upd H6 sa (SetO w sa (fun j => decide (j ∈ (r ++ [k2]).map fun k : Nat => (k : Int))) n)) p (.lst ((r1.map fun k : Nat => (k : Int)).map V.int))) t1 (.frz o (.tup ((r1.map fun k : Nat => (k : Int)).map V.int)))) := ((el3.trans (Ext.new hsa _)).trans (Ext.new hp _)).trans (Ext.new ht1' _)
          have ht1 : SqT K (upd (upd (upd H6 sa (SetO w sa (fun j => decide (j ∈ (r ++ [k2]).map fun k : Nat => (k : Int))) n)) p (.lst ((r1.map fun k : Nat => (k : Int)).map V.int))) t1 (.frz o (.tup ((r1.map fun k : Nat => (k : Int)).map V.int)))) t1 ((r1.map fun k : Nat => (k : Int)).map V.int) := (plt_new (K := K) oc od).sqt
          generalize upd (upd (upd H6 sa (SetO w sa (fun j => decide (j ∈ (r ++ [k2]).map fun k : Nat => (k : Int))) n)) p (.lst ((r1.map fun k : Nat => (k : Int)).map V.int))) t1 (.frz o (.tup ((r1.map fun k : Nat => (k : Int)).map V.int))) = H7 at e4 ht1 ⊢
          replace ht1 : SqT K H7 t1 (nv r1) := by rw [List.map_map] at ht1; exact ht1
          have M7 := M5.ext e4
          have b07 := b05.trans (e4.but d)
          refine ⟨_, rfl, _, rfl, _, rfl, slA (keep b07).1 fun p1 HC h1 eC => ?_⟩
          have MC := M7.ext eC
          have bC := b07.trans (eC.but d)
          have h8 := sqt_ext ht1 eC
          refine ⟨_, rfl, ?_⟩
          refine ⟨by show 1 ≤ sizeLine; decide, fun p9 hp9 => ?_⟩
          have e9 := Ext.new hp9 (.tup [.ref t1])
          have c1 := cutV_length (ts.map V.ref) none (some (k1 : Int))
          have c2 := cutV_length (ts.map V.ref) (some ((k1 : Int) + 1)) none
          refine catA (sqt_ext h1 e9) (SqT.of upd_same) (by rw [hlt] at c1; show _ + 1 ≤ 1000; omega) fun p10 H12 h10 e13 => ?_
          have M12 := (MC.ext e9).ext e13
          have b12 := (bC.trans (e9.but d)).trans (e13.but d)
          have d12 := Dp.ext e13 _ _ (Dp.ext e9 _ _ (.tup h8 (dpall_nv _)))
          refine ⟨_, rfl, _, rfl, _, _, rfl, rfl, _, rfl, ?_⟩
          try unfold tNoPart
          dsimp only
          refine slA (keep b12).1 fun p11 H13 h11 e14 => ?_
          refine catA (sqt_ext h10 e14) h11 (by rw [hlt] at c1 c2; rw [List.length_append]; show _ + 1 + _ ≤ 1000; omega) fun p12 H14 h12 e15 => ?_
          exact fin h12 (Dp.ext e15 _ _ (Dp.ext e14 _ _ d12)) (fair_dN (Nat.le_trans hr1.1 (by decide))) ((M12.ext e14).ext e15) ((b12.trans (e14.but d)).trans (e15.but d))
        · refine ⟨_, rfl, rfl, _, rfl, ?_⟩
          refine ite2 (fun _ => ?_) (fun _ => ?_)
          · refine ⟨_, rfl, _, rfl, _, rfl, slA (keep b03).1 fun p1 H4 h1 e4 => ?_⟩
            have M4 := M3.ext e4
            have b04 := b03.trans (e4.but d)
            refine ⟨_, rfl, _, rfl, _, rfl, _, rfl, ?_⟩
            try unfold tNoPart
            dsimp only
            refine slA (keep b04).1 fun p2 H5 h2 e5 => ?_
            have c2 := cutV_length (ts.map V.ref) (some (-1)) none
            have M5 := M4.ext e5
            have b05 := b04.trans (e5.but d)
            refine catA (keep b05).1 h2 (by rw [hlt] at c2 ⊢; omega) fun p3 H6 h3 e6 => ?_
            have M6 := M5.ext e6
            have b06 := b05.trans (e6.but d)
            refine ⟨_, rfl, t, _, rfl, .inr (keep b06).1, fun l5 hl5 => ?_⟩
            have e7 := Ext.new hl5 (.lst (ts.map V.ref))
            have kl5 : upd H6 l5 (.lst (ts.map V.ref)) l5 = some (.lst (ts.map V.ref)) := upd_same
            have nl5 := mill_new M6 hl5
            have M7 := M6.ext e7
            have b07 := b06.trans (e7.but d)
            have h1 := sqt_ext (sqt_ext (sqt_ext h1 e5) e6) e7
            have h3 := sqt_ext h3 e7
            generalize upd H6 l5 (.lst (ts.map V.ref)) = H7 at kl5 M7 b07 h1 h3 ⊢
            refine ⟨by show 0 ≤ sizeLine; decide, fun t7 o7 hn7 oc7 od7 => ?_⟩
            have e8 := Ext.new hn7 (.frz o7 (.tup []))
            have h7 : SqT K (upd H7 t7 (.frz o7 (.tup []))) t7 [] := (plt_new (K := K) oc7 od7).sqt
            have kl5 := e8 _ _ kl5
            have M8 := M7.ext e8
            have b08 := b07.trans (e8.but d)
            have h1 := sqt_ext h1 e8
            have h3 := sqt_ext h3 e8
            generalize upd H7 t7 (.frz o7 (.tup [])) = H8 at kl5 M8 b08 h1 h3 h7 ⊢
            refine ⟨_, rfl, t, _, rfl, (keep b08).1, fun p6 hp6 => ?_⟩
            have e9 := Ext.new hp6 (.tup (ts.map V.ref).reverse)
            have h6 : SqT K (upd H8 p6 (.tup (ts.map V.ref).reverse)) p6 (ts.map V.ref).reverse := SqT.of upd_same
            have kl5 := e9 _ _ kl5
            have M9 := M8.ext e9
            have b09 := b08.trans (e9.but d)
            have h1 := sqt_ext h1 e9
            have h3 := sqt_ext h3 e9
            have h7 := sqt_ext h7 e9
            generalize upd H8 p6 (.tup (ts.map V.ref).reverse) = H9 at kl5 M9 b09 h1 h3 h6 h7 ⊢
            refine ⟨by show 6 ≤ sizeLine; decide, fun dl hdl => ?_⟩
            have e15 := Ext.new hdl (.lst [.ref p1, .ref p3, .ref l5, .non, .ref t7, .ref p6])
            have kdl : upd H9 dl (.lst [.ref p1, .ref p3, .ref l5, .non, .ref t7, .ref p6]) dl = some (.lst [.ref p1, .ref p3, .ref l5, .non, .ref t7, .ref p6]) := upd_same
            have ndl := mill_new M9 hdl
            have kl5 := e15 _ _ kl5
            have M13 := M9.ext e15
            have b13 := b09.trans (e15.but d)
            have h1 := sqt_ext h1 e15
            have h3 := sqt_ext h3 e15
            have h6 := sqt_ext h6 e15
            have h7 := sqt_ext h7 e15
            generalize upd H9 dl (.lst [.ref p1, .ref p3, .ref l5, .non, .ref t7, .ref p6]) = H13 at kdl h1 h3 h6 h7 kl5 M13 b13 ⊢
            refine ⟨_, rfl, d, 6, rfl, M13, ⟨by decide, by decide⟩, fun k H' hk M' b' => ?_⟩
            have b14 := b13.trans b'
            have kdl := b' _ _ kdl ndl
            have kl5 := b' _ _ kl5 nl5
            have hdp := (keep b14).2
            have done : ∀ (v : V) (e : PyData), ([.ref p1, .ref p3, .ref l5, .non, .ref t7, .ref p6] : List V)[k]? = some v → Dp K H' v e → Fair2 e → _ := fun v e hv he hb => (⟨dl, _, _, v, rfl, rfl, SqL.of kdl, atI_nat hv, q v e H' he hb M' b14⟩ : rIxL K (.ref dl) (.int k) H' Q)
            obtain ⟨es, x1, x2, x3⟩ := dpall_cut hdp fairR none (some (-1))
            obtain ⟨fs, y1, y2, y3⟩ := dpall_cut hdp fairR (some (-1)) none
            rw [List.length_map] at x3 y3
            match k, hk, done with
            | 0, _, done => exact done _ _ rfl (.tup (sqt_mill M13 b' h1) x1) (Fair2.tup (by omega) x2)
            | 1, _, done => exact done _ _ rfl (.tup (sqt_mill M13 b' h3) (dpall_app hdp y1)) (Fair2.tup (by rw [List.length_append, List.length_map]; omega) fun e he => (List.mem_append.mp he).elim (fairR e) (y2 e))
            | 2, _, done => exact done _ _ rfl (.lst (SqL.of kl5) hdp) (Fair2.non rfl)
            | 3, _, done => exact done _ _ rfl .non (Fair2.non rfl)
            | 4, _, done => exact done _ _ rfl (.tup (sqt_mill M13 b' h7) .nil) (Fair2.tup (by decide) fun e he => by cases he)
            | 5, _, done => exact done _ _ rfl (.tup (sqt_mill M13 b' h6) (dpall_rev hdp)) (Fair2.tup (by rw [List.length_reverse, List.length_map]; omega) fun e he => fairR e (List.mem_reverse.mp he))
            | k + 6, hk, _ => omega
          · refine ⟨_, rfl, pr, _, rfl, .inr hsr3, fun l1 hl1 => ?_⟩
            have e4 := Ext.new hl1 (.lst (nv r))
            have kl1 : upd H3 l1 (.lst (nv r)) l1 = some (.lst (nv r)) := upd_same
            have nl1 := mill_new M3 hl1
            have M4 := M3.ext e4
            have b04 := b03.trans (e4.but d)
            have hsr4 := sqt_ext hsr3 e4
            generalize upd H3 l1 (.lst (nv r)) = H4 at kl1 M4 b04 hsr4 ⊢
            refine ⟨_, rfl, by show 1 ≤ sizeLine; decide, fun p2 hp2 => ?_⟩
            have e5 := Ext.new hp2 (.tup [.str "1"])
            refine catA (sqt_ext hsr4 e5) (SqT.of upd_same) (by rw [List.length_map]; show r.length + 1 ≤ 1000; omega) fun p3 H6 h3 e6 => ?_
            have e46 := e5.trans e6
            have kl1 := e46 _ _ kl1
            have M6 := M4.ext e46
            have b06 := b04.trans (e46.but d)
            have hsr6 := sqt_ext hsr4 e46
            refine ⟨_, rfl, by show 1 ≤ sizeLine; decide, fun p4 hp4 => ⟨by show 1 ≤ sizeLine; decide, fun p5 hp5 => ?_⟩⟩
            have e7 := (Ext.new hp4 (.tup [.int 1])).trans (Ext.new hp5 (.tup [.ref p4]))
            have h4 : SqT K (upd (upd H6 p4 (.tup [.int 1])) p5 (.tup [.ref p4])) p4 [.int 1] := SqT.of ((Ext.new hp5 _) _ _ upd_same)
            refine catA (sqt_ext hsr6 e7) (SqT.of upd_same) (by rw [List.length_map]; show r.length + 1 ≤ 1000; omega) fun p6 H8 h6 e8 => ?_
            have e78 := e7.trans e8
            have h4 := sqt_ext h4 e8
            have h3 := sqt_ext h3 e78
            have kl1 := e78 _ _ kl1
            have M8 := M6.ext e78
            have b08 := b06.trans (e78.but d)
            refine ⟨by show 6 ≤ sizeLine; decide, fun ol hol => ?_⟩
            have e9 := Ext.new hol (.lst [.non, .ref l1, .str "1", .ref p3, .int 1, .ref p6])
            have kol : upd H8 ol (.lst [.non, .ref l1, .str "1", .ref p3, .int 1, .ref p6]) ol = some (.lst [.non, .ref l1, .str "1", .ref p3, .int 1, .ref p6]) := upd_same
            have nol := mill_new M8 hol
            have h3 := sqt_ext h3 e9
            have h4 := sqt_ext h4 e9
            have h6 := sqt_ext h6 e9
            have kl1 := e9 _ _ kl1
            have M9 := M8.ext e9
            have b09 := b08.trans (e9.but d)
            generalize upd H8 ol (.lst [.non, .ref l1, .str "1", .ref p3, .int 1, .ref p6]) = H9 at kol h3 h4 h6 kl1 M9 b09 ⊢
            refine ⟨_, rfl, _, rfl, _, rfl, slA (keep b09).1 fun p1 HC h1 eC => ?_⟩
            have MC := M9.ext eC
            have bC := b09.trans (eC.but d)
            have kol := eC _ _ kol
            have kl1 := eC _ _ kl1
            refine ⟨_, rfl, _, rfl, d, 6, rfl, MC, ⟨by decide, by decide⟩, fun k H' hk M' b' => ?_⟩
            have kol := b' _ _ kol nol
            have kl1 := b' _ _ kl1 nl1
            have h3 := sqt_mill MC b' (sqt_ext h3 eC)
            have h4 := sqt_mill MC b' (sqt_ext h4 eC)
            have h6 := sqt_mill MC b' (sqt_ext h6 eC)
            have h1 := sqt_mill MC b' h1
            have bC := bC.trans b'
            have MC := M'
            obtain ⟨v, e, hv, dv, fv⟩ : ∃ (v : V) (e : PyData), ([.non, .ref l1, .str "1", .ref p3, .int 1, .ref p6] : List V)[k]? = some v ∧ Dp K H' v e ∧ Fair e := by
              have rowI : ∀ y ∈ dN r, isB y = false ∧ Sh 20 y := fun y hy => by
                obtain ⟨z, _, rfl⟩ := List.mem_map.mp hy
                exact ⟨rfl, Sh.int _ _⟩
              match k, hk with
              | 0, _ => exact ⟨_, _, rfl, .non, Fair.non rfl⟩
              | 1, _ => exact ⟨_, _, rfl, .lst (SqL.of kl1) (dpall_nv r), Fair.non rfl⟩
              | 2, _ => exact ⟨_, _, rfl, .str _, Fair.non rfl⟩
              | 3, _ => exact ⟨_, _, rfl, .tup h3 (dpall_app (dpall_nv r) (.cons (.str _) .nil)), Fair.tup (by rw [List.length_append, List.length_map]; show r.length + 1 ≤ 20; omega) fun y hy => (List.mem_append.mp hy).elim (rowI y) fun z => by rw [List.mem_singleton.mp z]; exact ⟨rfl, by decide +kernel, Nat.zero_le _⟩⟩
              | 4, _ => exact ⟨_, _, rfl, .int _, Fair.non rfl⟩
              | 5, _ => exact ⟨_, _, rfl, .tup h6 (dpall_app (dpall_nv r) (.cons (.tup h4 (.cons (.int _) .nil)) .nil)), Fair.tup (by rw [List.length_append, List.length_map]; show r.length + 1 ≤ 20; omega) fun y hy => (List.mem_append.mp hy).elim (rowI y) fun z => by rw [List.mem_singleton.mp z]; exact ⟨rfl, Sh.tup (n := 19) fun y hy => by rw [List.mem_singleton.mp hy]; exact Sh.int _ _⟩⟩
              | k + 6, hk => omega
            refine ⟨ol, _, _, v, rfl, rfl, SqL.of kol, atI_nat hv, ?_⟩
            refine ⟨by show 1 ≤ sizeLine; decide, fun p9 hp9 => ?_⟩
            have e9 := Ext.new hp9 (.tup [v])
            have c1 := cutV_length (ts.map V.ref) none (some (k1 : Int))
            have c2 := cutV_length (ts.map V.ref) (some ((k1 : Int) + 1)) none
            refine catA (sqt_ext h1 e9) (SqT.of upd_same) (by rw [hlt] at c1; show _ + 1 ≤ 1000; omega) fun p10 H12 h10 e13 => ?_
            have M12 := (MC.ext e9).ext e13
            have b12 := (bC.trans (e9.but d)).trans (e13.but d)
            have d12 := Dp.ext e13 _ _ (Dp.ext e9 _ _ dv)
            refine ⟨_, rfl, _, rfl, _, _, rfl, rfl, _, rfl, ?_⟩
            try unfold tNoPart
            dsimp only
            refine slA (keep b12).1 fun p11 H13 h11 e14 => ?_
            refine catA (sqt_ext h10 e14) h11 (by rw [hlt] at c1 c2; rw [List.length_append]; show _ + 1 + _ ≤ 1000; omega) fun p12 H14 h12 e15 => ?_
            exact fin h12 (Dp.ext e15 _ _ (Dp.ext e14 _ _ d12)) fv ((M12.ext e14).ext e15) ((b12.trans (e14.but d)).trans (e15.but d))
end
end K75

set_option Elab.async false
set_option linter.all false
set_option maxRecDepth 100000
set_option maxHeartbeats 4000000
namespace K75
open PySem PySem.Spec PyProof.Rows L2 Bk Evl
/-! the heap without one address; data of papers of steps -/
theorem strOk_of (s : String) : PyData.strOk (Str.ofString s) = true := by
  unfold PyData.strOk Str.ofString
  dsimp only
  rw [cpsOfBytes_string, List.all_toArray, List.all_eq_true]
  intro x hx
  obtain ⟨c, _, rfl⟩ := List.mem_map.mp hx
  refine decide_eq_true ?_
  rcases c.valid with h | h
  · exact Nat.lt_trans h (by decide)
  · exact h.2
def wo (d : Addr) (H : Hp) : Hp := fun x => if x = d then none else H x
theorem wo_le (d : Addr) (H : Hp) : Ext (wo d H) H := fun x o h => by
  unfold wo at h
  by_cases e : x = d
  · rw [if_pos e] at h
    cases h
  · rw [if_neg e] at h
    exact h
theorem wo_of {d p : Addr} {H : Hp} {o : HO} (h : H p = some o) (n : p ≠ d) : wo d H p = some o := by
  unfold wo
  rw [if_neg n]
  exact h
theorem But.wo {d : Addr} {H H' : Hp} (b : But d H H') : Ext (wo d H) (wo d H') := fun x o h => by
  unfold K75.wo at h
  by_cases e : x = d
  · rw [if_pos e] at h
    cases h
  · rw [if_neg e] at h
    exact wo_of (b x o h e) e
theorem wo_ext {d : Addr} {H H' : Hp} (k : Ext H H') : Ext (wo d H) (wo d H') := (k.but d).wo
/-- an element of a paper -/
def ElemD (e : PyData) : Prop := Sh 10 e ∧ isB e = false ∧ ∀ es, e = .tuple es → ∀ z ∈ es, isB z = false
/-- a paper of a step, right or bent -/
def KeyD (e : PyData) : Prop := e = .dict [] ∨ (Sh 20 e ∧ ∀ ds, e = .tuple ds → ds.length ≤ 100 ∧ ∀ y ∈ ds, ElemD y)
theorem ElemD.pair (q : Int × Int) : ElemD (pairD q) := ⟨Sh.tup (n := 9) fun d hd => by
  simp only [List.mem_cons, List.not_mem_nil, or_false] at hd
  rcases hd with rfl | rfl
  · exact Sh.int _ _
  · exact Sh.int _ _, rfl, fun es h z hz => by
  unfold pairD at h
  injection h with h
  subst h
  simp only [List.mem_cons, List.not_mem_nil, or_false] at hz
  rcases hz with rfl | rfl <;> rfl⟩
theorem KeyD.tup {ds : List PyData} (hl : ds.length ≤ 100) (h : ∀ y ∈ ds, ElemD y) : KeyD (.tuple ds) := .inr ⟨Sh.tup (n := 19) fun d hd => ⟨(h d hd).1.1, Nat.le_trans (h d hd).1.2 (by decide)⟩, fun es e => by
  injection e with e
  subst e
  exact ⟨hl, h⟩⟩
theorem KeyD.non {e : PyData} (h : Sh 20 e) (n : isT e = false) : KeyD e := .inr ⟨h, fun ds z => by rw [z] at n; cases n⟩
theorem KeyD.shx {e : PyData} (h : KeyD e) : ShX e := h.elim .inr fun z => .inl (z.1.shaped (by decide))
/-- items of one kind -/
theorem elem_items {ds : List PyData} (h : ∀ d ∈ ds, Sh 5 d ∧ isB d = false) : ElemD (.tuple ds) := ⟨Sh.tup (n := 9) fun d hd => ⟨(h d hd).1.1, Nat.le_trans (h d hd).1.2 (by decide)⟩, rfl, fun es e z hz => by
  injection e with e
  subst e
  exact (h z hz).2⟩
section
variable {P : Program} {w : World} {K : PySem.W.Frag} {mg : Str → Option Value} {base : Heap}
theorem sqt_wo {H : Hp} {d a : Addr} {xs : List V} (M : MillAt H d) (h : SqT K H a xs) : SqT K (wo d H) a xs := by
  rcases h with (e | ⟨ob, e⟩) | h
  · exact .inl (.inl (wo_of e (mill_ne M e (by intro _ z; cases z))))
  · exact .inl (.inr ⟨ob, wo_of e (mill_ne M e (by intro _ z; cases z))⟩)
  · exact .inr h
def KeyAt (K : PySem.W.Frag) (H : Hp) (v : V) : Prop := ∃ e, Dx K H v e ∧ KeyD e
def ElAt (K : PySem.W.Frag) (H : Hp) (v : V) : Prop := ∃ e, Dp K H v e ∧ ElemD e
def AllR (R : V → Prop) (vs : List V) : Prop := ∀ v ∈ vs, R v
theorem AllR.at {R : V → Prop} {vs : List V} (A : AllR R vs) {k : Nat} (h : k < vs.length) : ∃ v, vs[k]? = some v ∧ R v := ⟨vs[k], List.getElem?_eq_getElem h, A _ (List.getElem_mem h)⟩
theorem AllR.nil {R : V → Prop} : AllR R [] := fun v h => by cases h
theorem AllR.cons {R : V → Prop} {v : V} {vs : List V} (h : R v) (A : AllR R vs) : AllR R (v :: vs) := fun u hu => (List.mem_cons.mp hu).elim (fun z => z ▸ h) (A u)
theorem AllR.app {R : V → Prop} {us vs : List V} (A : AllR R us) (B : AllR R vs) : AllR R (us ++ vs) := fun u hu => (List.mem_append.mp hu).elim (A u) (B u)
theorem KeyAt.ext {H H' : Hp} {v : V} (h : KeyAt K H v) (k : Ext H H') : KeyAt K H' v := let ⟨e, a, b⟩ := h; ⟨e, a.ext k, b⟩
theorem ElAt.ext {H H' : Hp} {v : V} (h : ElAt K H v) (k : Ext H H') : ElAt K H' v := let ⟨e, a, b⟩ := h; ⟨e, Dp.ext k _ _ a, b⟩
theorem AllR.key {H H' : Hp} {vs : List V} (A : AllR (KeyAt K H) vs) (k : Ext H H') : AllR (KeyAt K H') vs := fun v h => (A v h).ext k
theorem AllR.el {H H' : Hp} {vs : List V} (A : AllR (ElAt K H) vs) (k : Ext H H') : AllR (ElAt K H') vs := fun v h => (A v h).ext k
theorem AllR.cut {R : V → Prop} {vs : List V} (A : AllR R vs) (lo hi : Option Int) : AllR R (cutV vs lo hi) := fun v h => A v (((List.take_sublist _ _).trans (List.drop_sublist _ _)).subset h)
/-- what is a tuple of elements is a paper -/
theorem key_tup {H : Hp} {p : Addr} {vs : List V} (h : SqT K H p vs) (hl : vs.length ≤ 100) (A : AllR (ElAt K H) vs) : KeyAt K H (.ref p) := by
  obtain ⟨ds, h1, h2⟩ : ∃ ds, DpAll K H vs ds ∧ ∀ y ∈ ds, ElemD y := by
    clear h hl
    induction vs with
    | nil => exact ⟨[], .nil, fun y h => by cases h⟩
    | cons v vs ih =>
      obtain ⟨ds, h1, h2⟩ := ih fun u hu => A u (List.mem_cons_of_mem _ hu)
      obtain ⟨e, h3, h4⟩ := A v List.mem_cons_self
      exact ⟨e :: ds, .cons h3 h1, fun y hy => (List.mem_cons.mp hy).elim (fun z => z ▸ h4) (h2 y)⟩
  exact ⟨_, .inl (.tup h h1), KeyD.tup (by rw [← dpall_len h1]; exact hl) h2⟩
theorem dpall_of_pairs {H : Hp} : ∀ {ps : List Addr} {L : Prs}, Paired (fun p (q : Int × Int) => SqT K H p [.int q.1, .int q.2]) ps L → DpAll K H (ps.map V.ref) (L.map pairD)
  | _, _, .nil => .nil
  | _, _, .cons h t => .cons (.tup h (.cons (.int _) (.cons (.int _) .nil))) (dpall_of_pairs t)
theorem pairs_of_dpall {H : Hp} : ∀ {L : Prs} {xs : List V}, DpAll K H xs (L.map pairD) → ∃ ps : List Addr, xs = ps.map V.ref ∧ Paired (fun p (q : Int × Int) => SqT K H p [.int q.1, .int q.2]) ps L
  | [], _, .nil => ⟨[], rfl, .nil⟩
  | q :: L, _, .cons h t => by
    obtain ⟨ps, rfl, p⟩ := pairs_of_dpall t
    unfold pairD at h
    cases h with
    | tup hs ha =>
      cases ha with
      | cons a ha =>
        cases a
        cases ha with
        | cons b ha =>
          cases b
          cases ha
          exact ⟨_ :: ps, rfl, .cons hs p⟩
theorem els_of_pairs {H : Hp} {ps : List Addr} {L : Prs} (h : Paired (fun p (q : Int × Int) => SqT K H p [.int q.1, .int q.2]) ps L) : AllR (ElAt K H) (ps.map V.ref) := by
  induction h with
  | nil => exact AllR.nil
  | cons h _ ih => exact AllR.cons ⟨_, .tup h (.cons (.int _) (.cons (.int _) .nil)), ElemD.pair _⟩ ih
end
end K75

set_option Elab.async false
set_option linter.all false
set_option maxRecDepth 100000
set_option maxHeartbeats 4000000
namespace K75
open PySem PySem.Spec PyProof.Rows L2 Bk Evl
section
variable {P : Program} {w : World} {K : PySem.W.Frag} {mg : Str → Option Value} {base : Heap}
/-- a table of spans by their bases -/
def TabL (H : Hp) (kvs : List (Key × V)) (S : Sps3) : Prop := Paired (fun (kv : Key × V) (q : Int × Int × Int) => kv.1 = Sum.inl q.1 ∧ ∃ t, kv.2 = .ref t ∧ H t = some (.tup [.int q.1, .int q.2.1, .int q.2.2])) kvs S
theorem TabL.ext {H H' : Hp} {kvs : List (Key × V)} {S : Sps3} (h : TabL H kvs S) (k : Ext H H') : TabL H' kvs S :=
  L2.Paired.mapP h fun _ _ ⟨e, t, e2, e3⟩ => ⟨e, t, e2, k _ _ e3⟩
theorem tabl_get {H : Hp} : ∀ {kvs : List (Key × V)} {S : Sps3}, TabL H kvs S → ∀ i : Int, (∃ lo hi t, (i, lo, hi) ∈ S ∧ valV kvs (Sum.inl i : Key) = some (.ref t) ∧ H t = some (.tup [.int i, .int lo, .int hi])) ∨ (valV kvs (Sum.inl i : Key) = none ∧ ∀ lo hi, (i, lo, hi) ∉ S)
  | _, _, .nil, i => .inr ⟨rfl, fun _ _ h => by cases h⟩
  | _, _, .cons (a := kv) (b := q) h t, i => by
    obtain ⟨h1, tt, h2, h3⟩ := h
    by_cases e : q.1 = i
    · subst e
      exact .inl ⟨q.2.1, q.2.2, tt, List.mem_cons_self, by rw [valV_pos h1, h2], h3⟩
    · have e' : kv.1 ≠ (Sum.inl i : Key) := fun z => e (Sum.inl.inj (h1.symm.trans z))
      rw [valV_neg e']
      rcases tabl_get t i with ⟨lo, hi, t', g1, g2, g3⟩ | ⟨g1, g2⟩
      · exact .inl ⟨lo, hi, t', List.mem_cons_of_mem _ g1, g2, g3⟩
      · refine .inr ⟨g1, fun lo hi h => ?_⟩
        rcases List.mem_cons.mp h with z | z
        · rw [← z] at e
          exact e rfl
        · exact g2 lo hi z
def tabK (ts : List Addr) (S : Sps3) : List (Key × V) := (ts.zip S).map fun z => ((Sum.inl z.2.1 : Key), V.ref z.1)
theorem tabK_of {H : Hp} : ∀ {ts : List Addr} {S : Sps3}, Paired (fun p (q : Int × Int × Int) => H p = some (.tup [.int q.1, .int q.2.1, .int q.2.2])) ts S → TabL H (tabK ts S) S
  | _, _, .nil => .nil
  | _, _, .cons h t => .cons ⟨rfl, _, rfl, h⟩ (tabK_of t)
theorem tabK_keys : ∀ {ts : List Addr} {S : Sps3}, ts.length = S.length → (tabK ts S).map (fun kv => kv.1) = S.map fun q => (Sum.inl q.1 : Key)
  | [], [], _ => rfl
  | t :: ts, q :: S, h => by
    show (Sum.inl q.1 : Key) :: (tabK ts S).map (fun kv => kv.1) = _
    rw [tabK_keys (by simpa using h)]
    rfl
  | [], _ :: _, h => by cases h
  | _ :: _, [], h => by cases h
theorem tabK_nodup {ts : List Addr} {S : Sps3} (h : ts.length = S.length) (u : KeysU S) : ((tabK ts S).map (fun kv => kv.1)).Nodup := by
  rw [tabK_keys h, List.Nodup, List.pairwise_map]
  exact u.imp fun {x y} z e => by
    have := Sum.inl.inj e
    omega
/-! ### _law_is_step -/
def spLIsStep (K : PySem.W.Frag) : Sp := fun vs H Q _ => ∃ (sl : Addr) (S : Sps3) (x : V) (d : PyData), vs = [.ref sl, x] ∧ TrisAt H sl S ∧ KeysU S ∧ (∀ q ∈ S, 0 < q.1) ∧ S.length ≤ 100 ∧ Dx K H x d ∧ KeyD d ∧
  ∀ b H', (b = true ↔ StepD S d) → Ext H H' → Q (.bl b) H'
theorem sc_ulaw_is_step : FnScope ["_law_spans_here", "_law_told", "_law_known", "_law_last", "_law_pair", "_law_span"] ["_law_spans_here", "_law_told"] (defScope s_ulaw_is_step) := ⟨rfl, rfl, rfl, by decide +kernel, rfl, by decide +kernel, by decide +kernel⟩
theorem ok_ulaw_is_step (T : Txt K mg) : Ok P w K mg base 1 (He.ga K "_law_is_step") ["_law_spans_here", "_law_told"] (spLIsStep K) := by
  refine fd_ok T.f_ulaw_is_step sc_ulaw_is_step (fun vs H Q E h => ?_) (fun _ _ _ _ _ _ us hl => match us, hl with | [_, _], _ => rfl) (fun cdv A outer s H vs Q E hr h => ?_)
  · obtain ⟨sl, S, x, d, rfl, _⟩ := h
    rfl
  · obtain ⟨sl, S, x, d, rfl, ⟨ts, hts, hpt⟩, hKU, hpos, hSl, hx, hkd, q⟩ := h
    have nd := sc_ulaw_is_step.nd
    refine ⟨_, (pss_cons (ps_if (pt_not (pt_val (pe_callB call_isi rfl T.z_isinstance (by decide +kernel) (pa_cons (pv 1) (pa_cons (pe_bltn rfl T.z_tuple (by decide +kernel) (v := .ty "tuple") rfl) pa_nil))))) (pss_one (ps_ret pe_bl)) pss_nil) (pss_cons (ps_par (i := 2) (j := 3) rfl nd rfl rfl (by decide) rfl rfl (pa_cons (pe_callTy (call_dictP rfl) rfl T.z_dict (by decide +kernel) (pa_cons (pe_lc (own := [("_law_span", 5)]) (g := (gName 5)) (tt := tYes) rfl nd (pi_list (pv 0)) (blkOk_by (own := [("_law_span", 5)]) (N := ["_law_spans_here", "_law_told", "_law_known", "_law_last", "_law_pair", "_law_span"]) (sc := defScope s_ulaw_is_step) (by decide +kernel)) (fun _ _ _ _ _ => (pg_name (i := 5) nd rfl (Or.inl rfl))) (fun _ _ _ _ _ => pts_nil) (fun _ _ _ _ _ => (pe_tup (pa_cons (pe_ix (ixK (K0 := K) (r := rIxT) ix_tup) (pv 5) pe_int (by intro _ _; rfl)) (pa_cons (pv 5) pa_nil))))) pa_nil)) (pa_cons pe_int pa_nil)) (by rfl)) (pss_cons (ps_for PassesOwn.never rfl (pi_tup (pv 1)) (pg_name (i := 4) nd rfl (Or.inl rfl)) (pss_cons (ps_if (PW.pt (pw_or (pt_not (pt_val (pe_callB call_isi rfl T.z_isinstance (by decide +kernel) (pa_cons (pv 4) (pa_cons (pe_bltn rfl T.z_tuple (by decide +kernel) (v := .ty "tuple") rfl) pa_nil))))) (pw_or (pt_cmpR op_ne (pe_callB call_len_seq rfl T.z_len (by decide +kernel) (pa_cons (pv 4) pa_nil)) pe_int (nomark _)) (pw_or (pt_not (pt_val (pe_callB call_isi rfl T.z_isinstance (by decide +kernel) (pa_cons (pe_ix ix_tup (pv 4) pe_int (by intro _ _; rfl)) (pa_cons (pe_bltn rfl T.z_int (by decide +kernel) (v := .ty "int") rfl) pa_nil))))) (pw_or1 (pt_cmp (pc_dnotin (ru hr) (pe_ix ix_tup (pv 4) pe_int (by intro _ _; rfl)) (pv 2)))))))) (pss_one (ps_ret pe_bl)) pss_nil) (pss_cons (ps_if (PW.pt (pw_or (pt_not (pt_val (pe_callB call_isi rfl T.z_isinstance (by decide +kernel) (pa_cons (pe_ix ix_tup (pv 4) pe_int (by intro _ _; rfl)) (pa_cons (pe_bltn rfl T.z_int (by decide +kernel) (v := .ty "int") rfl) pa_nil))))) (pw_or (pt_cmpR op_eq (pe_ix ix_tup (pv 4) pe_int (by intro _ _; rfl)) pe_int (nomark _)) (pw_or1 (pt_cmpR op_le (pe_ix ix_tup (pv 4) pe_int (by intro _ _; rfl)) (pv 3) (nomark _)))))) (pss_one (ps_ret pe_bl)) pss_nil) (pss_cons (ps_if (pt_not (pt_chain op_le op_le (pe_ix ix_tup (pe_dget (ru hr) (pv 2) (pe_ix ix_tup (pv 4) pe_int (by intro _ _; rfl)) (by intro _ _; rfl)) pe_int (by intro _ _; rfl)) (pe_ix ix_tup (pv 4) pe_int (by intro _ _; rfl)) (pe_ix ix_tup (pe_dget (ru hr) (pv 2) (pe_ix ix_tup (pv 4) pe_int (by intro _ _; rfl)) (by intro _ _; rfl)) pe_int (by intro _ _; rfl)))) (pss_one (ps_ret pe_bl)) pss_nil) (pss_one (ps_set (i := 3) nd rfl (Or.inl rfl) (pe_ix ix_tup (pv 4) pe_int (by intro _ _; rfl)))))))) (pss_one (ps_ret pe_bl))))), ?_⟩
    have hno : ∀ H', Ext H H' → ¬ StepD S d → Q (.bl false) H' := fun H' e n => q false H' (Iff.intro (fun z => by cases z) fun z => absurd z n) e
    have tl := hpt.length
    refine ⟨_, rfl, _, _, _, _, isT d, rfl, .ty _, tyx_dx hx, kit_tup d, isT d, rfl, ?_⟩
    cases et : isT d with
    | false => exact iteT (hno H (Ext.refl H) fun ⟨L', z, _⟩ => by rw [z] at et; cases et)
    | true =>
      refine iteF ?_
      obtain ⟨va, xs, ds, rfl, rfl, hs, ha⟩ := isT_dx hx et
      have hl := dpall_len ha
      have hel : ∀ y ∈ ds, ElemD y := by
        rcases hkd with z | ⟨_, z⟩
        · cases z
        · exact (z ds rfl).2
      refine ⟨_, rfl, sl, rfl, ⟨_, SqL.of hts⟩, fun D hD => ?_⟩
      have eD := Ext.new hD (.lst [])
      refine lc_list (xs := ts.map V.ref) (fun j H' => Ext H H' ∧ ∃ ps : List Addr, H' D = some (.lst (ps.map V.ref)) ∧ Paired (fun p (kv : Key × V) => SqT K H' p [kV kv.1, kv.2]) ps ((tabK ts S).take j)) ⟨Ext.new hD _, [], upd_same, .nil⟩ (fun j H' _ p => SqL.of (p.1 _ _ hts)) (fun j y H' hy p => ?_) (fun H2 p => ?_)
      · obtain ⟨e2, ps, hps, hpp⟩ := p
        rw [List.getElem?_map] at hy
        obtain ⟨tp, htp, rfl⟩ := Option.map_eq_some_iff.mp hy
        obtain ⟨⟨q1, q2, q3⟩, hqj, htr⟩ := paired_at hpt j tp htp
        dsimp only at htr
        have hkj : (tabK ts S)[j]? = some ((Sum.inl q1 : Key), V.ref tp) := by
          unfold tabK
          rw [List.getElem?_map, show (ts.zip S)[j]? = some (tp, (q1, q2, q3)) from List.getElem?_zip_eq_some.mpr ⟨htp, hqj⟩]
          rfl
        have tk : (tabK ts S).take (j + 1) = (tabK ts S).take j ++ [((Sum.inl q1 : Key), V.ref tp)] := by rw [List.take_add_one, hkj] <;> rfl
        have jl := (List.getElem?_eq_some_iff.mp hqj).1
        have pl : ps.length = j := by
          have h1 := hpp.length
          have h2 : (tabK ts S).length = ts.length := by unfold tabK; rw [List.length_map, List.length_zip]; omega
          rw [List.length_take] at h1
          omega
        refine ⟨rfl, ?_⟩
        unfold tYes
        dsimp only
        rw [if_pos rfl]
        refine ⟨_, rfl, tp, _, 0, _, rfl, rfl, SqT.of (e2 _ _ htr), rfl, _, rfl, by show 2 ≤ sizeLine; decide, fun np hnp => ?_⟩
        have nDp : D ≠ np := ne_of_none hps hnp
        have e3 := e2.trans (Ext.new hnp (.tup [.int q1, .ref tp]))
        refine ⟨_, by rw [upd_ne nDp]; exact hps, by rw [List.length_map]; exact small_lt (by omega), fun x o e => ?_, ps ++ [np], by rw [upd_same, List.map_append]; rfl, ?_⟩
        · rw [upd_ne (ne_of_none e hD)]
          exact e3 x o e
        · rw [tk]
          have k2 : ∀ x xs, SqT K H' x xs → SqT K (upd (upd H' np (.tup [.int q1, .ref tp])) D (.lst (ps.map V.ref ++ [.ref np]))) x xs := fun x xs h => by
            have h := sqt_ext h (Ext.new hnp (.tup [.int q1, .ref tp]))
            rcases h with (z | ⟨ob, z⟩) | z
            · exact .inl (.inl (by rw [upd_ne (ne_of z (show upd H' np (.tup [.int q1, .ref tp]) D = some (.lst (ps.map V.ref)) by rw [upd_ne nDp]; exact hps) (by intro z; cases z))]; exact z))
            · exact .inl (.inr ⟨ob, by rw [upd_ne (ne_of z (show upd H' np (.tup [.int q1, .ref tp]) D = some (.lst (ps.map V.ref)) by rw [upd_ne nDp]; exact hps) (by intro z; cases z))]; exact z⟩)
            · exact .inr z
          exact Paired.snoc (L2.Paired.mapP hpp fun p kv h => k2 _ _ h) (SqT.of (by rw [upd_ne nDp.symm, upd_same]; rfl))
      · obtain ⟨e2, ps, hps, hpp⟩ := p
        have htl : (ts.map V.ref).length = (tabK ts S).length := by unfold tabK; rw [List.length_map, List.length_map, List.length_zip]; omega
        rw [htl, List.take_length] at hpp
        refine ⟨D, ps, _, rfl, SqL.of hps, hpp, fun kd hkd0 => ?_⟩
        have hmk : mergeK [] (tabK ts S) = tabK ts S := by rw [mergeK_fresh [] _ (by rw [List.nil_append]; exact tabK_nodup tl hKU), List.nil_append]
        rw [hmk]
        have e3 := e2.trans (Ext.new hkd0 (.dK (tabK ts S)))
        have hkd3 : upd H2 kd (.dK (tabK ts S)) kd = some (.dK (tabK ts S)) := upd_same
        generalize upd H2 kd (.dK (tabK ts S)) = H3 at e3 hkd3 ⊢
        have tab : TabL H3 (tabK ts S) S := tabK_of (L2.Paired.mapP hpt fun p q h => e3 _ _ h)
        have hs3 := sqt_ext hs e3
        refine ⟨_, _, rfl, ?_⟩
        refine ⟨_, rfl, va, rfl, ⟨_, hs3⟩, ?_⟩
        refine for_tup (xs := xs) (fun i σ H' => ∃ (u : Option V) (L' : Prs) (last : Int), σ = [some (.ref sl), some (.ref va), some (.ref kd), some (.int last), u, none] ∧ Ext H3 H' ∧ ds.take i = L'.map pairD ∧ StepOk S L' ∧ (∀ x : Int, 0 < x → ((∀ q' ∈ L', q'.1 < x) ↔ last < x)))
          ⟨_, [], 0, rfl, Ext.refl H3, rfl, step_nil _, fun x h => Iff.intro (fun _ => h) (fun _ q' hq' => by cases hq')⟩ ?_ ?_ ?_
        · rintro i σ H' _ ⟨u, L', last, rfl, e, _⟩
          exact sqt_ext hs3 e
        · rintro i x σ H' hxi ⟨u, L', last, rfl, e4, htk, sok, hlast⟩
          obtain ⟨d, hd, hdp⟩ := dpall_at ha hxi
          have e04 := e3.trans e4
          have hdp := Dp.ext e04 _ _ hdp
          have tab4 := tab.ext e4
          have hD4 := e4 _ _ hkd3
          obtain ⟨_, _, hnb⟩ := hel d (List.mem_of_getElem? hd)
          have fail : (∀ q, d = pairD q → q.2 ≠ 0 → (∃ lo hi, (q.1, lo, hi) ∈ S ∧ lo ≤ q.2 ∧ q.2 ≤ hi) → (∀ q' ∈ L', q'.1 < q.1) → False) → Q (.bl false) H' := fun n => hno H' e04 fun z => by
            obtain ⟨q, z1, z2, z3, z4⟩ := step_at htk hd z
            exact n q z1 z2 z3 z4
          refine ⟨_, rfl, _, _, _, _, isT d, rfl, .ty _, tyx_dp hdp, kit_tup d, isT d, rfl, ?_⟩
          cases et1 : isT d with
          | false => exact iteT (fail fun q z => by rw [z] at et1; cases et1)
          | true =>
            refine iteF ?_
            obtain ⟨pa, ys, es, rfl, rfl, hps', hpa⟩ := isT_dp hdp et1
            have hyl := dpall_len hpa
            refine ⟨_, rfl, pa, _, rfl, .inr hps', rfl, _, rfl, ?_⟩
            show if (!decide (V.int (ys.length : Int) = V.int 2)) = true then _ else _
            rw [show decide (V.int (ys.length : Int) = V.int 2) = decide (es.length = 2) from decide_eq_decide.mpr ⟨fun z => by injection z with z; omega, fun z => by rw [hyl, z]; rfl⟩]
            by_cases h2 : ¬ es.length = 2
            · rw [decide_eq_false h2]
              refine iteT (fail fun q z => absurd ?_ h2)
              unfold pairD at z
              injection z with z
              rw [z]
              rfl
            have h2 := Decidable.not_not.mp h2
            rw [decide_eq_true h2]
            refine iteF ?_
            obtain ⟨d0, d1, rfl⟩ : ∃ d0 d1, es = [d0, d1] := by
              match es, h2 with
              | [d0, d1], _ => exact ⟨d0, d1, rfl⟩
            have nb0 := hnb _ rfl d0 (by simp)
            have nb1 := hnb _ rfl d1 (by simp)
            have iIB : ∀ e : PyData, isB e = false → isIB e = isI e := fun e h => by cases e <;> first | rfl | cases h
            cases hpa with
            | cons dp0 hpa =>
              cases hpa with
              | cons dp1 hpa =>
                cases hpa
                rename_i x0 x1
                refine ⟨_, rfl, pa, _, 0, x0, rfl, rfl, hps', rfl, _, _, _, _, isIB d0, rfl, .ty _, tyx_dp dp0, kit_int d0, isIB d0, rfl, ?_⟩
                rw [iIB d0 nb0]
                cases e0 : isI d0 with
                | false =>
                  refine iteT (fail fun q z => ?_)
                  unfold pairD at z
                  injection z with z
                  injection z with z
                  rw [z] at e0
                  cases e0
                | true =>
                  refine iteF ?_
                  obtain ⟨p0, rfl, rfl⟩ := isI_dp dp0 e0
                  refine ⟨_, rfl, pa, _, 0, _, rfl, rfl, hps', rfl, _, rfl, kd, _, rfl, .inl ⟨_, Sum.inl p0, .inl hD4, rfl, rfl⟩, ?_⟩
                  rcases tabl_get tab4 p0 with ⟨lo, hi, st, g1, g2, g3⟩ | ⟨g1, g2⟩
                  case inr =>
                    rw [g1]
                    refine ⟨_, rfl, ?_⟩
                    refine iteT (fail fun q z _ z3 _ => ?_)
                    unfold pairD at z
                    injection z with z
                    injection z with z
                    injection z with z
                    obtain ⟨lo, hi, z3, _⟩ := z3
                    rw [← z] at z3
                    exact g2 lo hi z3
                  rw [g2]
                  refine ⟨_, rfl, iteF ?_⟩
                  refine ⟨_, rfl, pa, _, 1, x1, rfl, rfl, hps', rfl, _, _, _, _, isIB d1, rfl, .ty _, tyx_dp dp1, kit_int d1, isIB d1, rfl, ?_⟩
                  rw [iIB d1 nb1]
                  cases e1' : isI d1 with
                  | false =>
                    refine iteT (fail fun q z => ?_)
                    unfold pairD at z
                    injection z with z
                    injection z with _ z
                    injection z with z
                    rw [z] at e1'
                    cases e1'
                  | true =>
                    refine iteF ?_
                    obtain ⟨ex, rfl, rfl⟩ := isI_dp dp1 e1'
                    have hq : ∀ {q : Int × Int}, PyData.tuple [.int p0, .int ex] = pairD q → q = (p0, ex) := fun {q} z => (pairD_inj (q := (p0, ex)) z).symm
                    refine ⟨_, rfl, pa, _, 1, _, rfl, rfl, hps', rfl, rfl, _, rfl, ?_⟩
                    rw [show decide (V.int ex = V.int 0) = decide (ex = 0) from decide_eq_decide.mpr ⟨fun z => by injection z, fun z => by rw [z]⟩]
                    by_cases h0 : ex = 0
                    · rw [decide_eq_true h0]
                      exact iteT (fail fun q z z2 => by rw [hq z] at z2; exact absurd h0 z2)
                    rw [decide_eq_false h0]
                    refine iteF ?_
                    refine ⟨_, rfl, pa, _, 0, _, rfl, rfl, hps', rfl, _, rfl, _, _, rfl, rfl, _, rfl, ?_⟩
                    have p0pos := hpos _ g1
                    dsimp only at p0pos
                    by_cases hle : p0 ≤ last
                    · rw [decide_eq_true hle]
                      refine iteT (fail fun q z _ _ z4 => ?_)
                      rw [hq z] at z4
                      have := (hlast p0 p0pos).mp z4
                      omega
                    rw [decide_eq_false hle]
                    refine iteF ?_
                    have g3T := SqT.of (K := K) g3
                    refine ⟨_, rfl, _, rfl, pa, _, 0, _, rfl, rfl, hps', rfl, kd, _, rfl, .inl ⟨_, Sum.inl p0, .inl hD4, rfl, g2.symm⟩, st, _, 1, _, rfl, rfl, g3T, rfl, ?_⟩
                    refine ⟨_, rfl, pa, _, 1, _, rfl, rfl, hps', rfl, _, _, rfl, rfl, _, rfl, ?_⟩
                    by_cases hlo : ¬ lo ≤ ex
                    · rw [decide_eq_false hlo]
                      refine iteF ⟨_, rfl, iteT (fail fun q z _ z3 _ => ?_)⟩
                      rw [hq z] at z3
                      obtain ⟨lo', hi', z3, z4, z5⟩ := z3
                      obtain ⟨rfl, rfl⟩ := keysU_eq hKU g1 z3
                      exact hlo z4
                    have hlo := Decidable.not_not.mp hlo
                    rw [decide_eq_true hlo]
                    refine iteT ⟨_, rfl, _, rfl, pa, _, 0, _, rfl, rfl, hps', rfl, kd, _, rfl, .inl ⟨_, Sum.inl p0, .inl hD4, rfl, g2.symm⟩, st, _, 2, _, rfl, rfl, g3T, rfl, ?_⟩
                    refine ⟨_, _, rfl, rfl, _, rfl, ?_⟩
                    by_cases hhi : ¬ ex ≤ hi
                    · rw [decide_eq_false hhi]
                      refine iteT (fail fun q z _ z3 _ => ?_)
                      rw [hq z] at z3
                      obtain ⟨lo', hi', z3, z4, z5⟩ := z3
                      obtain ⟨rfl, rfl⟩ := keysU_eq hKU g1 z3
                      exact hhi z5
                    have hhi := Decidable.not_not.mp hhi
                    rw [decide_eq_true hhi]
                    refine iteF ?_
                    have hgt := (hlast p0 p0pos).mpr (by omega)
                    refine ⟨_, rfl, pa, _, 0, _, rfl, rfl, hps', rfl, _, L' ++ [(p0, ex)], p0, rfl, e4, ?_, step_snoc sok h0 g1 hlo hhi hgt, fun x hx => ?_⟩
                    · rw [List.take_add_one, hd, htk, List.map_append]
                      rfl
                    · constructor
                      · intro z
                        exact z (p0, ex) (by simp)
                      · intro z q' hq'
                        rcases List.mem_append.mp hq' with h | h
                        · have := hgt q' h
                          omega
                        · rw [List.mem_singleton.mp h]
                          exact z
        · rintro σ H' ⟨u, L', last, rfl, e4, htk, sok, _⟩
          rw [hl, List.take_length] at htk
          exact q true H' (Iff.intro (fun _ => ⟨L', by rw [htk], sok⟩) fun _ => rfl) (e3.trans e4)
/-! ### _law_leaves -/
def spLLeaves (K : PySem.W.Frag) : Sp := fun vs H Q _ => ∃ (m : Nat) (t : Addr) (ps : List Addr) (L : Prs), vs = [.int m, .ref t] ∧ (1 ≤ m ∧ m ≤ 12) ∧ SqT K H t (ps.map V.ref) ∧ Paired (fun p (q : Int × Int) => SqT K H p [.int q.1, .int q.2]) ps L ∧ (∀ q ∈ L, ∃ b : Nat, q.1 = (b : Int) ∧ Nat.gcd b m = 1) ∧
  ∀ H', Ext H H' → Q (.int (leavesL m L : Nat)) H'
theorem sc_ulaw_leaves : FnScope ["_law_modulus_here", "_law_told", "_law_found", "_law_base", "_law_expo"] ["_law_modulus_here", "_law_told"] (defScope s_ulaw_leaves) := ⟨rfl, rfl, rfl, by decide +kernel, rfl, by decide +kernel, by decide +kernel⟩
theorem ok_ulaw_leaves (T : Txt K mg) : Ok P w K mg base 2 (He.ga K "_law_leaves") ["_law_modulus_here", "_law_told"] (spLLeaves K) := by
  obtain ⟨fd_ulaw_power, F_ulaw_power, b_ulaw_power, k_ulaw_power, _⟩ := (ok_ulaw_power (P := P) (w := w) (base := base) T).ex
  refine fd_ok T.f_ulaw_leaves sc_ulaw_leaves (fun vs H Q E h => ?_) (fun _ _ _ _ _ _ us hl => match us, hl with | [_, _], _ => rfl) (fun cdv A outer s H vs Q E hr h => ?_)
  · obtain ⟨m, t, ps, L, rfl, _⟩ := h
    rfl
  · obtain ⟨m, t, ps, L, rfl, ⟨m1, m2⟩, ht, hp, hb, q⟩ := h
    have nd := sc_ulaw_leaves.nd
    refine ⟨_, (pss_cons (ps_set (i := 2) nd rfl (Or.inl rfl) (pe_op op_mod (pe_callTy call_int1 rfl T.z_int (by decide +kernel) (pa_cons pe_int pa_nil)) (pv 0))) (pss_cons (ps_for PassesOwn.never rfl (pi_tup (pv 1)) (pg_tup rfl (pgs_cons (pg_name (i := 3) nd rfl (Or.inl rfl)) (pgs_cons (pg_name (i := 4) nd rfl (Or.inl rfl)) pgs_nil))) (pss_one (ps_set (i := 2) nd rfl (Or.inl rfl) (pe_op op_mod (pe_callTy call_int1 rfl T.z_int (by decide +kernel) (pa_cons (pe_op op_mul (pv 2) (pe_call F_ulaw_power (hr.mono (by decide)) rfl T.g_ulaw_power k_ulaw_power b_ulaw_power .nil pass0 (pa_cons (pv 3) (pa_cons (pv 4) (pa_cons (pv 0) pa_nil))))) pa_nil)) (pv 0))))) (pss_one (ps_ret (pv 2))))), ?_⟩
    have hpl := hp.length
    refine .inl ⟨_, rfl, _, rfl, _, _, rfl, rfl, by omega, _, rfl, t, rfl, ⟨_, ht⟩, ?_⟩
    refine for_tup (xs := ps.map V.ref) (fun i σ H' => ∃ (u v : Option V), σ = [some (.int m), some (.ref t), some (.int (leavesL m (L.take i) : Nat)), u, v] ∧ Ext H H')
      ⟨_, _, by show [_, _, some (V.int ((1 : Int) % (m : Int))), _, _] = [_, _, some (V.int ((1 % m : Nat) : Int)), _, _]; rw [Int.natCast_emod]; rfl, Ext.refl H⟩ ?_ ?_ ?_
    · rintro i σ H' _ ⟨u, v, rfl, e⟩
      exact sqt_ext ht e
    · rintro i x σ H' hx ⟨u, v, rfl, e⟩
      rw [List.getElem?_map] at hx
      obtain ⟨p, hpi, rfl⟩ := Option.map_eq_some_iff.mp hx
      obtain ⟨⟨q1, q2⟩, hq, hsq⟩ := paired_at hp i p hpi
      dsimp only at hsq
      have htk : L.take (i + 1) = L.take i ++ [(q1, q2)] := by rw [List.take_add_one, hq] <;> rfl
      obtain ⟨b, hb1, hb2⟩ := hb _ (List.mem_of_getElem? hq)
      dsimp only at hb1
      subst hb1
      have lv := leaves_lt m1 (L.take i)
      have pl := pw_lt (b := b) (e := q2) m1
      refine ⟨p, _, rfl, sqt_ext hsq e, rfl, _, _, rfl, _, _, rfl, rfl, ?_⟩
      refine ⟨_, rfl, _, rfl, _, rfl, _, rfl, b, m, q2, rfl, ⟨m1, m2⟩, hb2, fun H2 e2 => ?_⟩
      refine ⟨_, _, rfl, rfl, .inl ⟨by omega, by omega⟩, .inl ⟨_, rfl, _, rfl, _, _, rfl, rfl, by omega, some (.int (b : Nat)), some (.int q2), ?_, e.trans e2⟩⟩
      show [_, _, some (V.int (((leavesL m (L.take i) : Nat) : Int) * ((pw b q2 m : Nat) : Int) % (m : Int))), _, _] = _
      rw [htk, leaves_snoc, Int.natCast_emod, Int.natCast_mul]
      rfl
    · rintro σ H' ⟨u, v, rfl, e⟩
      rw [List.length_map, hpl, List.take_length]
      exact ⟨_, rfl, q H' e⟩
end
end K75

set_option Elab.async false
set_option linter.all false
set_option maxRecDepth 100000
set_option maxHeartbeats 4000000
namespace K75
open PySem PySem.Spec PyProof.Rows L2 Bk Evl
section
variable {P : Program} {w : World} {K : PySem.W.Frag} {mg : Str → Option Value} {base : Heap}
theorem KeyIn.wo {H : Hp} {d t : Addr} {ps : List Addr} {L : Prs} (M : MillAt H d) (h : KeyIn K H t ps L) : KeyIn K (wo d H) t ps L := ⟨sqt_wo M h.1, L2.Paired.mapP h.2 fun p q z => sqt_wo M z⟩
theorem KeyIn.els {H : Hp} {t : Addr} {ps : List Addr} {L : Prs} (h : KeyIn K H t ps L) : AllR (ElAt K H) (ps.map V.ref) := els_of_pairs h.2
/-- a new tuple of elements beside the mill -/
theorem wo_tup {d p : Addr} {H : Hp} {xs : List V} (n : p ≠ d) : SqT K (wo d (upd H p (.tup xs))) p xs := SqT.of (wo_of upd_same n)
def itemOk (d : PyData) : Prop := Sh 5 d ∧ isB d = false
theorem iInt (i : Int) : itemOk (.int i) := ⟨Sh.int _ _, rfl⟩
theorem iNon : itemOk .none := ⟨⟨rfl, Nat.zero_le _⟩, rfl⟩
theorem iStr (s : String) : itemOk (.str (Str.ofString s)) := ⟨⟨strOk_of s, Nat.zero_le _⟩, rfl⟩
theorem hd1 {a : PyData} (h : itemOk a) : ∀ d ∈ [a], itemOk d := fun d hd => by rw [List.mem_singleton.mp hd]; exact h
theorem hd2 {a b : PyData} (h1 : itemOk a) (h2 : itemOk b) : ∀ d ∈ [a, b], itemOk d := fun d hd => by
  rcases List.mem_cons.mp hd with rfl | hd
  · exact h1
  · exact hd1 h2 d hd
theorem hd3 {a b c : PyData} (h1 : itemOk a) (h2 : itemOk b) (h3 : itemOk c) : ∀ d ∈ [a, b, c], itemOk d := fun d hd => by
  rcases List.mem_cons.mp hd with rfl | hd
  · exact h1
  · exact hd2 h2 h3 d hd
/-- a new tuple, a new list of items -/
theorem el_tup {H : Hp} {d p : Addr} {xs : List V} {ds : List PyData} (M : MillAt H d) (hp : H p = none) (ha : ∀ H, DpAll K H xs ds) (hd : ∀ e ∈ ds, itemOk e) : ∃ H', upd H p (.tup xs) = H' ∧ ElAt K (wo d H') (.ref p) ∧ Ext H H' :=
  ⟨_, rfl, ⟨_, .tup (wo_tup (mill_new M hp)) (ha _), elem_items hd⟩, Ext.new hp _⟩
theorem el_lst {H : Hp} {d p : Addr} {xs : List V} {ds : List PyData} (M : MillAt H d) (hp : H p = none) (ha : ∀ H, DpAll K H xs ds) (hd : ∀ e ∈ ds, itemOk e) : ∃ H', upd H p (.lst xs) = H' ∧ ElAt K (wo d H') (.ref p) ∧ Ext H H' :=
  ⟨_, rfl, ⟨_, .lst (SqL.of (wo_of upd_same (mill_new M hp))) (ha _), Sh.lst (n := 9) fun e he => ⟨(hd e he).1.1, Nat.le_trans (hd e he).1.2 (by decide)⟩, rfl, fun es z => by cases z⟩, Ext.new hp _⟩
theorem el_flat {v : V} {e : PyData} (ha : ∀ H, Dp K H v e) (he : itemOk e) (H : Hp) (ht : isT e = false) : ElAt K H v := ⟨e, ha H, ⟨he.1.1, Nat.le_trans he.1.2 (by decide)⟩, he.2, fun es z => by rw [z] at ht; cases ht⟩
/-- the key with one pair more -/
theorem cat_one {H : Hp} {d t : Addr} {ps : List Addr} {L : Prs} {i j : Int} {Q : VK} (M : MillAt H d) (hk : KeyIn K (wo d H) t ps L) (hl : ps.length ≤ 60) (q : ∀ p H', KeyAt K (wo d H') (.ref p) → Ext H H' → Q (.ref p) H') :
    [V.int i, V.int j].length ≤ sizeLine ∧ ∀ p1, H p1 = none → [V.ref p1].length ≤ sizeLine ∧ ∀ p2, upd H p1 (.tup [.int i, .int j]) p2 = none → rCatA K (.ref t) (.ref p2) (upd (upd H p1 (.tup [.int i, .int j])) p2 (.tup [.ref p1])) Q := by
  refine ⟨by show 2 ≤ sizeLine; decide, fun p1 h1 => ⟨by show 1 ≤ sizeLine; decide, fun p2 h2 => ?_⟩⟩
  have e1 := Ext.new h1 (.tup [.int i, .int j])
  have e2 := Ext.new h2 (.tup [.ref p1])
  have M2 := (M.ext e1).ext e2
  refine catA (sqt_ext (sqt_ext (sqt_ext hk.1 (wo_le d H)) e1) e2) (SqT.of upd_same) (by rw [List.length_map]; show ps.length + 1 ≤ 1000; omega) fun p H' hp e => q p H' ?_ ((e1.trans e2).trans e)
  refine key_tup (sqt_wo (M2.ext e) hp) (by rw [List.length_append, List.length_map]; show ps.length + 1 ≤ 100; omega) (AllR.app ((hk.ext ((wo_ext e1).trans ((wo_ext e2).trans (wo_ext e)))).els) (AllR.cons ?_ AllR.nil))
  exact ⟨_, .tup (SqT.of ((wo_ext e) _ _ ((wo_ext e2) _ _ (wo_of upd_same (mill_new M h1))))) (.cons (.int i) (.cons (.int j) .nil)), ElemD.pair (i, j)⟩
/-- one of the items of a new list -/
theorem pick {H : Hp} {d l : Addr} {vs : List V} {n : Nat} (M : MillAt H d) (hl : H l = some (.lst vs)) (nl : l ≠ d) {k : Nat} (hk : k < n) (hn : vs.length = n) {H' : Hp} (b : But d H H') : ∃ v, vs[k]? = some v ∧ SqL K H' l vs := ⟨vs[k]'(by omega), List.getElem?_eq_getElem _, SqL.of (b _ _ hl nl)⟩
/-! ### _law_bent_key -/
def spLBentK (K : PySem.W.Frag) : Sp := fun vs H Q _ => ∃ (d t : Addr) (ps : List Addr) (L : Prs), vs = [.ref d, .ref t] ∧ MillAt H d ∧ KeyIn K H t ps L ∧ L.length ≤ 60 ∧ (∀ q ∈ L, q.1.natAbs < 2 ^ 60 ∧ q.2.natAbs < 2 ^ 1000) ∧
  ∀ x H', KeyAt K (wo d H') x → MillAt H' d → But d H H' → Q x H'
theorem sc_ulaw_bent_key : FnScope ["_law_mill_here", "_law_proof", "_law_way_here", "_law_at", "_law_base", "_law_expo", "_law_odd"] ["_law_mill_here", "_law_proof"] (defScope s_ulaw_bent_key) := ⟨rfl, rfl, rfl, by decide +kernel, rfl, by decide +kernel, by decide +kernel⟩
theorem ok_ulaw_bent_key (T : Txt K mg) : Ok P w K mg base 2 (He.ga K "_law_bent_key") ["_law_mill_here", "_law_proof"] (spLBentK K) := by
  obtain ⟨fd_ulaw_grain, F_ulaw_grain, b_ulaw_grain, k_ulaw_grain, _⟩ := (ok_ulaw_grain (P := P) (w := w) (base := base) T).ex
  refine fd_ok T.f_ulaw_bent_key sc_ulaw_bent_key (fun vs H Q E h => ?_) (fun _ _ _ _ _ _ us hl => match us, hl with | [_, _], _ => rfl) (fun cdv A outer s H vs Q E hr h => ?_)
  · obtain ⟨d, t, ps, L, rfl, _⟩ := h
    rfl
  · obtain ⟨d, t, ps, L, rfl, M, hk, hL, hb, q⟩ := h
    have nd := sc_ulaw_bent_key.nd
    refine ⟨_, (pss_cons (ps_set (i := 2) nd rfl (Or.inl rfl) (pe_call F_ulaw_grain (hr.mono (by decide)) rfl T.g_ulaw_grain k_ulaw_grain b_ulaw_grain .nil pass0 (pa_cons (pv 0) (pa_cons pe_int pa_nil)))) (pss_cons (ps_if (PW.pt (pw_or (pt_cmpR (op_eqD (hr.units)) (pv 1) (pe_tupP pa_nil) (nomark _)) (pw_or1 (pt_cmpR op_eq (pv 2) pe_int (nomark _))))) (pss_one (ps_ret (pe_ix ix_list (pe_lst (pa_cons (pe_op op_catA (pv 1) (pe_tup (pa_cons (pe_tup (pa_cons pe_int (pa_cons pe_int pa_nil))) pa_nil))) (pa_cons (pe_op op_catA (pv 1) (pe_tup (pa_cons (pe_tup (pa_cons pe_int (pa_cons (pe_un un_neg pe_int) pa_nil))) pa_nil))) (pa_cons (pe_lst pa_nil) (pa_cons pe_non (pa_cons pe_str (pa_cons pe_dnewK (pa_cons (pe_op op_catA (pv 1) (pe_tup (pa_cons (pe_tup (pa_cons pe_int (pa_cons pe_int pa_nil))) pa_nil))) pa_nil)))))))) (pe_call F_ulaw_grain (hr.mono (by decide)) rfl T.g_ulaw_grain k_ulaw_grain b_ulaw_grain .nil pass0 (pa_cons (pv 0) (pa_cons pe_int pa_nil))) (by intro _ _; rfl)))) pss_nil) (pss_cons (ps_set (i := 3) nd rfl (Or.inl rfl) (pe_call F_ulaw_grain (hr.mono (by decide)) rfl T.g_ulaw_grain k_ulaw_grain b_ulaw_grain .nil pass0 (pa_cons (pv 0) (pa_cons (pe_callB call_len_seq rfl T.z_len (by decide +kernel) (pa_cons (pv 1) pa_nil)) pa_nil)))) (pss_cons (ps_asg (pe_ix ix_tup (pv 1) (pv 3) (by intro _ _; rfl)) (pg_tup rfl (pgs_cons (pg_name (i := 4) nd rfl (Or.inl rfl)) (pgs_cons (pg_name (i := 5) nd rfl (Or.inl rfl)) pgs_nil)))) (pss_cons (ps_if (pt_cmpR op_eq (pv 2) pe_int (nomark _)) (pss_one (ps_ret (pe_ix ix_list (pe_lst (pa_cons (pe_callTy call_list_of rfl T.z_list (by decide +kernel) (pa_cons (pv 1) pa_nil)) (pa_cons (pe_revT (pv 1)) (pa_cons (pe_op op_catA (pv 1) (pe_slice sl_tupA (pv 1) (po_some (pe_un un_neg pe_int)) po_none)) (pa_cons (pe_op op_catA (pe_slice sl_tupA (pv 1) po_none (po_some (pv 3))) (pe_slice sl_tupA (pv 1) (po_some (pe_op op_add (pv 3) pe_int)) po_none)) pa_nil))))) (pe_call F_ulaw_grain (hr.mono (by decide)) rfl T.g_ulaw_grain k_ulaw_grain b_ulaw_grain .nil pass0 (pa_cons (pv 0) (pa_cons pe_int pa_nil))) (by intro _ _; rfl)))) pss_nil) (pss_cons (ps_set (i := 6) nd rfl (Or.inl rfl) (pe_lst (pa_cons (pe_tup (pa_cons (pv 4) (pa_cons (pe_op op_add (pv 5) pe_int) pa_nil))) (pa_cons (pe_tup (pa_cons (pv 4) (pa_cons (pe_op op_sub (pv 5) pe_int) pa_nil))) (pa_cons (pe_tup (pa_cons (pv 4) (pa_cons (pe_op op_sub pe_int (pv 5)) pa_nil))) (pa_cons (pe_tup (pa_cons (pv 4) (pa_cons pe_int pa_nil))) (pa_cons (pe_tup (pa_cons (pv 4) pa_nil)) (pa_cons (pe_tup (pa_cons (pv 4) (pa_cons (pv 5) (pa_cons pe_int pa_nil)))) (pa_cons (pe_lst (pa_cons (pv 4) (pa_cons (pv 5) pa_nil))) pa_nil))))))))) (pss_cons (ps_set (i := 6) nd rfl (Or.inl rfl) (pe_op op_cat (pv 6) (pe_lst (pa_cons (pe_tup (pa_cons (pv 4) (pa_cons (pe_callTy call_str_int rfl T.z_str (by decide +kernel) (pa_cons (pv 5) pa_nil)) pa_nil))) (pa_cons (pe_tup (pa_cons (pv 4) (pa_cons (pe_op op_pow pe_int pe_int) pa_nil))) (pa_cons (pe_tup (pa_cons (pe_op op_add (pv 4) pe_int) (pa_cons (pv 5) pa_nil))) (pa_cons (pe_tup (pa_cons pe_non (pa_cons (pv 5) pa_nil))) (pa_cons (pv 4) (pa_cons (pe_tup (pa_cons (pe_callTy call_str_int rfl T.z_str (by decide +kernel) (pa_cons (pv 4) pa_nil)) (pa_cons (pv 5) pa_nil))) pa_nil))))))))) (pss_one (ps_ret (pe_op op_catA (pe_op op_catA (pe_slice sl_tupA (pv 1) po_none (po_some (pv 3))) (pe_tup (pa_cons (pe_ix ix_list (pv 6) (pe_call F_ulaw_grain (hr.mono (by decide)) rfl T.g_ulaw_grain k_ulaw_grain b_ulaw_grain .nil pass0 (pa_cons (pv 0) (pa_cons pe_int pa_nil))) (by intro _ _; rfl)) pa_nil))) (pe_slice sl_tupA (pv 1) (po_some (pe_op op_add (pv 3) pe_int)) po_none))))))))))), ?_⟩
    have hpl := hk.2.length
    have hlt : (ps.map V.ref).length = L.length := by rw [List.length_map]; exact hpl
    have hw := hk.wo M
    refine ⟨_, rfl, d, 9, rfl, M, ⟨by decide, by decide⟩, fun wy H1 hwy M1 b1 => ?_⟩
    have w1 := hw.ext b1.wo
    refine ⟨_, rfl, by show 0 ≤ sizeLine; decide, fun t0 o0 ht0 oc0 od0 => ?_⟩
    have e2 := Ext.new ht0 (.frz o0 (.tup []))
    have M2 := M1.ext e2
    have b2 := b1.trans (e2.but d)
    have w2 := w1.ext (wo_ext e2)
    have h0 : SqT K (upd H1 t0 (.frz o0 (.tup []))) t0 [] := (plt_new (K := K) oc0 od0).sqt
    have k2 := w2.ext (wo_le d _)
    generalize upd H1 t0 (.frz o0 (.tup [])) = H2 at M2 b2 w2 h0 k2 ⊢
    have shL : Sh 20 (.tuple (L.map pairD)) := Sh.tup (n := 19) fun y hy => by
      obtain ⟨z, _, rfl⟩ := List.mem_map.mp hy
      exact ⟨(ElemD.pair z).1.1, Nat.le_trans (ElemD.pair z).1.2 (by decide)⟩
    refine ⟨.tuple (L.map pairD), .tuple [], .tup k2.1 (dpall_of_pairs k2.2), .tup h0 .nil, shL.shaped (by decide), by decide +kernel, _, rfl, ?_⟩
    rw [eqv_nilT, List.isEmpty_map]
    have psl : ps.length ≤ 60 := by omega
    by_cases hc : L = [] ∨ wy = 0
    · have hno : ¬ L.isEmpty = true → ¬ decide (V.int (wy : Nat) = V.int 0) = true → False := fun h1 h2 => by
        rcases hc with z | z
        · exact h1 (by rw [z]; rfl)
        · exact h2 (decide_eq_true (by rw [z]; rfl))
      refine (show _ → _ from fun hA => ite2 (fun _ => hA) (fun h1 => ⟨_, rfl, rfl, _, rfl, ite2 (fun _ => hA) (fun h2 => (hno h1 h2).elim)⟩)) ?_
      refine ⟨_, rfl, cat_one M2 w2 psl fun f1 H3 k1 e3 => ?_⟩
      have M3 := M2.ext e3
      have A1 : AllR (KeyAt K (wo d H3)) [.ref f1] := AllR.cons k1 AllR.nil
      refine ⟨_, rfl, _, rfl, cat_one M3 (w2.ext (wo_ext e3)) psl fun f2 H4 k2 e4 => ?_⟩
      have M4 := M3.ext e4
      have e24 := e3.trans e4
      have A2 := (A1.key (wo_ext e4)).app (AllR.cons k2 AllR.nil)
      refine ⟨by show 0 ≤ sizeLine; decide, fun f3 hf3 => ?_⟩
      have e5 := Ext.new hf3 (.lst [])
      have M5 := M4.ext e5
      have A3 := (A2.key (wo_ext e5)).app (AllR.cons (v := V.ref f3) ⟨.list [], .inl (.lst (SqL.of (wo_of upd_same (mill_new M4 hf3))) .nil), KeyD.non (Sh.lst (n := 19) fun y hy => by cases hy) rfl⟩ AllR.nil)
      have A4 := A3.app (AllR.cons (v := V.non) ⟨.none, .inl .non, KeyD.non ⟨rfl, Nat.zero_le _⟩ rfl⟩ AllR.nil)
      have A5 := A4.app (AllR.cons (v := V.str "key") ⟨.str "key", .inl (.str _), KeyD.non ⟨by decide +kernel, Nat.zero_le _⟩ rfl⟩ AllR.nil)
      generalize upd H4 f3 (.lst []) = H5 at e5 M5 A5 ⊢
      have e25 := e24.trans e5
      intro f6 hf6
      have e6 := Ext.new hf6 (.dK [])
      have M6 := M5.ext e6
      have A6 := (A5.key (wo_ext e6)).app (AllR.cons (v := V.ref f6) ⟨.dict [], .inr ⟨f6, rfl, wo_of upd_same (mill_new M5 hf6), rfl⟩, .inl rfl⟩ AllR.nil)
      generalize upd H5 f6 (.dK []) = H6 at e6 M6 A6 ⊢
      have e26 := e25.trans e6
      refine ⟨_, rfl, cat_one M6 (w2.ext (wo_ext e26)) psl fun f7 H7 k7 e7 => ?_⟩
      have M7 := M6.ext e7
      have A7 := (A6.key (wo_ext e7)).app (AllR.cons k7 AllR.nil)
      have e27 := e26.trans e7
      refine ⟨by show 7 ≤ sizeLine; decide, fun fl hfl => ?_⟩
      have e8 := Ext.new hfl (.lst [.ref f1, .ref f2, .ref f3, .non, .str "key", .ref f6, .ref f7])
      have M8 := M7.ext e8
      have A8 := A7.key (wo_ext e8)
      have kfl : upd H7 fl (.lst [.ref f1, .ref f2, .ref f3, .non, .str "key", .ref f6, .ref f7]) fl = some (.lst [.ref f1, .ref f2, .ref f3, .non, .str "key", .ref f6, .ref f7]) := upd_same
      generalize upd H7 fl (.lst [.ref f1, .ref f2, .ref f3, .non, .str "key", .ref f6, .ref f7]) = H8 at e8 M8 A8 kfl ⊢
      refine ⟨_, rfl, d, 7, rfl, M8, ⟨by decide, by decide⟩, fun k H9 hk9 M9 b9 => ?_⟩
      obtain ⟨v, hv, kv⟩ := (A8.key b9.wo).at (k := k) hk9
      exact ⟨fl, _, _, v, rfl, rfl, SqL.of (b9 _ _ kfl (mill_new M7 hfl)), atI_nat hv, q v H9 kv M9 ((b2.trans ((e27.trans e8).but d)).trans b9)⟩
    have hLn : L ≠ [] := fun z => hc (.inl z)
    have hw0 : wy ≠ 0 := fun z => hc (.inr z)
    have hLe : L.isEmpty = false := by cases L with
      | nil => exact absurd rfl hLn
      | cons => rfl
    rw [hLe]
    refine iteF ⟨_, rfl, rfl, _, rfl, ?_⟩
    rw [decide_eq_false (show ¬ (V.int (wy : Nat) = V.int 0) from fun z => by injection z with z; omega)]
    refine iteF ?_
    have hL1 : 1 ≤ L.length := List.length_pos_iff.mpr hLn
    refine ⟨_, rfl, _, rfl, t, _, rfl, .inr k2.1, d, _, rfl, M2, ⟨by rw [hlt]; exact hL1, by rw [hlt]; exact Nat.le_trans hL (by decide)⟩, fun at_ H3 hat M3 b3 => ?_⟩
    rw [hlt] at hat
    have w3 := w2.ext b3.wo
    have k3 := w3.ext (wo_le d _)
    have b03 := b2.trans b3
    obtain ⟨pa, hpa⟩ : ∃ pa, ps[at_]? = some pa := ⟨ps[at_], List.getElem?_eq_getElem (by omega)⟩
    obtain ⟨⟨bs, ex⟩, hq, hsp⟩ := paired_at k3.2 at_ pa hpa
    dsimp only at hsp
    obtain ⟨hbs, hex⟩ := hb _ (List.mem_of_getElem? hq)
    dsimp only at hbs hex
    refine ⟨_, rfl, _, rfl, t, _, _, .ref pa, rfl, rfl, k3.1, atI_nat (by rw [List.getElem?_map, hpa]; rfl), pa, _, rfl, hsp, rfl, _, _, rfl, _, _, rfl, rfl, ?_⟩
    have cl := fun lo hi => cutV_length (ps.map V.ref) lo hi
    rw [hlt] at cl
    refine ⟨_, rfl, rfl, _, rfl, ?_⟩
    refine ite2 (fun _ => ?_) (fun _ => ?_)
    · refine ⟨_, rfl, t, _, rfl, .inr k3.1, fun f1 hf1 => ?_⟩
      have e4 := Ext.new hf1 (.lst (ps.map V.ref))
      have M4 := M3.ext e4
      have w4 := w3.ext (wo_ext e4)
      have A1 : AllR (KeyAt K (wo d (upd H3 f1 (.lst (ps.map V.ref))))) [.ref f1] := AllR.cons ⟨.list (L.map pairD), .inl (.lst (SqL.of (wo_of upd_same (mill_new M3 hf1))) (dpall_of_pairs w4.2)), KeyD.non (Sh.lst (n := 19) fun y hy => by
        obtain ⟨z, _, rfl⟩ := List.mem_map.mp hy
        exact ⟨(ElemD.pair z).1.1, Nat.le_trans (ElemD.pair z).1.2 (by decide)⟩) rfl⟩ AllR.nil
      generalize upd H3 f1 (.lst (ps.map V.ref)) = H4 at e4 M4 w4 A1 ⊢
      have k4 := w4.ext (wo_le d _)
      refine ⟨_, rfl, t, _, rfl, k4.1, fun f2 hf2 => ?_⟩
      have e5 := Ext.new hf2 (.tup (ps.map V.ref).reverse)
      have M5 := M4.ext e5
      have w5 := w4.ext (wo_ext e5)
      have k52 : KeyAt K (wo d (upd H4 f2 (.tup (ps.map V.ref).reverse))) (.ref f2) := key_tup (wo_tup (mill_new M4 hf2)) (by rw [List.length_reverse, hlt]; omega) (fun v hv => w5.els v (List.mem_reverse.mp hv))
      have A2 := (A1.key (wo_ext e5)).app (AllR.cons k52 AllR.nil)
      generalize upd H4 f2 (.tup (ps.map V.ref).reverse) = H5 at e5 M5 w5 A2 ⊢
      refine ⟨_, rfl, _, rfl, _, rfl, _, rfl, ?_⟩
      try unfold tNoPart
      dsimp only
      refine slA (w5.ext (wo_le d _)).1 fun a1 H6 ha1 e6 => ?_
      have w6 := w5.ext (wo_ext e6)
      refine catA (w6.ext (wo_le d _)).1 ha1 (by have := cl (some (-1)) none; rw [hlt]; omega) fun f3 H7 hf3 e7 => ?_
      have M7 := (M5.ext e6).ext e7
      have w7 := w6.ext (wo_ext e7)
      have k73 : KeyAt K (wo d H7) (.ref f3) := key_tup (sqt_wo M7 hf3) (by rw [List.length_append, hlt]; have := cl (some (-1)) none; have : (cutV (ps.map V.ref) (some (-1)) none).length ≤ 1 := (by unfold cutV; rw [List.length_take, List.length_drop]; unfold HT.sIx; dsimp only; rw [if_pos (by decide)]; omega); omega) (w7.els.app (w7.els.cut _ _))
      have A3 := (A2.key ((wo_ext e6).trans (wo_ext e7))).app (AllR.cons k73 AllR.nil)
      refine ⟨_, rfl, _, rfl, _, rfl, slA (w7.ext (wo_le d _)).1 fun a2 H8 ha2 e8 => ⟨_, rfl, _, rfl, _, _, rfl, rfl, _, rfl, ?_⟩⟩
      try unfold tNoPart
      dsimp only
      have w8 := w7.ext (wo_ext e8)
      refine slA (w8.ext (wo_le d _)).1 fun a3 H9 ha3 e9 => ?_
      have c1 := cl none (some (at_ : Int))
      have c2 := cl (some ((at_ : Int) + 1)) none
      refine catA (sqt_ext ha2 e9) ha3 (by omega) fun f4 H10 hf4 e10 => ?_
      have e710 := (e8.trans e9).trans e10
      have M10 := M7.ext e710
      have w10 := w7.ext (wo_ext e710)
      have d1 := cut_hi (ps.map V.ref) at_
      have k104 : KeyAt K (wo d H10) (.ref f4) := key_tup (sqt_wo M10 hf4) (by rw [List.length_append]; have := cut_lo (ps.map V.ref) at_ (by rw [hlt]; exact hat); rw [hlt] at this; omega) ((w10.els.cut _ _).app (w10.els.cut _ _))
      have A4 := (A3.key (wo_ext e710)).app (AllR.cons k104 AllR.nil)
      have e310 := ((((e4.trans e5).trans e6).trans e7).trans e710)
      refine ⟨by show 4 ≤ sizeLine; decide, fun fl hfl => ?_⟩
      have e11 := Ext.new hfl (.lst [.ref f1, .ref f2, .ref f3, .ref f4])
      have M11 := M10.ext e11
      have A5 := A4.key (wo_ext e11)
      have kfl : upd H10 fl (.lst [.ref f1, .ref f2, .ref f3, .ref f4]) fl = some (.lst [.ref f1, .ref f2, .ref f3, .ref f4]) := upd_same
      generalize upd H10 fl (.lst [.ref f1, .ref f2, .ref f3, .ref f4]) = H11 at e11 M11 A5 kfl ⊢
      refine ⟨_, rfl, d, 4, rfl, M11, ⟨by decide, by decide⟩, fun k H12 hk12 M12 b12 => ?_⟩
      obtain ⟨v, hv, kv⟩ := (A5.key b12.wo).at (k := k) hk12
      exact ⟨fl, _, _, v, rfl, rfl, SqL.of (b12 _ _ kfl (mill_new M10 hfl)), atI_nat hv, q v H12 kv M12 ((b03.trans ((e310.trans e11).but d)).trans b12)⟩
    · have lgx : ex.natAbs.log2 < 1920 := Nat.lt_of_lt_of_le (PySem.Flt.log2_lt_of (by decide) hex) (by decide)
      have lgb : bs.natAbs.log2 < 1920 := Nat.lt_of_lt_of_le (PySem.Flt.log2_lt_of (by decide) hbs) (by decide)
      have i2 : ∀ {i j : Int} (H : Hp), DpAll K H [.int i, .int j] [.int i, .int j] := fun H => .cons (.int _) (.cons (.int _) .nil)
      refine ⟨_, rfl, _, rfl, _, _, rfl, rfl, by show 2 ≤ sizeLine; decide, fun f1 hf1 => ?_⟩
      obtain ⟨H4, qH4, x1, e4⟩ := el_tup (K := K) (xs := [.int bs, .int (ex + 1)]) M3 hf1 i2 (hd2 (iInt _) (iInt _))
      rw [qH4]
      have M4 := M3.ext e4
      have A1 : AllR (ElAt K (wo d H4)) [.ref f1] := AllR.cons x1 AllR.nil
      refine ⟨_, rfl, _, rfl, _, _, rfl, rfl, by show 2 ≤ sizeLine; decide, fun f2 hf2 => ?_⟩
      obtain ⟨H5, qH5, x2, e5⟩ := el_tup (K := K) (xs := [.int bs, .int (ex - 1)]) M4 hf2 i2 (hd2 (iInt _) (iInt _))
      rw [qH5]
      have M5 := M4.ext e5
      have A2 := (A1.el (wo_ext e5)).app (AllR.cons x2 AllR.nil)
      refine ⟨_, rfl, _, rfl, _, _, rfl, rfl, by show 2 ≤ sizeLine; decide, fun f3 hf3 => ?_⟩
      obtain ⟨H6, qH6, x3, e6⟩ := el_tup (K := K) (xs := [.int bs, .int (0 - ex)]) M5 hf3 i2 (hd2 (iInt _) (iInt _))
      rw [qH6]
      have M6 := M5.ext e6
      have A3 := (A2.el (wo_ext e6)).app (AllR.cons x3 AllR.nil)
      refine ⟨_, rfl, by show 2 ≤ sizeLine; decide, fun f4 hf4 => ?_⟩
      obtain ⟨H7, qH7, x4, e7⟩ := el_tup (K := K) (xs := [.int bs, .int 0]) M6 hf4 i2 (hd2 (iInt _) (iInt _))
      rw [qH7]
      have M7 := M6.ext e7
      have A4 := (A3.el (wo_ext e7)).app (AllR.cons x4 AllR.nil)
      refine ⟨_, rfl, by show 1 ≤ sizeLine; decide, fun f5 hf5 => ?_⟩
      obtain ⟨H8, qH8, x5, e8⟩ := el_tup (K := K) (xs := [.int bs]) M7 hf5 (fun H => .cons (.int _) .nil) (hd1 (iInt _))
      rw [qH8]
      have M8 := M7.ext e8
      have A5 := (A4.el (wo_ext e8)).app (AllR.cons x5 AllR.nil)
      refine ⟨_, rfl, _, rfl, by show 3 ≤ sizeLine; decide, fun f6 hf6 => ?_⟩
      obtain ⟨H9, qH9, x6, e9⟩ := el_tup (K := K) (xs := [.int bs, .int ex, .int 0]) M8 hf6 (fun H => .cons (.int _) (.cons (.int _) (.cons (.int _) .nil))) (hd3 (iInt _) (iInt _) (iInt _))
      rw [qH9]
      have M9 := M8.ext e9
      have A6 := (A5.el (wo_ext e9)).app (AllR.cons x6 AllR.nil)
      refine ⟨_, rfl, _, rfl, by show 2 ≤ sizeLine; decide, fun f7 hf7 => ?_⟩
      obtain ⟨H10, qH10, x7, e10⟩ := el_lst (K := K) (xs := [.int bs, .int ex]) M9 hf7 i2 (hd2 (iInt _) (iInt _))
      rw [qH10]
      have M10 := M9.ext e10
      have A7 := (A6.el (wo_ext e10)).app (AllR.cons x7 AllR.nil)
      have e310 := (((((e4.trans e5).trans e6).trans e7).trans e8).trans e9).trans e10
      refine ⟨by show 7 ≤ sizeLine; decide, fun o1 ho1 => ?_⟩
      have e11 := Ext.new ho1 (.lst [.ref f1, .ref f2, .ref f3, .ref f4, .ref f5, .ref f6, .ref f7])
      have M11 := M10.ext e11
      have A8 := A7.el (wo_ext e11)
      have ko1 : upd H10 o1 (.lst [.ref f1, .ref f2, .ref f3, .ref f4, .ref f5, .ref f6, .ref f7]) o1 = some (.lst [.ref f1, .ref f2, .ref f3, .ref f4, .ref f5, .ref f6, .ref f7]) := upd_same
      generalize upd H10 o1 (.lst [.ref f1, .ref f2, .ref f3, .ref f4, .ref f5, .ref f6, .ref f7]) = H11 at e11 M11 A8 ko1 ⊢
      -- the second row
      refine ⟨_, rfl, _, rfl, _, rfl, _, rfl, lgx, by show 2 ≤ sizeLine; decide, fun g1 hg1 => ?_⟩
      obtain ⟨H12, qH12, y1, e12⟩ := el_tup (K := K) (xs := [.int bs, .str (Str.ofString (toString ex))]) M11 hg1 (fun H => .cons (.int _) (.cons (.str _) .nil)) (hd2 (iInt _) (iStr _))
      rw [qH12]
      have M12 := M11.ext e12
      have B1 := (A8.el (wo_ext e12)).app (AllR.cons y1 AllR.nil)
      refine ⟨_, rfl, _, _, rfl, rfl, ⟨by decide, by decide, by decide⟩, by show 2 ≤ sizeLine; decide, fun g2 hg2 => ?_⟩
      obtain ⟨H13, qH13, y2, e13⟩ := el_tup (K := K) (xs := [.int bs, .int (10 ^ (33 : Int).toNat)]) M12 hg2 i2 (hd2 (iInt _) (iInt _))
      rw [qH13]
      have M13 := M12.ext e13
      have B2 := (B1.el (wo_ext e13)).app (AllR.cons y2 AllR.nil)
      refine ⟨_, rfl, _, _, rfl, rfl, _, rfl, by show 2 ≤ sizeLine; decide, fun g3 hg3 => ?_⟩
      obtain ⟨H14, qH14, y3, e14⟩ := el_tup (K := K) (xs := [.int (bs + 1), .int ex]) M13 hg3 i2 (hd2 (iInt _) (iInt _))
      rw [qH14]
      have M14 := M13.ext e14
      have B3 := (B2.el (wo_ext e14)).app (AllR.cons y3 AllR.nil)
      refine ⟨_, rfl, by show 2 ≤ sizeLine; decide, fun g4 hg4 => ?_⟩
      obtain ⟨H15, qH15, y4, e15⟩ := el_tup (K := K) (xs := [.non, .int ex]) M14 hg4 (fun H => .cons .non (.cons (.int _) .nil)) (hd2 iNon (iInt _))
      rw [qH15]
      have M15 := M14.ext e15
      have B4 := (B3.el (wo_ext e15)).app (AllR.cons y4 AllR.nil)
      have B5 := B4.app (AllR.cons (v := V.int bs) (el_flat (e := .int bs) (fun H => .int bs) (iInt _) (wo d H15) rfl) AllR.nil)
      refine ⟨_, rfl, _, rfl, _, rfl, lgb, _, rfl, by show 2 ≤ sizeLine; decide, fun g6 hg6 => ?_⟩
      obtain ⟨H16, qH16, y6, e16⟩ := el_tup (K := K) (xs := [.str (Str.ofString (toString bs)), .int ex]) M15 hg6 (fun H => .cons (.str _) (.cons (.int _) .nil)) (hd2 (iStr _) (iInt _))
      rw [qH16]
      have M16 := M15.ext e16
      have B6 := (B5.el (wo_ext e16)).app (AllR.cons y6 AllR.nil)
      have e1116 := (((e12.trans e13).trans e14).trans e15).trans e16
      refine ⟨by show 6 ≤ sizeLine; decide, fun o2 ho2 => ?_⟩
      have e17 := Ext.new ho2 (.lst [.ref g1, .ref g2, .ref g3, .ref g4, .int bs, .ref g6])
      refine ⟨o1, o2, _, _, rfl, rfl, e17 _ _ (e1116 _ _ ko1), upd_same, by show 7 + 6 ≤ sizeLine; decide, fun o3 ho3 => ?_⟩
      have e18 := Ext.new ho3 (.lst ([.ref f1, .ref f2, .ref f3, .ref f4, .ref f5, .ref f6, .ref f7] ++ [.ref g1, .ref g2, .ref g3, .ref g4, .int bs, .ref g6]))
      have e318 := ((e310.trans e11).trans e1116).trans (e17.trans e18)
      have M18 := (M16.ext e17).ext e18
      have B7 := B6.el ((wo_ext e17).trans (wo_ext e18))
      have no3 : o3 ≠ d := mill_new (M16.ext e17) ho3
      have ko3 : upd (upd H16 o2 (.lst [.ref g1, .ref g2, .ref g3, .ref g4, .int bs, .ref g6])) o3 (.lst ([.ref f1, .ref f2, .ref f3, .ref f4, .ref f5, .ref f6, .ref f7] ++ [.ref g1, .ref g2, .ref g3, .ref g4, .int bs, .ref g6])) o3 = some (.lst [.ref f1, .ref f2, .ref f3, .ref f4, .ref f5, .ref f6, .ref f7, .ref g1, .ref g2, .ref g3, .ref g4, .int bs, .ref g6]) := upd_same
      generalize upd (upd H16 o2 (.lst [.ref g1, .ref g2, .ref g3, .ref g4, .int bs, .ref g6])) o3 (.lst ([.ref f1, .ref f2, .ref f3, .ref f4, .ref f5, .ref f6, .ref f7] ++ [.ref g1, .ref g2, .ref g3, .ref g4, .int bs, .ref g6])) = H18 at e318 M18 B7 ko3 ⊢
      -- put together
      have w18 := w3.ext (wo_ext e318)
      have b018 := b03.trans (e318.but d)
      refine ⟨_, rfl, _, rfl, _, rfl, slA (w18.ext (wo_le d _)).1 fun a1 H19 ha1 e19 => ?_⟩
      have M19 := M18.ext e19
      refine ⟨_, rfl, _, rfl, d, 13, rfl, M19, ⟨by decide, by decide⟩, fun k H20 hk20 M20 b20 => ?_⟩
      have wb := (wo_ext e19).trans b20.wo
      obtain ⟨v, hv, kv⟩ := (B7.el wb).at (k := k) hk20
      have w20 := w18.ext wb
      have ha1' := sqt_ext (sqt_wo M19 ha1) b20.wo
      refine ⟨o3, _, _, v, rfl, rfl, SqL.of (b20 _ _ (e19 _ _ ko3) no3), atI_nat hv, by show 1 ≤ sizeLine; decide, fun p9 hp9 => ?_⟩
      have e21 := Ext.new hp9 (.tup [v])
      have c1 := cl none (some (at_ : Int))
      have c2 := cl (some ((at_ : Int) + 1)) none
      have d1 := cut_hi (ps.map V.ref) at_
      have d2 := cut_lo (ps.map V.ref) at_ (by rw [hlt]; exact hat)
      rw [hlt] at d2
      refine catA (sqt_ext (sqt_ext ha1' (wo_le d _)) e21) (SqT.of upd_same) (by show _ + 1 ≤ 1000; omega) fun a2 H22 ha2 e22 => ?_
      have e2022 := e21.trans e22
      have M22 := M20.ext e2022
      have w22 := w20.ext (wo_ext e2022)
      refine ⟨_, rfl, _, rfl, _, _, rfl, rfl, _, rfl, ?_⟩
      try unfold tNoPart
      dsimp only
      refine slA (w22.ext (wo_le d _)).1 fun a3 H23 ha3 e23 => ?_
      refine catA (sqt_ext ha2 e23) ha3 (by rw [List.length_append]; show _ + 1 + _ ≤ 1000; omega) fun a4 H24 ha4 e24 => ?_
      have e2024 := (e2022.trans e23).trans e24
      have M24 := M20.ext e2024
      have w24 := w20.ext (wo_ext e2024)
      refine q _ H24 (key_tup (sqt_wo M24 ha4) (by rw [List.length_append, List.length_append]; show _ + 1 + _ ≤ 100; omega) (((w24.els.cut _ _).app (AllR.cons (kv.ext (wo_ext e2024)) AllR.nil)).app (w24.els.cut _ _))) M24 (((b018.trans (e19.but d)).trans b20).trans (e2024.but d))
end
end K75

set_option Elab.async false
set_option linter.all false
set_option maxRecDepth 100000
set_option maxHeartbeats 4000000
namespace K75
open PySem PySem.Spec PyProof.Rows L2 Bk Evl
theorem small_fair2 {e : PyData} (h : Fair2 e) : Small2 e := ⟨fun ds z => Nat.le_trans (h ds z).1 (by decide), fun ds z x hx es w => Nat.le_trans ((h ds z).2 x hx es w).1 (by decide)⟩
theorem fair2_dR {rows : List (List Nat)} (hl : rows.length ≤ 40) (h : ∀ r ∈ rows, RowS r) : Fair2 (.tuple (dR rows)) := Fair2.tup (by rw [List.length_map]; exact hl) fun e he => by
  obtain ⟨r, hr, rfl⟩ := List.mem_map.mp he
  exact fair_dN (Nat.le_trans (h r hr).1 (by decide))
theorem small2_dN {r : List Nat} (h : r.length ≤ 1000) : Small2 (.tuple (dN r)) := ⟨fun ds z => by
  injection z with z
  rw [← z, List.length_map]
  exact h, fun ds z x hx es w => by
  injection z with z
  rw [← z] at hx
  obtain ⟨k, _, rfl⟩ := List.mem_map.mp hx
  cases w⟩
theorem small2_non {e : PyData} (h : isT e = false) : Small2 e := by
  constructor
  · intro ds z
    rw [z] at h
    cases h
  · intro ds z
    rw [z] at h
    cases h
theorem paired_of {K : PySem.W.Frag} {H : Hp} : ∀ {rows : List (List Nat)} {xs : List V}, DpAll K H xs (dR rows) → ∃ ts : List Addr, xs = ts.map V.ref ∧ Paired (fun p r => SqT K H p (nv r)) ts rows
  | [], _, .nil => ⟨[], rfl, .nil⟩
  | r :: rows, _, .cons h t => by
    obtain ⟨ts, rfl, p⟩ := paired_of t
    cases h with
    | tup hs ha => exact ⟨_ :: ts, rfl, .cons (dpall_dN ha ▸ hs) p⟩
end K75

set_option Elab.async false
set_option linter.all false
set_option maxRecDepth 100000
set_option maxHeartbeats 4000000
namespace K75
open PySem PySem.Spec PyProof.Rows L2 Bk Evl
theorem told_ok : ∀ b : Bool, (PyData.list [.bool b, .bool b]).showable = true ∧ (PyData.list [.bool b, .bool b]).hasDict = false ∧ (PyData.list [.bool b, .bool b]).depth ≤ 60 ∧ (PyData.list [.bool b, .bool b]).shown.length ≤ 100 ∧ inV (.str (PyData.list [.bool b, .bool b]).shown) [.str "[True, True]", .str "[False, False]"] = true := by decide +kernel
section
variable {P : Program} {w : World} {K : PySem.W.Frag} {mg : Str → Option Value} {base : Heap}
/-! ### _law_asked -/
theorem sc_ulaw_asked : FnScope ["_law_saying", "_law_proof", "_law_told"] ["_law_saying", "_law_proof"] (defScope s_ulaw_asked) := ⟨rfl, rfl, rfl, by decide +kernel, rfl, by decide +kernel, by decide +kernel⟩
theorem ok_ulaw_asked (T : Txt K mg) : OkG P w K mg base 10 (He.ga K "_law_asked") ["_law_saying", "_law_proof"] (spAccepts K w) := by
  obtain ⟨fd_accepts, F_accepts, b_accepts, k_accepts, _⟩ := (ok_accepts (P := P) (w := w) (base := base) T).ex
  refine fd_okG T.f_ulaw_asked sc_ulaw_asked (fun vs H Q h => ?_) (fun _ _ _ _ _ _ us hl => match us, hl with | [_, _], _ => rfl) (fun cdv A outer s H vs Q hr hG h => ?_)
  · obtain ⟨x, y, G, rfl, _⟩ := h
    rfl
  · obtain ⟨x, y, G, rfl, hC, q⟩ := h
    have nd := sc_ulaw_asked.nd
    refine ⟨_, (pss_cons (ps_set (i := 2) nd rfl (Or.inl rfl) (pe_lst (pa_cons (pe_call F_accepts (hr.mono (by decide)) rfl T.g_accepts k_accepts b_accepts .nil pass0 (pa_cons (pv 0) (pa_cons (pv 1) pa_nil))) (pa_cons (pe_callKw (ok_accepts_k T) (hr.mono (by decide)) rfl T.g_accepts (pk_cons (pv 1) (pk_cons (pv 0) pk_nil))) pa_nil)))) (pss_one (ps_ret (pe_ifExp (pt_cmpR op_in_seq (pe_callB (call_repr ((hr.mono (by decide)) : Room 1 _) hG) rfl T.z_repr (by decide +kernel) (pa_cons (pv 2) pa_nil)) (pe_lst (pa_cons pe_str (pa_cons pe_str pa_nil))) rfl) (pe_ix ix_list (pv 2) pe_int (by intro _ _; rfl)) pe_non)))), ?_⟩
    refine ⟨_, rfl, _, rfl, x, y, G, rfl, hC, fun b1 H1 hb1 e1 => ?_⟩
    refine ⟨_, rfl, _, rfl, rfl, x, y, G, rfl, hC.ext e1, fun b2 H2 hb2 e2 => ?_⟩
    obtain rfl : b1 = b2 := by rw [Bool.eq_iff_iff, hb1, hb2]
    refine ⟨by show 2 ≤ sizeLine; decide, fun tl htl => ?_⟩
    have e3 := (e1.trans e2).trans (Ext.new htl (.lst [.bl b1, .bl b1]))
    have ktl : upd H2 tl (.lst [.bl b1, .bl b1]) tl = some (.lst [.bl b1, .bl b1]) := upd_same
    generalize upd H2 tl (.lst [.bl b1, .bl b1]) = H3 at e3 ktl ⊢
    obtain ⟨q1, q2, q3, q4, q5⟩ := told_ok b1
    refine ⟨_, rfl, tl, _, rfl, .lst (SqL.of ktl) (.cons (.bl b1) (.cons (.bl b1) .nil)), q1, q2, q3, small_line (by omega), ?_⟩
    refine ⟨by show 2 ≤ sizeLine; decide, fun l2 hl2 => ⟨l2, _, rfl, .inl (SqL.of upd_same), rfl, rfl, _, rfl, ?_⟩⟩
    show if (inV (.str (PyData.list [.bool b1, .bool b1]).shown) [.str "[True, True]", .str "[False, False]"]) = true then _ else _
    rw [q5]
    exact iteT ⟨_, rfl, tl, _, 0, _, rfl, rfl, SqL.of ((Ext.new hl2 _) _ _ ktl), rfl, q b1 _ hb1 (e3.trans (Ext.new hl2 _))⟩
end
end K75

set_option Elab.async false
set_option linter.all false
set_option maxRecDepth 100000
set_option maxHeartbeats 4000000
namespace K75
open PySem PySem.Spec PyProof.Rows L2 Bk Evl
theorem word_S {p e : Nat} (h : 1 < e) : Str.ofString (toString ((p : Nat) : Int)) ++ ("^" : Str) ++ Str.ofString (toString ((e : Nat) : Int)) = SX.S (wordQ ((p : Int), (e : Int))) := by
  unfold wordQ
  rw [if_pos (show (1 : Int) < (e : Int) by omega), SX.num_S, SX.num_S, hat_S, SX.S_cat, SX.S_cat]
  congr 1
  rw [List.append_assoc]
  rfl
theorem word_S0 {p e : Nat} (h : ¬ 1 < e) : Str.ofString (toString ((p : Nat) : Int)) = SX.S (wordQ ((p : Int), (e : Int))) := by
  unfold wordQ
  rw [if_neg (show ¬ (1 : Int) < (e : Int) by omega), SX.num_S]
  rfl
theorem strOk_S {a : List Nat} (h : ∀ c ∈ a, c < 128) : PyData.strOk (SX.S a) = true := by
  unfold PyData.strOk
  rw [List.all_toArray, List.all_eq_true]
  exact fun c hc => decide_eq_true (Nat.lt_trans (h c hc) (by decide))
theorem wordQ_lt (q : Int × Int) : ∀ c ∈ wordQ q, c < 128 := by
  intro c hc
  unfold wordQ at hc
  split at hc
  · rcases List.mem_append.mp hc with h | h
    · have := numL_dig h; omega
    · rcases List.mem_cons.mp h with rfl | h
      · decide
      · have := numL_dig h; omega
  · have := numL_dig hc; omega
theorem words_shaped (l : Prs) : SeqAt.shaped (.list (l.map fun q => PyData.str (SX.S (wordQ q)))) = true := (Sh.lst (n := 5) fun d hd => by
  obtain ⟨q, _, rfl⟩ := List.mem_map.mp hd
  exact ⟨strOk_S (wordQ_lt q), Nat.zero_le _⟩).shaped (by decide)
theorem words_nil (l : Prs) : PyData.eqv (.list (l.map fun q => PyData.str (SX.S (wordQ q)))) (.list []) = l.isEmpty := by
  rw [eqv_nil, List.isEmpty_map]
section
variable {P : Program} {w : World} {K : PySem.W.Frag} {mg : Str → Option Value} {base : Heap}
theorem dpall_words (H : Hp) : ∀ l : Prs, DpAll K H (l.map fun q => V.str (SX.S (wordQ q))) (l.map fun q => PyData.str (SX.S (wordQ q)))
  | [] => .nil
  | _ :: l => .cons (.str _) (dpall_words H l)
/-! ### _law_number_text -/
def spLNumText (K : PySem.W.Frag) : Sp := fun vs H Q _ => ∃ (t : Addr) (l : Prs), vs = [.ref t] ∧ PairsAt K H t l ∧ FacOk l ∧ ∀ H', Ext H H' → Q (.str (numT l)) H'
theorem sc_ulaw_number_text : FnScope ["_law_factors_here", "_law_words", "_law_k", "_law_many"] ["_law_factors_here"] (defScope s_ulaw_number_text) := ⟨rfl, rfl, rfl, by decide +kernel, rfl, by decide +kernel, by decide +kernel⟩
theorem ok_ulaw_number_text (T : Txt K mg) : Ok P w K mg base 1 (He.ga K "_law_number_text") ["_law_factors_here"] (spLNumText K) := by
  refine fd_ok T.f_ulaw_number_text sc_ulaw_number_text (fun vs H Q E h => ?_) (fun _ _ _ _ _ _ us hl => match us, hl with | [_], _ => rfl) (fun cdv A outer s H vs Q E hr h => ?_)
  · obtain ⟨t, l, rfl, _⟩ := h
    rfl
  · obtain ⟨t, l, rfl, hp, fo, q⟩ := h
    have nd := sc_ulaw_number_text.nd
    refine ⟨_, (pss_cons (ps_setLc (i := 1) (own := [("_law_k", 2), ("_law_many", 3)]) (g := (gTup K 2 (gCons (gName 2) (gCons (gName 3) gNil)))) (tt := tYes) rfl nd rfl rfl (sw_true rfl rfl rfl (by decide +kernel)) (pi_tup (pv 0)) (blkOk_by (own := [("_law_k", 2), ("_law_many", 3)]) (N := ["_law_factors_here", "_law_words", "_law_k", "_law_many"]) (sc := defScope s_ulaw_number_text) (by decide +kernel)) (fun _ _ _ _ _ => (pg_tup rfl (pgs_cons (pg_name (i := 2) nd rfl (Or.inl rfl)) (pgs_cons (pg_name (i := 3) nd rfl (Or.inl rfl)) pgs_nil)))) (fun _ _ _ _ _ => pts_nil) (fun _ _ _ _ _ => (pe_ifExp (pt_cmpR op_gt (pv 3) pe_int (nomark _)) (pe_op op_add_str (pe_op op_add_str (pe_callTy call_str_int rfl T.z_str (by decide +kernel) (pa_cons (pv 2) pa_nil)) pe_str) (pe_callTy call_str_int rfl T.z_str (by decide +kernel) (pa_cons (pv 3) pa_nil))) (pe_callTy call_str_int rfl T.z_str (by decide +kernel) (pa_cons (pv 2) pa_nil))))) (pss_one (ps_ret (pe_ifExp (pt_cmpR (op_neD (hr.units)) (pv 1) (pe_lst pa_nil) (nomark _)) (pe_join pe_str (pv 1)) pe_str)))), ?_⟩
    obtain ⟨ps, h1, h2⟩ := hp.sq
    have hl12 := fo.len
    refine ⟨_, rfl, t, rfl, ⟨_, h1⟩, fun D hD => ?_⟩
    refine lc_tup (xs := ps.map V.ref) (fun j H' => Ext H H' ∧ H' D = some (.lst ((l.take j).map fun q => V.str (SX.S (wordQ q))))) ⟨Ext.new hD _, upd_same⟩ (fun j H' _ p => sqt_ext h1 p.1) (fun j x H' hx p => ?_) (fun H' p => ?_)
    · obtain ⟨e1, hD1⟩ := p
      rw [List.getElem?_map] at hx
      obtain ⟨pp, hpi, rfl⟩ := Option.map_eq_some_iff.mp hx
      obtain ⟨⟨q1, q2⟩, hq, hsq⟩ := paired_at h2 j pp hpi
      dsimp only at hsq
      obtain ⟨p, e, hpe, p2, pM, e1', eM⟩ := facOne_bd (fo.one _ (List.mem_of_getElem? hq))
      injection hpe with hp1 he1
      subst hp1
      subst he1
      have tk : l.take (j + 1) = l.take j ++ [((p : Int), (e : Int))] := by rw [List.take_add_one, hq] <;> rfl
      have jl := (List.getElem?_eq_some_iff.mp hq).1
      have lg : ∀ k : Nat, k < 10 ^ 31 → (k : Int).natAbs.log2 < 1920 := fun k hk => by
        rw [Int.natAbs_natCast]
        exact PySem.Flt.log2_lt_of (by decide) (Nat.lt_of_lt_of_le hk (Nat.le_trans (show 10 ^ 31 ≤ 2 ^ 110 by decide) (Nat.pow_le_pow_right (by decide) (by decide))))
      have pM' : p < 10 ^ 31 := Nat.lt_of_lt_of_le pM (by decide)
      have wl := word_lenQ (fo.one _ (List.mem_of_getElem? hq))
      refine ⟨pp, _, rfl, sqt_ext hsq e1, rfl, _, _, rfl, _, _, rfl, rfl, rfl, ?_⟩
      unfold tYes
      dsimp only
      rw [if_pos rfl]
      have fin : ∀ H3, Ext H' H3 → ∀ s, s = SX.S (wordQ ((p : Int), (e : Int))) → ∃ acc, H3 D = some (.lst acc) ∧ acc.length < sizeLine ∧ Ext H (upd H3 D (.lst (acc ++ [V.str s]))) ∧ upd H3 D (.lst (acc ++ [V.str s])) D = some (.lst ((l.take (j + 1)).map fun q => V.str (SX.S (wordQ q)))) := fun H3 e3 s hs => by
        refine ⟨_, e3 _ _ hD1, by rw [List.length_map, List.length_take]; exact small_lt (by omega), fun x o h => ?_, ?_⟩
        · rw [upd_ne (ne_of_none h hD)]
          exact e3 _ _ (e1 _ _ h)
        · rw [upd_same, tk, List.map_append, hs]
          rfl
      refine ⟨_, rfl, _, _, rfl, rfl, _, rfl, ?_⟩
      refine ite2 (fun h => ?_) (fun h => ?_)
      · have h' : 1 < e := by have := of_decide_eq_true h; omega
        have l1 : (Str.ofString (toString ((p : Nat) : Int))).length ≤ 31 := by rw [SX.num_S, SX.S_len]; exact TL.numL_len (by decide) pM'
        have l2 : (Str.ofString (toString ((e : Nat) : Int))).length ≤ 31 := by rw [SX.num_S, SX.S_len]; exact TL.numL_len (by decide) eM
        have lh : ("^" : Str).length = 1 := by decide +kernel
        have l3 : (Str.ofString (toString ((p : Nat) : Int)) ++ ("^" : Str)).length ≤ 40 := by rw [SX.num_S, hat_S, SX.S_cat, SX.S_len, List.length_append]; rw [SX.num_S, SX.S_len] at l1; show _ + 1 ≤ 40; omega
        refine ⟨_, rfl, _, rfl, lg p pM', _, _, rfl, rfl, small_line (by omega), _, rfl, _, rfl, lg e eM, _, _, rfl, rfl, small_line (by omega), ?_⟩
        exact fin H' (Ext.refl H') _ (word_S h')
      · have h' : ¬ 1 < e := fun z => h (decide_eq_true (by omega))
        refine ⟨_, rfl, _, rfl, lg p pM', ?_⟩
        exact fin H' (Ext.refl H') _ (word_S0 h')
    · obtain ⟨e1, hD1⟩ := p
      have hpl := h2.length
      rw [List.length_map, hpl, List.take_length] at hD1
      refine ⟨_, rfl, by show 0 ≤ sizeLine; decide, fun nl hnl => ?_⟩
      have e2 := Ext.new hnl (.lst [])
      have hD2 := e2 _ _ hD1
      refine ⟨.list (l.map fun q => PyData.str (SX.S (wordQ q))), .list [], .lst (SqL.of hD2) (dpall_words _ l), .lst (SqL.of upd_same) .nil, words_shaped l, by decide +kernel, _, rfl, ?_⟩
      rw [words_nil]
      cases hl : l with
      | nil =>
        subst hl
        exact iteF (by have := q _ (e1.trans e2); rw [show numT [] = ("1" : Str) from if_pos rfl] at this; exact this)
      | cons q0 l0 =>
        refine iteT ⟨⟨_, rfl⟩, _, rfl, _, D, l.map fun q => SX.S (wordQ q), rfl, rfl, .inl (SqL.of (by rw [List.map_map]; exact hD2)), ?_, ?_⟩
        · rw [List.map_map, List.length_map]
          have hs : ∀ l : Prs, (∀ q ∈ l, (wordQ q).length ≤ 39) → (l.map ((·.length) ∘ fun q => SX.S (wordQ q))).sum ≤ l.length * 39 := fun l => by
            induction l with
            | nil => exact fun _ => Nat.zero_le _
            | cons q l ih =>
              intro h
              have h1 := h q List.mem_cons_self
              have h2 := ih fun r hr => h r (List.mem_cons_of_mem _ hr)
              rw [List.map_cons, List.sum_cons, List.length_cons]
              show (SX.S (wordQ q)).length + _ ≤ _
              rw [SX.S_len]
              omega
          have := hs l fun q hq => word_lenQ (fo.one q hq)
          have lh : ("*" : Str).length = 1 := by decide +kernel
          rw [lh]
          omega
        · have e3 : Txt.join ("*" : Str) (l.map fun q => SX.S (wordQ q)) = numT l := by
            rw [show (l.map fun q => SX.S (wordQ q)) = (l.map wordQ).map SX.S by rw [List.map_map]; rfl, star_S, SX.join_S]
            unfold numT
            rw [if_neg (by rw [hl]; simp)]
          rw [e3]
          exact q _ (e1.trans e2)
end
end K75

set_option Elab.async false
set_option linter.all false
set_option maxRecDepth 100000
set_option maxHeartbeats 4000000
namespace K75
open PySem PySem.Spec PyProof.Rows L2 Bk Evl
section
variable {P : Program} {w : World} {K : PySem.W.Frag} {mg : Str → Option Value} {base : Heap}
/-! ### _law_two -/
def spTwo (K : PySem.W.Frag) : Sp := fun vs H Q _ => ∃ d : Addr, vs = [.ref d] ∧ MillAt H d ∧ ∀ (a b c b2 c2 : Nat) p f r H', okRule a b c → okRule a b2 c2 → SqT K (wo d H') p [.ref f, .ref r] → SqT K (wo d H') f [.int a, .int b, .int c] → SqT K (wo d H') r [.int a, .int b2, .int c2] → MillAt H' d → But d H H' → Q (.ref p) H'
theorem sc_ulaw_two : FnScope ["_law_mill_here", "_law_fore", "_law_fine", "_law_way_here", "_law_k"] ["_law_mill_here"] (defScope s_ulaw_two) := ⟨rfl, rfl, rfl, by decide +kernel, rfl, by decide +kernel, by decide +kernel⟩
theorem ok_ulaw_two (T : Txt K mg) : Ok P w K mg base 3 (He.ga K "_law_two") ["_law_mill_here"] (spTwo K) := by
  obtain ⟨fd_ulaw_spec, F_ulaw_spec, b_ulaw_spec, k_ulaw_spec, _⟩ := (ok_ulaw_spec (P := P) (w := w) (base := base) T).ex
  obtain ⟨fd_ulaw_measure, F_ulaw_measure, b_ulaw_measure, k_ulaw_measure, _⟩ := (ok_ulaw_measure (P := P) (w := w) (base := base) T).ex
  obtain ⟨fd_ulaw_grain, F_ulaw_grain, b_ulaw_grain, k_ulaw_grain, _⟩ := (ok_ulaw_grain (P := P) (w := w) (base := base) T).ex
  refine fd_ok T.f_ulaw_two sc_ulaw_two (fun vs H Q E h => ?_) (fun _ _ _ _ _ _ us hl => match us, hl with | [_], _ => rfl) (fun cdv A outer s H vs Q E hr h => ?_)
  · obtain ⟨d, rfl, _⟩ := h
    rfl
  · obtain ⟨d, rfl, M, q⟩ := h
    have nd := sc_ulaw_two.nd
    refine ⟨_, (pss_cons (ps_set (i := 1) nd rfl (Or.inr rfl) (pe_call F_ulaw_spec (hr.mono (by decide)) rfl T.g_ulaw_spec k_ulaw_spec b_ulaw_spec .nil pass0 (pa_cons (pv 0) pa_nil))) (pss_cons (ps_setLc (i := 2) (own := [("_law_k", 4)]) (g := (gName 4)) rfl nd rfl rfl (sw_true rfl rfl rfl (by decide +kernel)) (pi_range2 rfl T.z_range (pa_cons pe_int (pa_cons pe_int pa_nil))) (blkOk_by (own := [("_law_k", 4)]) (N := ["_law_mill_here", "_law_fore", "_law_fine", "_law_way_here", "_law_k"]) (sc := defScope s_ulaw_two) (by decide +kernel)) (fun _ _ _ _ _ => (pg_name (i := 4) nd rfl (Or.inl rfl))) (fun _ _ _ _ _ => (pts_one (pt_cmpR op_eq (pe_call F_ulaw_measure (hr.mono (by decide)) rfl T.g_ulaw_measure k_ulaw_measure b_ulaw_measure .nil pass0 (pa_cons (pe_ix (ixK (K0 := K) (r := rIxT) ix_tup) (pv 1) pe_int (by intro _ _; rfl)) (pa_cons (pv 4) pa_nil))) pe_int (nomark _)))) (fun _ _ _ _ _ => (pv 4))) (pss_cons (ps_set (i := 3) nd rfl (Or.inl rfl) (pe_call F_ulaw_grain (hr.mono (by decide)) rfl T.g_ulaw_grain k_ulaw_grain b_ulaw_grain .nil pass0 (pa_cons (pv 0) (pa_cons pe_int pa_nil)))) (pss_cons (ps_if (pt_cmpR op_eq (pv 3) pe_int (nomark _)) (pss_one (ps_ret (pe_tup (pa_cons (pv 1) (pa_cons (pe_tup (pa_cons (pe_ix ix_tup (pv 1) pe_int (by intro _ _; rfl)) (pa_cons (pe_ix ix_tup (pv 1) pe_int (by intro _ _; rfl)) (pa_cons (pe_ix ix_tup (pv 1) pe_int (by intro _ _; rfl)) pa_nil)))) pa_nil))))) pss_nil) (pss_cons (ps_if (pt_cmpR op_eq (pv 3) pe_int (nomark _)) (pss_one (ps_ret (pe_tup (pa_cons (pv 1) (pa_cons (pe_tup (pa_cons (pe_ix ix_tup (pv 1) pe_int (by intro _ _; rfl)) (pa_cons pe_int (pa_cons pe_int pa_nil)))) pa_nil))))) pss_nil) (pss_one (ps_ret (pe_tup (pa_cons (pv 1) (pa_cons (pe_tup (pa_cons (pe_ix ix_tup (pv 1) pe_int (by intro _ _; rfl)) (pa_cons (pe_ix ix_list (pv 2) (pe_call F_ulaw_grain (hr.mono (by decide)) rfl T.g_ulaw_grain k_ulaw_grain b_ulaw_grain .nil pass0 (pa_cons (pv 0) (pa_cons (pe_callB call_len_seq rfl T.z_len (by decide +kernel) (pa_cons (pv 2) pa_nil)) pa_nil))) (by intro _ _; rfl)) (pa_cons (pe_ix ix_list (pv 2) (pe_call F_ulaw_grain (hr.mono (by decide)) rfl T.g_ulaw_grain k_ulaw_grain b_ulaw_grain .nil pass0 (pa_cons (pv 0) (pa_cons (pe_callB call_len_seq rfl T.z_len (by decide +kernel) (pa_cons (pv 2) pa_nil)) pa_nil))) (by intro _ _; rfl)) pa_nil)))) pa_nil)))))))))), ?_⟩
    refine ⟨_, rfl, d, rfl, M, fun a b c s H1 ok hs0 hsn M1 b1 => ?_⟩
    obtain ⟨a2, hb, hc⟩ := id ok
    refine ⟨1, 13, rfl, ⟨by decide, by decide, by decide, by decide⟩, fun D hD => ?_⟩
    refine lc_range (lo := 1) (n := 12) (Cw H1 (fun k => decide (Nat.gcd a (k + 1) = 1)) (fun k => V.int (1 + (k : Int))) D) ⟨hD, Ex.new hD, upd_same⟩ (fun k H5 hk p => ?_) (fun H5 p => ?_)
    · refine ⟨rfl, cw_turn p (by omega) (fun H6 e Q q => ?_) (fun _ H6 e Q q => ⟨_, rfl, q H6 (Ex.refl H6)⟩)⟩
      refine ⟨_, rfl, s, _, 0, _, rfl, rfl, SqT.of (e _ _ hs0), rfl, _, rfl, a, k + 1, ?_, ⟨rfl, _, rfl, ?_⟩⟩
      · show [V.int (a : Int), V.int (1 + (k : Int))] = _
        rw [show (1 + (k : Int)) = ((k + 1 : Nat) : Int) by omega]
      · rw [show decide (V.int ((Nat.gcd a (k + 1) : Nat) : Int) = V.int 1) = decide (Nat.gcd a (k + 1) = 1) from decide_eq_decide.mpr ⟨fun z => by injection z with z; omega, fun z => by rw [z]; rfl⟩]
        exact q H6 (Ex.refl H6)
    · obtain ⟨p1, p2, p3⟩ := p
      have e3 : H5 D = some (.lst (nv (fineL a))) := by
        rw [p3]
        unfold given fineL
        rw [nv_map]
        congr 2
        refine List.map_congr_left fun x _ => ?_
        show V.int (1 + (x : Int)) = V.int ((x + 1 : Nat) : Int)
        congr 1
        omega
      have M5 := M1.ext p2
      have b5 : But d H H5 := b1.trans ((show Ext H1 H5 from p2).but d)
      have nDd := mill_new M1 hD
      have ws : SqT K (wo d H5) s [.int a, .int b, .int c] := sqt_wo M5 (SqT.of (p2 _ _ hs0))
      obtain ⟨l1, l2⟩ := fineL_len a
      have hlv : (nv (fineL a)).length = (fineL a).length := List.length_map _
      have fin : ∀ {H6 : Hp} {b2 c2 : Nat}, MillAt H6 d → But d H5 H6 → okRule a b2 c2 → ∀ r, H6 r = none → ∀ p, upd H6 r (.tup [.int a, .int b2, .int c2]) p = none → Q (.ref p) (upd (upd H6 r (.tup [.int a, .int b2, .int c2])) p (.tup [.ref s, .ref r])) := fun {H6 b2 c2} M6 b6 ok2 r hr p hp => by
        have e1 := Ext.new hr (.tup [.int a, .int b2, .int c2])
        have e2 := Ext.new hp (.tup [.ref s, .ref r])
        have M7 := M6.ext e1
        exact q a b c b2 c2 p s r _ ok ok2 (wo_tup (mill_new M7 hp)) (sqt_ext (sqt_ext ws b6.wo) (wo_ext (e1.trans e2))) (sqt_ext (wo_tup (mill_new M6 hr)) (wo_ext e2)) (M7.ext e2) ((b5.trans b6).trans ((e1.trans e2).but d))
      refine ⟨_, rfl, d, 4, rfl, M5, ⟨by decide, by decide⟩, fun k6 H6 hk6 M6 b6 => ?_⟩
      have hs6 : SqT K H6 s [.int a, .int b, .int c] := sqt_ext (sqt_ext ws b6.wo) (wo_le d _)
      have e6 := b6 _ _ e3 nDd
      refine ⟨_, rfl, rfl, _, rfl, ?_⟩
      refine ite2 (fun _ => ?_) (fun _ => ?_)
      · exact ⟨_, rfl, _, rfl, s, _, 0, _, rfl, rfl, hs6, rfl, _, rfl, s, _, 2, _, rfl, rfl, hs6, rfl, _, rfl, s, _, 1, _, rfl, rfl, hs6, rfl, by show 3 ≤ sizeLine; decide, fun r hr => ⟨by show 2 ≤ sizeLine; decide, fun p hp => fin M6 b6 ⟨a2, hc, hb⟩ r hr p hp⟩⟩
      · refine ⟨_, rfl, rfl, _, rfl, ?_⟩
        refine ite2 (fun _ => ?_) (fun _ => ?_)
        · exact ⟨_, rfl, _, rfl, s, _, 0, _, rfl, rfl, hs6, rfl, by show 3 ≤ sizeLine; decide, fun r hr => ⟨by show 2 ≤ sizeLine; decide, fun p hp => fin (b2 := 1) (c2 := 1) M6 b6 ⟨a2, shareB_one a, shareB_one a⟩ r hr p hp⟩⟩
        · have at_ : ∀ (k : Nat), k < (fineL a).length → ∃ c : Nat, (nv (fineL a))[k]? = some (V.int c) ∧ shareB a c = true := fun k hk => ⟨(fineL a)[k], by rw [List.getElem?_map, List.getElem?_eq_getElem hk]; rfl, fineL_mem (List.getElem_mem hk)⟩
          refine ⟨_, rfl, _, rfl, s, _, 0, _, rfl, rfl, hs6, rfl, _, rfl, _, rfl, _, rfl, D, nv (fineL a), rfl, .inl (SqL.of e6), d, _, rfl, M6, ⟨by rw [hlv]; exact l1, by rw [hlv]; omega⟩, fun k7 H7 hk7 M7 b7 => ?_⟩
          obtain ⟨b', ab, sb⟩ := at_ k7 (by rwa [hlv] at hk7)
          have e7 := b7 _ _ e6 nDd
          refine ⟨D, _, k7, _, rfl, rfl, SqL.of e7, atI_nat ab, ?_⟩
          refine ⟨_, rfl, _, rfl, _, rfl, D, nv (fineL a), rfl, .inl (SqL.of e7), d, _, rfl, M7, ⟨by rw [hlv]; exact l1, by rw [hlv]; omega⟩, fun k8 H8 hk8 M8 b8 => ?_⟩
          obtain ⟨c', ac, sc⟩ := at_ k8 (by rwa [hlv] at hk8)
          have e8 := b8 _ _ e7 nDd
          exact ⟨D, _, k8, _, rfl, rfl, SqL.of e8, atI_nat ac, by show 3 ≤ sizeLine; decide, fun r hr => ⟨by show 2 ≤ sizeLine; decide, fun p hp => fin M8 ((b6.trans b7).trans b8) ⟨a2, sb, sc⟩ r hr p hp⟩⟩
/-! ### _law_due -/
/-- the papers that are given, as the law's own judge wants them -/
def DueD (l : Prs) : Apt → Prop
  | .tri t d1 d2 => (t = none ∨ t = some l) ∧ KeyD d1 ∧ Fair2 d2
  | _ => True
def spDue (K : PySem.W.Frag) : Sp := fun vs H Q _ => ∃ (f r ft : Addr) (y : V) (a b c b2 c2 : Nat) (l : Prs) (D : Apt), vs = [.ref f, .ref r, .ref ft, y] ∧ SqT K H f [.int a, .int b, .int c] ∧ SqT K H r [.int a, .int b2, .int c2] ∧ okRule a b c ∧ okRule a b2 c2 ∧ PairsAt K H ft l ∧ FacOk l ∧ AptAt K H y D ∧ DueD l D ∧
  ∀ bb H', (bb = true ↔ AptD a b c a b2 c2 D) → Ext H H' → Q (.bl bb) H'
theorem sc_ulaw_due : FnScope ["_law_fore", "_law_rear", "_law_factors_here", "_law_proof", "_law_near", "_law_far"] ["_law_fore", "_law_rear", "_law_factors_here", "_law_proof"] (defScope s_ulaw_due) := ⟨rfl, rfl, rfl, by decide +kernel, rfl, by decide +kernel, by decide +kernel⟩
theorem ok_ulaw_due (T : Txt K mg) : Ok P w K mg base 4 (He.ga K "_law_due") ["_law_fore", "_law_rear", "_law_factors_here", "_law_proof"] (spDue K) := by
  obtain ⟨fd_ulaw_number_text, F_ulaw_number_text, b_ulaw_number_text, k_ulaw_number_text, _⟩ := (ok_ulaw_number_text (P := P) (w := w) (base := base) T).ex
  obtain ⟨fd_ulaw_core, F_ulaw_core, b_ulaw_core, k_ulaw_core, _⟩ := (ok_ulaw_core (P := P) (w := w) (base := base) T).ex
  obtain ⟨fd_ulaw_leaves, F_ulaw_leaves, b_ulaw_leaves, k_ulaw_leaves, _⟩ := (ok_ulaw_leaves (P := P) (w := w) (base := base) T).ex
  obtain ⟨fd_ulaw_is_step, F_ulaw_is_step, b_ulaw_is_step, k_ulaw_is_step, _⟩ := (ok_ulaw_is_step (P := P) (w := w) (base := base) T).ex
  obtain ⟨fd_ulaw_spans, F_ulaw_spans, b_ulaw_spans, k_ulaw_spans, _⟩ := (ok_ulaw_spans (P := P) (w := w) (base := base) T).ex
  obtain ⟨fd_ulaw_are_rows, F_ulaw_are_rows, b_ulaw_are_rows, k_ulaw_are_rows, _⟩ := (ok_ulaw_are_rows (P := P) (w := w) (base := base) T).ex
  refine fd_ok T.f_ulaw_due sc_ulaw_due (fun vs H Q E h => ?_) (fun _ _ _ _ _ _ us hl => match us, hl with | [_, _, _, _], _ => rfl) (fun cdv A outer s H vs Q E hr h => ?_)
  · obtain ⟨f, r, ft, y, a, b, c, b2, c2, l, D, rfl, _⟩ := h
    rfl
  · obtain ⟨f, r, ft, y, a, b, c, b2, c2, l, D, rfl, hf, hr2, ok, ok2, hpf, fo, hy, hd, q⟩ := h
    have nd := sc_ulaw_due.nd
    refine ⟨_, (pss_cons (ps_if (PW.pt (pw_or (pt_not (pt_val (pe_callB call_isi rfl T.z_isinstance (by decide +kernel) (pa_cons (pv 3) (pa_cons (pe_bltn rfl T.z_tuple (by decide +kernel) (v := .ty "tuple") rfl) pa_nil))))) (pw_or (pt_cmpR op_ne (pe_callB call_len_seq rfl T.z_len (by decide +kernel) (pa_cons (pv 3) pa_nil)) pe_int (nomark _)) (pw_or1 (pt_cmpR op_ne (pe_ix ix_tup (pv 3) pe_int (by intro _ _; rfl)) (pe_call F_ulaw_number_text (hr.mono (by decide)) rfl T.g_ulaw_number_text k_ulaw_number_text b_ulaw_number_text .nil pass0 (pa_cons (pv 2) pa_nil)) (nomark _)))))) (pss_one (ps_ret pe_bl)) pss_nil) (pss_cons (ps_par (i := 4) (j := 5) rfl nd rfl rfl (by decide) rfl rfl (pa_cons (pe_call F_ulaw_core (hr.mono (by decide)) rfl T.g_ulaw_core k_ulaw_core b_ulaw_core .nil pass0 (pa_cons (pv 0) (pa_cons (pv 2) pa_nil))) (pa_cons (pe_call F_ulaw_core (hr.mono (by decide)) rfl T.g_ulaw_core k_ulaw_core b_ulaw_core .nil pass0 (pa_cons (pv 1) (pa_cons (pv 2) pa_nil))) pa_nil)) (by rfl)) (pss_cons (ps_if (PW.pt (pw_or (pt_not (pt_val (pe_call F_ulaw_is_step (hr.mono (by decide)) rfl T.g_ulaw_is_step k_ulaw_is_step b_ulaw_is_step .nil pass0 (pa_cons (pe_call F_ulaw_spans (hr.mono (by decide)) rfl T.g_ulaw_spans k_ulaw_spans b_ulaw_spans .nil pass0 (pa_cons (pv 0) (pa_cons (pe_ix ix_tup (pv 4) pe_int (by intro _ _; rfl)) pa_nil))) (pa_cons (pe_ix ix_tup (pv 3) pe_int (by intro _ _; rfl)) pa_nil))))) (pw_or1 (pt_cmpR op_ne (pe_call F_ulaw_leaves (hr.mono (by decide)) rfl T.g_ulaw_leaves k_ulaw_leaves b_ulaw_leaves .nil pass0 (pa_cons (pe_ix ix_tup (pv 4) pe_int (by intro _ _; rfl)) (pa_cons (pe_ix ix_tup (pv 3) pe_int (by intro _ _; rfl)) pa_nil))) (pe_op op_sub (pe_ix ix_tup (pv 4) pe_int (by intro _ _; rfl)) pe_int) (nomark _))))) (pss_one (ps_ret pe_bl)) pss_nil) (pss_one (ps_ret (pe_call F_ulaw_are_rows (hr.mono (by decide)) rfl T.g_ulaw_are_rows k_ulaw_are_rows b_ulaw_are_rows .nil pass0 (pa_cons (pe_ix ix_tup (pv 5) pe_int (by intro _ _; rfl)) (pa_cons (pe_lst (pa_cons (pe_op op_mod (pe_callTy call_int1 rfl T.z_int (by decide +kernel) (pa_cons pe_int pa_nil)) (pe_ix ix_tup (pv 5) pe_int (by intro _ _; rfl))) pa_nil)) (pa_cons (pe_call F_ulaw_spans (hr.mono (by decide)) rfl T.g_ulaw_spans k_ulaw_spans b_ulaw_spans .nil pass0 (pa_cons (pv 1) (pa_cons (pe_ix ix_tup (pv 5) pe_int (by intro _ _; rfl)) pa_nil))) (pa_cons (pe_ix ix_tup (pv 3) pe_int (by intro _ _; rfl)) pa_nil)))))))))), ?_⟩
    obtain ⟨⟨a1, a2⟩, hb, hc⟩ := id ok
    obtain ⟨_, hb2, hc2⟩ := id ok2
    obtain ⟨bb1, bb2, _⟩ := shareB_bd hb
    obtain ⟨cc1, cc2, _⟩ := shareB_bd hc
    obtain ⟨bb3, bb4, _⟩ := shareB_bd hb2
    obtain ⟨cc3, cc4, _⟩ := shareB_bd hc2
    cases D with
    | lst =>
      obtain ⟨p, xs, rfl, hp⟩ := hy
      exact ⟨_, rfl, _, _, _, _, false, rfl, .ty _, tyx_lst hp, by rfl, false, rfl, iteT (q false H (Iff.intro (fun z => by cases z) fun z => z.elim) (Ext.refl H))⟩
    | two =>
      obtain ⟨p, x0, x1, rfl, hp⟩ := hy
      refine ⟨_, rfl, _, _, _, _, true, rfl, .ty _, tyx_tup hp, kit_tt, true, rfl, iteF ⟨_, rfl, p, _, rfl, .inr hp, rfl, _, rfl, ?_⟩⟩
      show if (!decide (V.int 2 = V.int 3)) = true then _ else _
      rw [decide_eq_false (by intro z; injection z with z; omega)]
      exact iteT (q false H (Iff.intro (fun z => by cases z) fun z => z.elim) (Ext.refl H))
    | tri t d1 d2 =>
      obtain ⟨p, y1, y2, rfl, hp, h1, h2, sm, hfo⟩ := hy
      obtain ⟨ht, kd, fe⟩ := hd
      refine ⟨_, rfl, _, _, _, _, true, rfl, .ty _, tyx_tup hp, kit_tt, true, rfl, iteF ⟨_, rfl, p, _, rfl, .inr hp, rfl, _, rfl, ?_⟩⟩
      show if (!decide (V.int 3 = V.int 3)) = true then _ else _
      rw [decide_eq_true rfl]
      refine iteF ⟨_, rfl, p, _, 0, _, rfl, rfl, hp, rfl, _, rfl, ft, l, rfl, hpf, fo, fun H1 e1 => ?_⟩
      rcases ht with rfl | rfl
      · refine ⟨rfl, _, rfl, ?_⟩
        show if (!decide (V.non = V.str (numT l))) = true then _ else _
        rw [decide_eq_false (by intro z; cases z)]
        exact iteT (q false H1 (Iff.intro (fun z => by cases z) fun z => z.elim) e1)
      refine ⟨rfl, _, rfl, ?_⟩
      show if (!decide (V.str (numT l) = V.str (numT l))) = true then _ else _
      rw [decide_eq_true rfl]
      refine iteF ?_
      obtain ⟨m1, m2', _, _⟩ := mul_le2 (shF_mul l a) (show 1 ≤ a by omega)
      rw [← modF_eq (l := l) (show 1 ≤ a by omega)] at m1 m2'
      have m12 : modF l a ≤ 12 := by omega
      have clasc : (clF l a).Pairwise fun x y => x.1 < y.1 := coreF_asc fo.asc
      have cllen : (clF l a).length ≤ 12 := Nat.le_trans (coreF_len _ _) fo.len
      refine ⟨_, rfl, _, rfl, f, ft, a, b, c, a, l, rfl, sqt_ext hf e1, rfl, hpf.ext e1, fo, ⟨by omega, a2⟩, fun np ntc H2 hnp pnc _ e2 => ?_⟩
      have e12 := e1.trans e2
      refine ⟨_, rfl, _, rfl, r, ft, a, b2, c2, a, l, rfl, sqt_ext hr2 e12, rfl, hpf.ext e12, fo, ⟨by omega, a2⟩, fun fp ftc H3 hfp pfc _ e3 => ⟨_, _, rfl, ?_⟩⟩
      have e13 := e12.trans e3
      have hn3 := SqT.of (K := K) (e3 _ _ hnp)
      have hf3 := SqT.of (K := K) hfp
      refine ⟨_, rfl, _, rfl, np, _, 1, _, rfl, rfl, hn3, rfl, f, ntc, a, b, c, clF l a, rfl, sqt_ext hf e13, ⟨⟨bb1, bb2⟩, cc1, cc2⟩, pnc.ext e3, clasc, cllen, fun sl S H4 tri hS _ e4 => ?_⟩
      have cs := core_spans fo ok hS
      have sl20 := cs.ok.1
      have e14 := e13.trans e4
      refine ⟨_, rfl, p, _, 1, _, rfl, rfl, sqt_ext hp e14, rfl, sl, S, y1, d1, rfl, tri, cs.keys, fun q hq => (cs.pos q hq).1, by omega, h1.ext e14, kd, fun bb H5 hbb e5 => ⟨_, rfl, ?_⟩⟩
      have e15 := e14.trans e5
      cases bb with
      | false =>
        refine iteT (q false H5 (Iff.intro (fun z => by cases z) fun z => ?_) e15)
        obtain ⟨_, S1, S2, z1, _, ⟨L', z3, z4, _⟩, _⟩ := z
        rw [z1.eq hS] at z4
        exact hbb.mpr ⟨L', z3, z4⟩
      | true =>
        refine iteF ?_
        obtain ⟨L', rfl, so⟩ := hbb.mp rfl
        obtain ⟨va, xs, ds, z, rfl, hxs, hxa⟩ := isT_dx (h1.ext e15) rfl
        injection z with z
        subst z
        obtain ⟨qs, rfl, hqp⟩ := pairs_of_dpall hxa
        have e35 := e4.trans e5
        refine ⟨_, rfl, np, _, 0, _, rfl, rfl, sqt_ext hn3 e35, rfl, _, rfl, p, _, 1, _, rfl, rfl, sqt_ext hp e15, rfl, modF l a, va, qs, L', rfl, ⟨m1, m12⟩, hxs, hqp, fun q' hq' => ?_, fun H6 e6 => ?_⟩
        · obtain ⟨_, lo, hi, h1, _⟩ := so.ok q' hq'
          obtain ⟨b', h2, h3, _⟩ := cs.ok.2 _ h1
          exact ⟨b', h2, h3⟩
        have e36 := e35.trans e6
        have e16 := e15.trans e6
        refine ⟨_, rfl, np, _, 0, _, rfl, rfl, sqt_ext hn3 e36, rfl, _, _, rfl, rfl, rfl, _, rfl, ?_⟩
        show if (!decide (V.int (leavesL (modF l a) L' : Nat) = V.int ((modF l a : Nat) - 1 : Int))) = true then _ else _
        by_cases hl : leavesL (modF l a) L' = modF l a - 1
        rotate_left
        · rw [decide_eq_false fun z => hl (by injection z with z; omega)]
          refine iteT (q false H6 (Iff.intro (fun z => by cases z) fun z => ?_) e16)
          obtain ⟨_, S1, S2, _, _, ⟨M', z3, _, z5⟩, _⟩ := z
          injection z3 with z3
          obtain rfl := pairsD_inj z3
          exact absurd z5 hl
        rw [decide_eq_true (by rw [hl]; congr 1; omega)]
        refine iteF ?_
        have hf6 := sqt_ext hf3 e36
        generalize hm : modF l a = m at *
        refine ⟨_, rfl, fp, _, 0, _, rfl, rfl, hf6, rfl, .inl ⟨_, rfl, _, rfl, fp, _, 0, _, rfl, rfl, hf6, rfl, _, _, rfl, rfl, by omega, by show 1 ≤ sizeLine; decide, fun s1 hs1 => ?_⟩⟩
        have em : V.int ((1 : Int) % (m : Int)) = V.int ((1 % m : Nat) : Int) := by rw [Int.natCast_emod]; rfl
        have e7 := Ext.new hs1 (.lst [.int ((1 : Int) % (m : Int))])
        have k7 : SqL K (upd H6 s1 (.lst [.int ((1 : Int) % (m : Int))])) s1 (nv [1 % m]) := SqL.of (by rw [upd_same, em]; rfl)
        generalize upd H6 s1 (.lst [.int ((1 : Int) % (m : Int))]) = H7 at e7 k7 ⊢
        have e17 := e16.trans e7
        refine ⟨_, rfl, _, rfl, fp, _, 1, _, rfl, rfl, sqt_ext hf6 e7, rfl, r, ftc, a, b2, c2, clF l a, rfl, sqt_ext hr2 e17, ⟨⟨bb3, bb4⟩, cc3, cc4⟩, pfc.ext (e36.trans e7), clasc, cllen, fun sl2 S2 H8 tri2 hS2 _ e8 => ?_⟩
        have cs2 := core_spans fo ok2 hS2
        rw [hm] at cs2
        have e18 := e17.trans e8
        refine ⟨_, rfl, p, _, 2, _, rfl, rfl, sqt_ext hp e18, rfl, m, s1, sl2, [1 % m], S2, y2, d2, rfl, ⟨m1, m12⟩, .inl (sql_ext k7 e8), by show 1 ≤ 14; decide, tri2, cs2.ok, Dp.ext e18 _ _ h2, fe, fun bb9 H9 hbb9 e9 => q bb9 H9 ?_ (e18.trans e9)⟩
        rw [hbb9]
        show RowsD m [1 % m] S2 d2 ↔ (a = a ∧ ∃ S1 S2, SpansOf (clF l a) b c S1 ∧ SpansOf (clF l a) b2 c2 S2 ∧ KeyOkD (modF l a) S1 (.tuple (L'.map pairD)) ∧ RowsD (modF l a) [1 % modF l a] S2 d2)
        rw [hm]
        constructor
        · exact fun z => ⟨rfl, S, S2, hS, hS2, ⟨L', rfl, so, hl⟩, z⟩
        · rintro ⟨_, S1, S3, _, z2, _, z4⟩
          rw [z2.eq hS2] at z4
          exact z4
end
end K75

set_option Elab.async false
set_option linter.all false
set_option maxRecDepth 100000
set_option maxHeartbeats 4000000
namespace K75
open PySem PySem.Spec PyProof.Rows L2 Bk Evl
/-! ### rows of small nats, told -/
abbrev dints (M : List Nat) : List PyData := M.map fun k : Nat => PyData.int k
theorem show_ints : ∀ M : List Nat, (∀ k ∈ M, k ≤ 1000) → PyData.showableAll (dints M) = true
  | [], _ => rfl
  | k :: M, h => by
    show (PyData.showable (.int k) && PyData.showableAll (dints M)) = true
    rw [show_ints M fun k hk => h k (List.mem_cons_of_mem _ hk)]
    have h1 := h k List.mem_cons_self
    have h2 : k.log2 ≤ k := Nat.log2_le_self k
    show (decide (((k : Int)).natAbs.log2 < 1920) && true) = true
    rw [decide_eq_true (show ((k : Int)).natAbs.log2 < 1920 by show k.log2 < 1920; omega)]
    rfl
theorem nodict_ints : ∀ M : List Nat, PyData.hasDictAll (dints M) = false
  | [] => rfl
  | k :: M => by
    show (PyData.hasDict (.int k) || PyData.hasDictAll (dints M)) = false
    rw [nodict_ints M]
    rfl
theorem depth_ints : ∀ M : List Nat, PyData.depthAll (dints M) = 0
  | [] => rfl
  | k :: M => by
    show max 0 (PyData.depthAll (dints M)) = 0
    rw [depth_ints M]
    rfl
theorem canlay_ints : ∀ M : List Nat, PyData.canLayAll0 (dints M) = true
  | [] => rfl
  | k :: M => by
    show (true && PyData.canLayAll0 (dints M)) = true
    rw [canlay_ints M]
    rfl
theorem short_ints : ∀ M : List Nat, (∀ k ∈ M, k ≤ 1000) → PyData.intsShortAll 13 (dints M) = true
  | [], _ => rfl
  | k :: M, h => by
    show (decide ((PyData.shown (.int k)).length ≤ 13) && PyData.intsShortAll 13 (dints M)) = true
    have h1 := h k List.mem_cons_self
    rw [short_ints M fun k hk => h k (List.mem_cons_of_mem _ hk), decide_eq_true (PyData.shown_int_le (by omega))]
    rfl
theorem weight_ints : ∀ M : List Nat, (∀ k ∈ M, k ≤ 1000) → PyData.weightAll (dints M) ≤ 1002 * M.length
  | [], _ => Nat.le_refl 0
  | k :: M, h => by
    have h1 := h k List.mem_cons_self
    have h2 := weight_ints M fun k hk => h k (List.mem_cons_of_mem _ hk)
    have wi : PyData.weight (.int k) ≤ 1001 := by
      show (if ((k : Int)) == 0 then 0 else ((k : Int)).natAbs.log2 + 1) ≤ 1001
      have : k.log2 ≤ k := Nat.log2_le_self k
      split
      · omega
      · show k.log2 + 1 ≤ 1001
        omega
    show PyData.weight (.int k) + 1 + PyData.weightAll (dints M) ≤ _
    rw [List.length_cons]
    omega
/-- two equal rows -/
def twice (M : List Nat) : PyData := .list [.tuple (dints M), .tuple (dints M)]
theorem twice_ok {M : List Nat} (h : ∀ k ∈ M, k ≤ 1000) (hl : M.length ≤ 100) : (twice M).showable = true ∧ (twice M).hasDict = false ∧ (twice M).depth ≤ 60 ∧ (twice M).shown.length ≤ sizeLine := by
  refine ⟨?_, ?_, ?_, PyData.shown_fits (B := 13) (by decide) (by decide) (PyData.leavesShort_of_canLay0 13 _ ?_ ?_) ?_⟩
  · show (PyData.showableAll (dints M) && (PyData.showableAll (dints M) && true)) = true
    rw [show_ints M h]
    rfl
  · show (PyData.hasDictAll (dints M) || (PyData.hasDictAll (dints M) || false)) = false
    rw [nodict_ints M]
    rfl
  · show max (PyData.depthAll (dints M) + 1) (max (PyData.depthAll (dints M) + 1) 0) + 1 ≤ 60
    rw [depth_ints]
    decide
  · show (PyData.canLayAll0 (dints M) && (PyData.canLayAll0 (dints M) && true)) = true
    rw [canlay_ints M]
    rfl
  · show (PyData.intsShortAll 13 (dints M) && (PyData.intsShortAll 13 (dints M) && true)) = true
    rw [short_ints M h]
    rfl
  · have hw := weight_ints M h
    show (PyData.weightAll (dints M) + 1 + (PyData.weightAll (dints M) + 1 + 0)) ≤ 2 ^ 20
    have e : (2 : Nat) ^ 20 = 1048576 := by decide
    omega
/-! ### the factors of the integers to 3000 are let -/
def facOkB (l : List (Nat × Nat)) : Bool := decide (l.length ≤ 8) && l.all (fun q => decide (2 ≤ q.1) && decide (q.1 ≤ 1000000) && primeB q.1 && decide (1 ≤ q.2) && decide (q.2 ≤ 40)) && decide (l.Pairwise fun a b => a.1 < b.1)
theorem facOk_3000 : ∀ n : Fin 3001, 1 ≤ n.val → facOkB (facN n.val) = true := by decide +kernel
theorem facOk_of {n : Nat} (h1 : 1 ≤ n) (h2 : n ≤ 3000) : FacOk (toI (facN n)) ∧ (toI (facN n)).length ≤ 8 ∧ ∀ q ∈ toI (facN n), q.2 ≤ 40 := by
  have h := facOk_3000 ⟨n, by omega⟩ h1
  unfold facOkB at h
  rw [Bool.and_eq_true, Bool.and_eq_true] at h
  obtain ⟨⟨l8, al⟩, asc⟩ := h
  have l8 := of_decide_eq_true l8
  have asc := of_decide_eq_true asc
  dsimp only at l8 al asc
  have one : ∀ q ∈ facN n, 2 ≤ q.1 ∧ q.1 ≤ 1000000 ∧ primeB q.1 = true ∧ 1 ≤ q.2 ∧ q.2 ≤ 40 := fun q hq => by
    have z := List.all_eq_true.mp al q hq
    rw [Bool.and_eq_true, Bool.and_eq_true, Bool.and_eq_true, Bool.and_eq_true] at z
    obtain ⟨⟨⟨⟨z1, z2⟩, z3⟩, z4⟩, z5⟩ := z
    exact ⟨of_decide_eq_true z1, of_decide_eq_true z2, z3, of_decide_eq_true z4, of_decide_eq_true z5⟩
  have len : (toI (facN n)).length = (facN n).length := List.length_map _
  refine ⟨⟨by omega, fun q hq => ?_, ?_⟩, by omega, fun q hq => ?_⟩
  · obtain ⟨y, hy, rfl⟩ := List.mem_map.mp hq
    obtain ⟨z1, z2, z3, z4, z5⟩ := one y hy
    have t : (10 : Int) ^ 30 ≥ 40 := by decide
    exact ⟨y.1, rfl, z1, z2, z3, by dsimp only; omega, by dsimp only; omega⟩
  · unfold toI
    rw [List.pairwise_map]
    exact asc.imp fun {a b} h => Int.ofNat_lt.mpr h
  · obtain ⟨y, hy, rfl⟩ := List.mem_map.mp hq
    have := (one y hy).2.2.2.2
    dsimp only
    omega
end K75

set_option Elab.async false
set_option linter.all false
set_option maxRecDepth 100000
set_option maxHeartbeats 4000000
namespace K75
open PySem PySem.Spec PyProof.Rows L2 Bk Evl
theorem facN_len2F : ∀ b : Fin 13, (toI (facN b.val)).length ≤ 2 := by decide +kernel
theorem spans_len12 {cl : Prs} {b c : Nat} {L : Trs} (h : SpansOf cl b c L) (hc : cl.length ≤ 8) (b2 : b ≤ 12) (c2 : c ≤ 12) : L.length ≤ 12 := by
  have hn : (L.map (·.1)).Nodup := List.pairwise_map.mpr (h.asc.imp fun {x y} z => by omega)
  have hs := List.Nodup.length_le_of_subset hn (l₂ := cl.map (·.1) ++ ((toI (facN b)).map (·.1) ++ (toI (facN c)).map (·.1))) fun x hx => by
    rw [List.mem_append, List.mem_append]
    exact (h.keys x).mp hx
  rw [List.length_map, List.length_append, List.length_append, List.length_map, List.length_map, List.length_map] at hs
  have h2 := facN_len2F ⟨b, by omega⟩
  have h3 := facN_len2F ⟨c, by omega⟩
  dsimp only at h2 h3
  omega
section
variable {P : Program} {w : World} {K : PySem.W.Frag} {mg : Str → Option Value} {base : Heap}
theorem plt_wo {H : Hp} {d a : Addr} {xs : List V} (M : MillAt H d) (h : PlT K H a xs) : PlT K (wo d H) a xs := by
  rcases h with ⟨o, e, r⟩ | h
  · exact .inl ⟨o, wo_of e (mill_ne M e (by intro _ z; cases z)), r⟩
  · exact .inr h
theorem pairs_wo {H : Hp} {d a : Addr} {L : Prs} (M : MillAt H d) (h : PairsAt K H a L) : PairsAt K (wo d H) a L := by
  obtain ⟨ps, h1, h2⟩ := h
  exact ⟨ps, plt_wo M h1, L2.Paired.mapP h2 fun p q z => sqt_wo M z⟩
theorem tris_wo {H : Hp} {d a : Addr} {S : Sps3} (M : MillAt H d) (n : a ≠ d) (h : TrisAt H a S) : TrisAt (wo d H) a S := by
  obtain ⟨ts, h1, h2⟩ := h
  exact ⟨ts, wo_of h1 n, L2.Paired.mapP h2 fun p q z => wo_of z (mill_ne M z (by intro _ z; cases z))⟩
theorem dp_wo {H : Hp} {d t : Addr} {ts : List Addr} {rows : List (List Nat)} (M : MillAt H d) (h : SqT K H t (ts.map V.ref)) (p : Paired (fun p r => SqT K H p (nv r)) ts rows) : SqT K (wo d H) t (ts.map V.ref) ∧ Paired (fun p r => SqT K (wo d H) p (nv r)) ts rows := ⟨sqt_wo M h, L2.Paired.mapP p fun p r z => sqt_wo M z⟩
end
end K75

set_option Elab.async false
set_option linter.all false
set_option maxRecDepth 100000
set_option maxHeartbeats 8000000
namespace K75
open PySem PySem.Spec PyProof.Rows L2 Bk Evl
theorem other_ok : ∀ a : Fin 13, 2 ≤ a.val → shareB (if a.val < 12 then 13 - a.val else 11) 1 = true := by decide +kernel
section
variable {P : Program} {w : World} {K : PySem.W.Frag} {mg : Str → Option Value} {base : Heap}
theorem dx_key {H : Hp} {p : Addr} {ps : List Addr} {L : Prs} (h : KeyIn K H p ps L) (hl : L.length ≤ 20) : KeyAt K H (.ref p) := by
  have := h.2.length
  exact key_tup h.1 (by rw [List.length_map]; omega) h.els
/-! ### _law_right of the papers of rules apart -/
def spRight (K : PySem.W.Frag) (w : World) : Sp := fun vs H Q _ => TabT K w ∧ ∃ d : Addr, vs = [.ref d] ∧ MillAt H d ∧ ∀ H', MillAt H' d → But d H H' → Q (.bl true) H'
theorem sc_ulaw_right : FnScope ["_law_mill_here", "_law_fore", "_law_rear", "_law_saying", "_law_turn", "_law_factors_here", "_law_told", "_law_far", "_law_rows_here", "_law_text_here", "_law_good", "_law_k", "_law_some", "_law_proof", "_law_other"] ["_law_mill_here"] (defScope s_ulaw_right) := ⟨rfl, rfl, rfl, by decide +kernel, rfl, by decide +kernel, by decide +kernel⟩
theorem ok_ulaw_right (T : Txt K mg) : OkG P w K mg base 11 (He.ga K "_law_right") ["_law_mill_here"] (spRight K w) := by
  obtain ⟨fd_ulaw_two, F_ulaw_two, b_ulaw_two, k_ulaw_two, _⟩ := (ok_ulaw_two (P := P) (w := w) (base := base) T).ex
  obtain ⟨fd_ulaw_text, F_ulaw_text, b_ulaw_text, k_ulaw_text, _⟩ := (ok_ulaw_text (P := P) (w := w) (base := base) T).ex
  obtain ⟨fd_ulaw_split, F_ulaw_split, b_ulaw_split, k_ulaw_split, _⟩ := (ok_ulaw_split (P := P) (w := w) (base := base) T).ex
  obtain ⟨fd_ulaw_grain, F_ulaw_grain, b_ulaw_grain, k_ulaw_grain, _⟩ := (ok_ulaw_grain (P := P) (w := w) (base := base) T).ex
  obtain ⟨fd_ulaw_great, F_ulaw_great, b_ulaw_great, k_ulaw_great, _⟩ := (ok_ulaw_great (P := P) (w := w) (base := base) T).ex
  obtain ⟨fd_ulaw_core, F_ulaw_core, b_ulaw_core, k_ulaw_core, _⟩ := (ok_ulaw_core (P := P) (w := w) (base := base) T).ex
  obtain ⟨fd_key, F_key, b_key, k_key, _⟩ := (ok_key (P := P) (w := w) (base := base) T).ex
  obtain ⟨fd_Number_init, F_Number_init, b_Number_init, k_Number_init, _⟩ := (ok_Number_init (P := P) (w := w) (base := base) T).ex
  obtain ⟨fd_ulaw_made, F_ulaw_made, b_ulaw_made, k_ulaw_made, _⟩ := (ok_ulaw_made (P := P) (w := w) (base := base) T).ex
  obtain ⟨fd_ulaw_rows, F_ulaw_rows, b_ulaw_rows, k_ulaw_rows, _⟩ := (ok_ulaw_rows (P := P) (w := w) (base := base) T).ex
  obtain ⟨fd_ulaw_spans, F_ulaw_spans, b_ulaw_spans, k_ulaw_spans, _⟩ := (ok_ulaw_spans (P := P) (w := w) (base := base) T).ex
  obtain ⟨fd_ulaw_number_text, F_ulaw_number_text, b_ulaw_number_text, k_ulaw_number_text, _⟩ := (ok_ulaw_number_text (P := P) (w := w) (base := base) T).ex
  obtain ⟨fd_ulaw_bent_key, F_ulaw_bent_key, b_ulaw_bent_key, k_ulaw_bent_key, _⟩ := (ok_ulaw_bent_key (P := P) (w := w) (base := base) T).ex
  obtain ⟨fd_ulaw_bent_rows, F_ulaw_bent_rows, b_ulaw_bent_rows, k_ulaw_bent_rows, _⟩ := (ok_ulaw_bent_rows (P := P) (w := w) (base := base) T).ex
  obtain ⟨fd_ulaw_due, F_ulaw_due, b_ulaw_due, k_ulaw_due, _⟩ := (ok_ulaw_due (P := P) (w := w) (base := base) T).ex
  refine fd_okG T.f_ulaw_right sc_ulaw_right (fun vs H Q h => ?_) (fun _ _ _ _ _ _ us hl => match us, hl with | [_], _ => rfl) (fun cdv A outer s H vs Q hr hG h => ?_)
  · obtain ⟨tw, d, rfl, _⟩ := h
    rfl
  · obtain ⟨tw, d, rfl, M0, q⟩ := h
    have nd := sc_ulaw_right.nd
    refine ⟨_, (pss_cons (ps_asg (pe_call F_ulaw_two (hr.mono (by decide)) rfl T.g_ulaw_two k_ulaw_two b_ulaw_two .nil pass0 (pa_cons (pv 0) pa_nil)) (pg_tup rfl (pgs_cons (pg_name (i := 1) nd rfl (Or.inl rfl)) (pgs_cons (pg_name (i := 2) nd rfl (Or.inl rfl)) pgs_nil)))) (pss_cons (ps_set (i := 3) nd rfl (Or.inl rfl) (pe_tup (pa_cons pe_str (pa_cons (pe_call F_ulaw_text (hr.mono (by decide)) rfl T.g_ulaw_text k_ulaw_text b_ulaw_text .nil pass0 (pa_cons (pv 1) pa_nil)) (pa_cons (pe_call F_ulaw_text (hr.mono (by decide)) rfl T.g_ulaw_text k_ulaw_text b_ulaw_text .nil pass0 (pa_cons (pv 2) pa_nil)) pa_nil))))) (pss_cons (ps_for PassesOwn.never rfl (pi_range1 rfl T.z_range (pa_cons pe_int pa_nil)) (pg_name (i := 4) nd rfl (Or.inl rfl)) (Evl.pss_cut (ps_set (i := 5) nd rfl (Or.inl rfl) (pe_ifExp (pt_cmpR op_lt (pv 4) pe_int (nomark _)) (pe_call F_ulaw_split (hr.mono (by decide)) rfl T.g_ulaw_split k_ulaw_split b_ulaw_split .nil pass0 (pa_cons (pe_op op_add pe_int (pe_call F_ulaw_grain (hr.mono (by decide)) rfl T.g_ulaw_grain k_ulaw_grain b_ulaw_grain .nil pass0 (pa_cons (pv 0) (pa_cons pe_int pa_nil)))) pa_nil)) (pe_call F_ulaw_great (hr.mono (by decide)) rfl T.g_ulaw_great k_ulaw_great b_ulaw_great .nil pass0 (pa_cons (pv 0) (pa_cons pe_int pa_nil))))) (Evl.pss_cut (ps_par (i := 6) (j := 7) rfl nd rfl rfl (by decide) rfl rfl (pa_cons (pe_call F_key (hr.mono (by decide)) rfl T.g_key k_key b_key .nil pass0 (pa_cons (pe_call F_ulaw_made (hr.mono (by decide)) rfl T.g_ulaw_made k_ulaw_made b_ulaw_made .nil pass0 (pa_cons (pv 1) pa_nil)) (pa_cons (pe_make T.mk_Number F_Number_init (hr.mono (by decide)) rfl T.g_Number b_Number_init .nil pass0 (pa_cons (pv 5) pa_nil)) pa_nil))) (pa_cons (pe_call F_ulaw_core (hr.mono (by decide)) rfl T.g_ulaw_core k_ulaw_core b_ulaw_core .nil pass0 (pa_cons (pv 2) (pa_cons (pv 5) pa_nil))) pa_nil)) (by rfl)) (pss_cons (ps_set (i := 8) nd rfl (Or.inl rfl) (pe_call F_ulaw_rows (hr.mono (by decide)) rfl T.g_ulaw_rows k_ulaw_rows b_ulaw_rows .nil pass0 (pa_cons (pe_ix ix_tup (pv 7) pe_int (by intro _ _; rfl)) (pa_cons (pe_lst (pa_cons (pe_op op_mod (pe_callTy call_int1 rfl T.z_int (by decide +kernel) (pa_cons pe_int pa_nil)) (pe_ix ix_tup (pv 7) pe_int (by intro _ _; rfl))) pa_nil)) (pa_cons (pe_call F_ulaw_spans (hr.mono (by decide)) rfl T.g_ulaw_spans k_ulaw_spans b_ulaw_spans .nil pass0 (pa_cons (pv 2) (pa_cons (pe_ix ix_tup (pv 7) pe_int (by intro _ _; rfl)) pa_nil))) pa_nil))))) (pss_cons (ps_set (i := 9) nd rfl (Or.inl rfl) (pe_call F_ulaw_number_text (hr.mono (by decide)) rfl T.g_ulaw_number_text k_ulaw_number_text b_ulaw_number_text .nil pass0 (pa_cons (pv 5) pa_nil))) (Evl.pss_cut (ps_set (i := 10) nd rfl (Or.inl rfl) (pe_tup (pa_cons (pv 9) (pa_cons (pe_ifExp (pt_cmpR op_notN (pv 6) pe_non (nomark _)) (pv 6) (pe_tupP pa_nil)) (pa_cons (pv 8) pa_nil))))) (Evl.pss_cut (ps_for PassesOwn.never rfl (pi_range1 rfl T.z_range (pa_cons pe_int pa_nil)) (pg_name (i := 11) nd rfl (Or.inl rfl)) (pss_cons (ps_set (i := 12) nd rfl (Or.inl rfl) (pe_lst (pa_cons (pv 10) (pa_cons (pv 10) (pa_cons (pe_tup (pa_cons (pv 9) (pa_cons (pe_call F_ulaw_bent_key (hr.mono (by decide)) rfl T.g_ulaw_bent_key k_ulaw_bent_key b_ulaw_bent_key .nil pass0 (pa_cons (pv 0) (pa_cons (pe_ix ix_tup (pv 10) pe_int (by intro _ _; rfl)) pa_nil))) (pa_cons (pv 8) pa_nil)))) (pa_cons (pe_slice sl_tupA (pv 10) po_none (po_some pe_int)) (pa_cons (pe_callTy call_list_of rfl T.z_list (by decide +kernel) (pa_cons (pv 10) pa_nil)) pa_nil))))))) (Evl.pss_cut (ps_set (i := 13) nd rfl (Or.inl rfl) (pe_ix ix_list (pe_op op_cat (pv 12) (pe_lst (pa_cons (pe_op op_catA (pe_tup (pa_cons pe_non pa_nil)) (pe_slice sl_tupA (pv 10) (po_some pe_int) po_none)) (pa_cons (pe_tup (pa_cons (pv 9) (pa_cons (pe_ix ix_tup (pv 10) pe_int (by intro _ _; rfl)) (pa_cons (pe_call F_ulaw_bent_rows (hr.mono (by decide)) rfl T.g_ulaw_bent_rows k_ulaw_bent_rows b_ulaw_bent_rows .nil pass0 (pa_cons (pv 0) (pa_cons (pv 8) (pa_cons (pe_ix ix_tup (pv 7) pe_int (by intro _ _; rfl)) pa_nil)))) pa_nil)))) pa_nil)))) (pv 11) (by intro _ _; rfl))) (pss_one (ps_if (pt_cmpR op_ne (pe_callG (ok_ulaw_asked T) (hr.mono (by decide)) hG rfl T.g_ulaw_asked (pa_cons (pv 3) (pa_cons (pv 13) pa_nil))) (pe_call F_ulaw_due (hr.mono (by decide)) rfl T.g_ulaw_due k_ulaw_due b_ulaw_due .nil pass0 (pa_cons (pv 1) (pa_cons (pv 2) (pa_cons (pv 5) (pa_cons (pv 13) pa_nil))))) (nomark _)) (pss_one (ps_ret pe_bl)) pss_nil))))) (Evl.pss_cut (ps_set (i := 14) nd rfl (Or.inl rfl) (pe_tup (pa_cons pe_str (pa_cons (pe_call F_ulaw_text (hr.mono (by decide)) rfl T.g_ulaw_text k_ulaw_text b_ulaw_text .nil pass0 (pa_cons (pv 1) pa_nil)) (pa_cons (pe_call F_ulaw_text (hr.mono (by decide)) rfl T.g_ulaw_text k_ulaw_text b_ulaw_text .nil pass0 (pa_cons (pe_tup (pa_cons (pe_ifExp (pt_cmpR op_lt (pe_ix ix_tup (pv 1) pe_int (by intro _ _; rfl)) pe_int (nomark _)) (pe_op op_sub pe_int (pe_ix ix_tup (pv 1) pe_int (by intro _ _; rfl))) pe_int) (pa_cons pe_int (pa_cons pe_int pa_nil)))) pa_nil)) pa_nil))))) (pss_one (ps_if (PW.pt (pw_and (pt_cmpR op_ne (pe_slice sl_str (pe_ix ix_tup (pv 14) pe_int (by intro _ _; rfl)) po_none (po_some pe_int)) (pe_slice sl_str (pe_ix ix_tup (pv 3) pe_int (by intro _ _; rfl)) po_none (po_some pe_int)) (nomark _)) (pw_and1 (pt_cmpR op_notBl (pe_callG (ok_ulaw_asked T) (hr.mono (by decide)) hG rfl T.g_ulaw_asked (pa_cons (pv 14) (pa_cons (pv 10) pa_nil))) pe_bl (nomark _))))) (pss_one (ps_ret pe_bl)) pss_nil)))))))))) (pss_one (ps_ret pe_bl))))), ?_⟩
    refine ⟨_, rfl, d, rfl, M0, fun a b c b2 c2 p f r H1 ok ok2 wp wf wr M1 b1 => ⟨p, _, rfl, sqt_ext wp (wo_le d _), rfl, _, _, rfl, _, _, rfl, rfl, ?_⟩⟩
    obtain ⟨⟨a1, a2⟩, hb, hc⟩ := id ok
    obtain ⟨_, hb2, hc2⟩ := id ok2
    obtain ⟨bb1, bb2, _⟩ := shareB_bd hb
    obtain ⟨cc1, cc2, _⟩ := shareB_bd hc
    obtain ⟨bb3, bb4, _⟩ := shareB_bd hb2
    obtain ⟨cc3, cc4, _⟩ := shareB_bd hc2
    refine ⟨_, rfl, f, a, b, c, rfl, sqt_ext wf (wo_le d _), ⟨a2, bb2, cc2⟩, _, rfl, r, a, b2, c2, rfl, sqt_ext wr (wo_le d _), ⟨a2, bb4, cc4⟩, by show 3 ≤ sizeLine; decide, fun sy hsy => ?_⟩
    have e2 := Ext.new hsy (.tup [.str "apart", .str (ruleT a b c), .str (ruleT a b2 c2)])
    have wsy : SqT K (wo d (upd H1 sy (.tup [.str "apart", .str (ruleT a b c), .str (ruleT a b2 c2)]))) sy [.str "apart", .str (ruleT a b c), .str (ruleT a b2 c2)] := wo_tup (mill_new M1 hsy)
    have Ms := M1.ext e2
    have bs := b1.trans (e2.but d)
    have wf := sqt_ext wf (wo_ext e2)
    have wr := sqt_ext wr (wo_ext e2)
    generalize upd H1 sy (.tup [.str "apart", .str (ruleT a b c), .str (ruleT a b2 c2)]) = Hs at *
    clear wp M1 b1 e2 hsy
    have keepA : ∀ {H' : Hp}, But d Hs H' → SqT K (wo d H') f [.int a, .int b, .int c] ∧ SqT K (wo d H') r [.int a, .int b2, .int c2] ∧ SqT K (wo d H') sy [.str "apart", .str (ruleT a b c), .str (ruleT a b2 c2)] := fun k => ⟨sqt_ext wf k.wo, sqt_ext wr k.wo, sqt_ext wsy k.wo⟩
    refine ⟨5, rfl, by decide, by decide, ?_⟩
    refine for_range (lo := 0) (n := 5) (fun i σ H' => ∃ u4 u5 u6 u7 u8 u9 u10 u11 u12 u13 u14 : Option V, σ = [some (.ref d), some (.ref f), some (.ref r), some (.ref sy), u4, u5, u6, u7, u8, u9, u10, u11, u12, u13, u14] ∧ MillAt H' d ∧ But d Hs H')
      ⟨_, _, _, _, _, _, _, _, _, _, _, rfl, Ms, But.refl d Hs⟩ ?_ ?_
    · rintro i σ H0 hi ⟨u4, u5, u6, u7, u8, u9, u10, u11, u12, u13, u14, rfl, M, b0⟩
      -- the factors
      refine ⟨fun σ' H' => ∃ (ft : Addr) (l : Prs), σ' = [some (.ref d), some (.ref f), some (.ref r), some (.ref sy), some (.int (0 + (i : Int))), some (.ref ft), u6, u7, u8, u9, u10, u11, u12, u13, u14] ∧ PairsAt K (wo d H') ft l ∧ FacOk l ∧ l.length ≤ 8 ∧ MillAt H' d ∧ But d H0 H', ?_, ?_⟩
      · refine ⟨_, rfl, _, _, rfl, rfl, _, rfl, ?_⟩
        refine ite2 (fun _ => ?_) (fun _ => ?_)
        · refine ⟨_, rfl, d, 3000, rfl, M, ⟨by decide, by decide⟩, fun k4 H4 hk4 M4 b4 => ⟨_, _, rfl, rfl, 1 + k4, ?_, ⟨by omega, by omega⟩, fun ft H5 pf _ e5 => ?_⟩⟩
          · show [V.int ((1 : Int) + (k4 : Int))] = _
            rw [show (1 : Int) + (k4 : Int) = ((1 + k4 : Nat) : Int) by omega]
          · exact ⟨ft, _, rfl, pairs_wo (M4.ext e5) pf, (facOk_of (n := 1 + k4) (by omega) (by omega)).1, (facOk_of (n := 1 + k4) (by omega) (by omega)).2.1, M4.ext e5, b4.trans (e5.but d)⟩
        · refine ⟨_, rfl, d, 4, rfl, M, by decide, fun l t H6 pt fo hl ht _ M6 b6 => ?_⟩
          exact ⟨t, l, rfl, pairs_wo M6 pt, fo, by omega, M6, b6⟩
      rintro σ' H2 ⟨ft, l, rfl, wpf, fo, fl8, M2, b2⟩
      have b02 := b0.trans b2
      obtain ⟨m1, m2', _, _⟩ := mul_le2 (shF_mul l a) (show 1 ≤ a by omega)
      rw [← modF_eq (l := l) (show 1 ≤ a by omega)] at m1 m2'
      have m12 : modF l a ≤ 12 := by omega
      have clasc : (clF l a).Pairwise fun x y => x.1 < y.1 := coreF_asc fo.asc
      have cllen : (clF l a).length ≤ 12 := Nat.le_trans (coreF_len _ _) fo.len
      clear M b0 b2
      -- what is told, the other core
      refine ⟨fun σ' H' => ∃ (fp tc : Addr) (tv : V), σ' = [some (.ref d), some (.ref f), some (.ref r), some (.ref sy), some (.int (0 + (i : Int))), some (.ref ft), some tv, some (.ref fp), u8, u9, u10, u11, u12, u13, u14] ∧ SqT K (wo d H') fp [.int (modF l a), .ref tc] ∧ PairsAt K (wo d H') tc (clF l a) ∧ (tv = .non ∨ ∃ tt ps tL, tv = .ref tt ∧ KeyIn K (wo d H') tt ps tL ∧ tL.length ≤ 20 ∧ ∀ q ∈ tL, q.1.natAbs < 2 ^ 60 ∧ q.2.natAbs < 2 ^ 1000) ∧ MillAt H' d ∧ Ext H2 H', ?_, ?_⟩
      · have kA := keepA b02
        refine ⟨_, rfl, f, a, b, c, rfl, sqt_ext kA.1 (wo_le d _), ok, fun ru H7 Ru e7 => ?_⟩
        refine ⟨_, rfl, ?_⟩
        intro n dn hn hdn nn
        have e78 : Ext H7 (upd (upd H7 dn (.own n)) n (.ins (CN K) dn [])) := fun x o e => by
          rw [upd_ne (ne_of_none e hn), upd_ne (ne_of_none e hdn)]
          exact e
        have pf7 := (wpf.ext (wo_ext e7)).ext (wo_le d _)
        refine ⟨n, ft, dn, l, rfl, upd_same, pf7.ext e78, fo, fun H8 hn8 k8 => ⟨rfl, ?_⟩⟩
        have e8 : Ext H7 H8 := fun x o e => k8 x o (e78 _ _ e) (ne_of_none e hn)
        have N8 : NumAt K H8 n l (valueP l) := ⟨dn, ft, hn8, pf7.ext e8⟩
        have kr : ∀ {H9 : Hp}, Ext H8 H9 → SqT K H9 r [.int a, .int b2, .int c2] := fun e9 => sqt_ext (sqt_ext kA.2.1 (wo_ext ((e7.trans e8).trans e9))) (wo_le d _)
        refine ⟨ru, n, a, b, c, l, _, rfl, Ru.ext e8, ok, N8, fo, fun H9 e9 => ⟨_, rfl, _, rfl, r, ft, a, b2, c2, a, l, rfl, kr e9, rfl, pf7.ext (e8.trans e9), fo, ⟨by omega, a2⟩, fun fp tc H' hfp pcl _ e' => ⟨_, _, rfl, ?_⟩⟩, fun t ps tL H9 hk hl hb e9 => ⟨_, rfl, _, rfl, r, ft, a, b2, c2, a, l, rfl, kr e9, rfl, pf7.ext (e8.trans e9), fo, ⟨by omega, a2⟩, fun fp tc H' hfp pcl _ e' => ⟨_, _, rfl, ?_⟩⟩⟩
        · have e29 := ((e7.trans e8).trans e9).trans e'
          exact ⟨fp, tc, .non, rfl, sqt_wo (M2.ext e29) (SqT.of hfp), pairs_wo (M2.ext e29) pcl, .inl rfl, M2.ext e29, e29⟩
        · have e29 := ((e7.trans e8).trans e9).trans e'
          exact ⟨fp, tc, .ref t, rfl, sqt_wo (M2.ext e29) (SqT.of hfp), pairs_wo (M2.ext e29) pcl, .inr ⟨t, ps, tL, rfl, (hk.ext e').wo (M2.ext e29), hl, hb⟩, M2.ext e29, e29⟩
      rintro σ' H3 ⟨fp, tc, tv, rfl, wfp, wtc, htv, M3, e23⟩
      have b03 := b02.trans (e23.but d)
      have wpf := wpf.ext (wo_ext e23)
      generalize hm : modF l a = m at *
      clear M2 b02 e23
      -- the rows
      have hf3 := sqt_ext wfp (wo_le d _)
      refine ⟨_, rfl, fp, _, 0, _, rfl, rfl, hf3, rfl, .inl ⟨_, rfl, _, rfl, fp, _, 0, _, rfl, rfl, hf3, rfl, _, _, rfl, rfl, by omega, by show 1 ≤ sizeLine; decide, fun s1 hs1 => ?_⟩⟩
      have em : V.int ((1 : Int) % (m : Int)) = V.int ((1 % m : Nat) : Int) := by rw [Int.natCast_emod]; rfl
      have e4 := Ext.new hs1 (.lst [.int ((1 : Int) % (m : Int))])
      have k4 : SqL K (upd H3 s1 (.lst [.int ((1 : Int) % (m : Int))])) s1 (nv [1 % m]) := SqL.of (by rw [upd_same, em]; rfl)
      generalize upd H3 s1 (.lst [.int ((1 : Int) % (m : Int))]) = H4 at e4 k4 ⊢
      have b04 := b03.trans (e4.but d)
      have l1m : 1 % m ≤ 12 := by have := Nat.mod_lt 1 m1; omega
      refine ⟨_, rfl, _, rfl, fp, _, 1, _, rfl, rfl, sqt_ext hf3 e4, rfl, r, tc, a, b2, c2, clF l a, rfl, sqt_ext (keepA b04).2.1 (wo_le d _), ⟨⟨bb3, bb4⟩, cc3, cc4⟩, (wtc.ext (wo_le d _)).ext e4, clasc, cllen, fun sl S H5 tri hS _ e5 => ?_⟩
      have cs := core_spans fo ok2 hS
      rw [hm] at cs
      have sl12 := spans_len12 hS (Nat.le_trans (coreF_len _ _) fl8) bb4 cc4
      refine ⟨m, s1, sl, [1 % m], S, rfl, ⟨m1, m12⟩, .inl (sql_ext k4 e5), ⟨by show 1 ≤ 14; decide, fun x hx => by rw [List.mem_singleton.mp hx]; exact l1m⟩, tri, cs.ok, fun rt rows H6 hdp hlen hrs e6 => ?_⟩
      have e36 := (e4.trans e5).trans e6
      have M6 := M3.ext e36
      have b06 := b03.trans (e36.but d)
      have wfp := sqt_ext wfp (wo_ext e36)
      have wpf := wpf.ext (wo_ext e36)
      cases hdp with
      | tup hrw hda =>
        obtain ⟨ts, rfl, hpr⟩ := paired_of hda
        obtain ⟨wrt, wpr⟩ := dp_wo M6 hrw hpr
        have htv : tv = .non ∨ ∃ tt ps tL, tv = .ref tt ∧ KeyIn K (wo d H6) tt ps tL ∧ tL.length ≤ 20 ∧ ∀ q ∈ tL, q.1.natAbs < 2 ^ 60 ∧ q.2.natAbs < 2 ^ 1000 := htv.imp id fun ⟨tt, ps, tL, z1, z2, z3⟩ => ⟨tt, ps, tL, z1, z2.ext (wo_ext e36), z3⟩
        clear k4 tri e4 e5 e6 b04 hf3 M3 e36 hrw hda hpr b03 wtc
        -- the text
        refine ⟨_, rfl, ft, l, rfl, wpf.ext (wo_le d _), fo, fun H7 e7 => ?_⟩
        have M7 := M6.ext e7
        -- the good paper
        refine ⟨fun σ' H' => ∃ (gd p0 : Addr) (ps : List Addr) (L0 : Prs), σ' = [some (.ref d), some (.ref f), some (.ref r), some (.ref sy), some (.int (0 + (i : Int))), some (.ref ft), some tv, some (.ref fp), some (.ref rt), some (.str (numT l)), some (.ref gd), u11, u12, u13, u14] ∧ SqT K (wo d H') gd [.str (numT l), .ref p0, .ref rt] ∧ KeyIn K (wo d H') p0 ps L0 ∧ L0.length ≤ 20 ∧ (∀ q ∈ L0, q.1.natAbs < 2 ^ 60 ∧ q.2.natAbs < 2 ^ 1000) ∧ MillAt H' d ∧ Ext H7 H', ?_, ?_⟩
        · rcases htv with rfl | ⟨tt, ps, tL, rfl, hkt, hl, hb⟩
          · refine ⟨_, rfl, _, rfl, rfl, _, rfl, ?_⟩
            refine iteF ⟨by show 0 ≤ sizeLine; decide, fun t0 o0 ht0 oc0 od0 => ?_⟩
            have e8 := Ext.new ht0 (.frz o0 (.tup []))
            have w0 : KeyIn K (wo d (upd H7 t0 (.frz o0 (.tup [])))) t0 [] [] := ⟨sqt_wo (M7.ext e8) ((plt_new (K := K) oc0 od0).sqt), .nil⟩
            have M8 := M7.ext e8
            generalize upd H7 t0 (.frz o0 (.tup [])) = H8 at *
            refine ⟨_, rfl, by show 3 ≤ sizeLine; decide, fun gd hgd => ?_⟩
            have e9 := Ext.new hgd (.tup [.str (numT l), .ref t0, .ref rt])
            exact ⟨gd, t0, [], [], rfl, wo_tup (mill_new M8 hgd), w0.ext (wo_ext e9), Nat.zero_le _, fun q h => (by cases h), M8.ext e9, e8.trans e9⟩
          · refine ⟨_, rfl, _, rfl, rfl, _, rfl, ?_⟩
            rw [decide_eq_false (by intro z; cases z)]
            refine iteT ⟨_, rfl, _, rfl, by show 3 ≤ sizeLine; decide, fun gd hgd => ?_⟩
            have e9 := Ext.new hgd (.tup [.str (numT l), .ref tt, .ref rt])
            exact ⟨gd, tt, ps, tL, rfl, wo_tup (mill_new M7 hgd), (hkt.ext (wo_ext e7)).ext (wo_ext e9), hl, hb, M7.ext e9, e9⟩
        rintro σ' H8 ⟨gd, p0, ps, L0, rfl, wgd, wk0, hl0, hb0, M8, e78⟩
        have e68 := e7.trans e78
        have b08 := b06.trans (e68.but d)
        have wfp := sqt_ext wfp (wo_ext e68)
        have wpf := wpf.ext (wo_ext e68)
        have wrt := sqt_ext wrt (wo_ext e68)
        have wpr : Paired (fun p r => SqT K (wo d H8) p (nv r)) ts rows := L2.Paired.mapP wpr fun p r z => sqt_ext z (wo_ext e68)
        obtain ⟨dk, wdk, kdk⟩ := dx_key wk0 hl0
        clear M6 M7 b06 e7 e78 e68 htv
        have keepB : ∀ {H' : Hp}, But d H8 H' → SqT K (wo d H') gd [.str (numT l), .ref p0, .ref rt] ∧ KeyIn K (wo d H') p0 ps L0 ∧ SqT K (wo d H') rt (ts.map V.ref) ∧ Paired (fun p r => SqT K (wo d H') p (nv r)) ts rows ∧ SqT K (wo d H') fp [.int m, .ref tc] ∧ PairsAt K (wo d H') ft l ∧ Dx K (wo d H') (.ref p0) dk := fun k => ⟨sqt_ext wgd k.wo, wk0.ext k.wo, sqt_ext wrt k.wo, L2.Paired.mapP wpr fun p r z => sqt_ext z k.wo, sqt_ext wfp k.wo, wpf.ext k.wo, wdk.ext k.wo⟩
        have fair : Fair2 (.tuple (dR rows)) := fair2_dR (by omega) hrs
        refine ⟨fun σ' H' => ∃ (v11 v12 v13 : Option V), σ' = [some (.ref d), some (.ref f), some (.ref r), some (.ref sy), some (.int (0 + (i : Int))), some (.ref ft), some tv, some (.ref fp), some (.ref rt), some (.str (numT l)), some (.ref gd), v11, v12, v13, u14] ∧ MillAt H' d ∧ But d H8 H', ?_, ?_⟩
        · refine ⟨7, rfl, by decide, by decide, ?_⟩
          refine for_range (lo := 0) (n := 7) (fun k σ' H' => ∃ (v11 v12 v13 : Option V), σ' = [some (.ref d), some (.ref f), some (.ref r), some (.ref sy), some (.int (0 + (i : Int))), some (.ref ft), some tv, some (.ref fp), some (.ref rt), some (.str (numT l)), some (.ref gd), v11, v12, v13, u14] ∧ MillAt H' d ∧ But d H8 H') ⟨_, _, _, rfl, M8, But.refl d H8⟩ ?_ ?_
          · rintro k σ' Hk hk ⟨v11, v12, v13, rfl, Mk, bk⟩
            have kk := keepB bk
            refine ⟨_, rfl, _, rfl, _, rfl, _, rfl, _, rfl, gd, _, 1, _, rfl, rfl, sqt_ext kk.1 (wo_le d _), rfl, d, p0, ps, L0, rfl, Mk, kk.2.1.ext (wo_le d _), by omega, hb0, fun x H9 kx M9 b9 => ?_⟩
            have k9 := keepB (bk.trans b9)
            refine ⟨_, rfl, by show 3 ≤ sizeLine; decide, fun t3 ht3 => ?_⟩
            have e10 := Ext.new ht3 (.tup [.str (numT l), x, .ref rt])
            have w3 : SqT K (wo d (upd H9 t3 (.tup [.str (numT l), x, .ref rt]))) t3 [.str (numT l), x, .ref rt] := wo_tup (mill_new M9 ht3)
            have M10 := M9.ext e10
            generalize upd H9 t3 (.tup [.str (numT l), x, .ref rt]) = H10 at *
            refine ⟨_, rfl, _, rfl, gd, _, rfl, sqt_ext (sqt_ext k9.1 (wo_le d _)) e10, fun z => absurd z (show ¬ (HT.sIx 3 0 none = 0 ∧ HT.sIx 3 3 (some 2) = 3) by decide), fun _ g2 hg2 => ?_⟩
            have e11 := Ext.new hg2 (.tup (cutV [V.str (numT l), .ref p0, .ref rt] none (some 2)))
            have w4 : SqT K (wo d (upd H10 g2 (.tup (cutV [V.str (numT l), .ref p0, .ref rt] none (some 2))))) g2 [.str (numT l), .ref p0] := wo_tup (mill_new M10 hg2)
            have M11 := M10.ext e11
            generalize upd H10 g2 (.tup (cutV [V.str (numT l), .ref p0, .ref rt] none (some 2))) = H11 at *
            refine ⟨_, rfl, gd, _, rfl, .inr (sqt_ext (sqt_ext k9.1 (wo_le d _)) (e10.trans e11)), fun lg hlg => ?_⟩
            have e12 := Ext.new hlg (.lst [.str (numT l), .ref p0, .ref rt])
            have w5 : wo d (upd H11 lg (.lst [.str (numT l), .ref p0, .ref rt])) lg = some (.lst [.str (numT l), .ref p0, .ref rt]) := wo_of upd_same (mill_new M11 hlg)
            have M12 := M11.ext e12
            generalize upd H11 lg (.lst [.str (numT l), .ref p0, .ref rt]) = H12 at *
            refine ⟨by show 5 ≤ sizeLine; decide, fun so hso => ?_⟩
            have e13 := Ext.new hso (.lst [.ref gd, .ref gd, .ref t3, .ref g2, .ref lg])
            have w6 : wo d (upd H12 so (.lst [.ref gd, .ref gd, .ref t3, .ref g2, .ref lg])) so = some (.lst [.ref gd, .ref gd, .ref t3, .ref g2, .ref lg]) := wo_of upd_same (mill_new M12 hso)
            have M13 := M12.ext e13
            generalize upd H12 so (.lst [.ref gd, .ref gd, .ref t3, .ref g2, .ref lg]) = H13 at *
            have e913 := ((e10.trans e11).trans e12).trans e13
            have b13 := (bk.trans b9).trans (e913.but d)
            have w3 := sqt_ext w3 (wo_ext ((e11.trans e12).trans e13))
            have w4 := sqt_ext w4 (wo_ext (e12.trans e13))
            have w5 := wo_ext e13 _ _ w5
            obtain ⟨ex, dx, kdx⟩ := kx
            have dx := dx.ext (wo_ext e913)
            clear k9 kk
            -- the paper
            refine ⟨fun σ' H' => ∃ (y : V) (D : Apt), σ' = [some (.ref d), some (.ref f), some (.ref r), some (.ref sy), some (.int (0 + (i : Int))), some (.ref ft), some tv, some (.ref fp), some (.ref rt), some (.str (numT l)), some (.ref gd), some (.int (0 + (k : Int))), some (.ref so), some y, u14] ∧ AptAt K H' y D ∧ DueD l D ∧ MillAt H' d ∧ But d H8 H', ?_, ?_⟩
            · refine ⟨_, rfl, by show 1 ≤ sizeLine; decide, fun n1 hn1 => ?_⟩
              have e14 := Ext.new hn1 (.tup [.non])
              have w7 : SqT K (upd H13 n1 (.tup [.non])) n1 [.non] := SqT.of upd_same
              have M14 := M13.ext e14
              generalize upd H13 n1 (.tup [.non]) = H14 at *
              refine ⟨_, rfl, _, rfl, gd, _, rfl, sqt_ext (sqt_ext (keepB b13).1 (wo_le d _)) e14, fun z => absurd z (show ¬ (HT.sIx 3 0 (some 1) = 0 ∧ HT.sIx 3 3 none = 3) by decide), fun _ n2 hn2 => ?_⟩
              have e15 := Ext.new hn2 (.tup (cutV [V.str (numT l), .ref p0, .ref rt] (some 1) none))
              have w8 : SqT K (upd H14 n2 (.tup (cutV [V.str (numT l), .ref p0, .ref rt] (some 1) none))) n2 [.ref p0, .ref rt] := SqT.of upd_same
              have M15 := M14.ext e15
              generalize upd H14 n2 (.tup (cutV [V.str (numT l), .ref p0, .ref rt] (some 1) none)) = H15 at *
              refine catA (sqt_ext w7 e15) w8 (by show 1 + 2 ≤ 1000; decide) fun n3 H16 hn3 e16 => ?_
              have M16 := M15.ext e16
              have w9 : SqT K (wo d H16) n3 [.non, .ref p0, .ref rt] := sqt_wo M16 hn3
              have e1316 := (e14.trans e15).trans e16
              have b16 := b13.trans (e1316.but d)
              have k16 := keepB b16
              refine ⟨_, rfl, _, rfl, gd, _, 1, _, rfl, rfl, sqt_ext k16.1 (wo_le d _), rfl, _, rfl, _, rfl, _, rfl, fp, _, 0, _, rfl, rfl, sqt_ext k16.2.2.2.2.1 (wo_le d _), rfl, d, rt, m, ts, rows, rfl, M16, ⟨m1, m12⟩, sqt_ext k16.2.2.1 (wo_le d _), L2.Paired.mapP k16.2.2.2.1 fun p r z => sqt_ext z (wo_le d _), ⟨by omega, by omega⟩, hrs, fun x6 e6 H17 dp6 fe6 M17 b17 => ?_⟩
              have b8h := b16.trans b17
              have b13h := (e1316.but d).trans b17
              refine ⟨by show 3 ≤ sizeLine; decide, fun t6 ht6 => ⟨by show 2 ≤ sizeLine; decide, fun l2 hl2 => ?_⟩⟩
              have e18 := Ext.new ht6 (.tup [.str (numT l), .ref p0, x6])
              have w10 : SqT K (upd H17 t6 (.tup [.str (numT l), .ref p0, x6])) t6 [.str (numT l), .ref p0, x6] := SqT.of upd_same
              have M18 := M17.ext e18
              generalize upd H17 t6 (.tup [.str (numT l), .ref p0, x6]) = H18 at *
              have e19 := Ext.new hl2 (.lst [.ref n3, .ref t6])
              have w11 : upd H18 l2 (.lst [.ref n3, .ref t6]) l2 = some (.lst [.ref n3, .ref t6]) := upd_same
              have M19 := M18.ext e19
              generalize upd H18 l2 (.lst [.ref n3, .ref t6]) = H19 at *
              have e1719 := e18.trans e19
              have w6' := e1719 _ _ (wo_le d _ _ _ (b13h.wo _ _ w6))
              refine ⟨so, l2, _, _, rfl, rfl, w6', w11, by show 5 + 2 ≤ sizeLine; decide, fun ap hap => ⟨_, rfl, ?_⟩⟩
              have e20 := Ext.new hap (.lst ([V.ref gd, .ref gd, .ref t3, .ref g2, .ref lg] ++ [.ref n3, .ref t6]))
              have w12 : SqL K (upd H19 ap (.lst ([V.ref gd, .ref gd, .ref t3, .ref g2, .ref lg] ++ [.ref n3, .ref t6]))) ap [.ref gd, .ref gd, .ref t3, .ref g2, .ref lg, .ref n3, .ref t6] := SqL.of upd_same
              have M20 := M19.ext e20
              generalize upd H19 ap (.lst ([V.ref gd, .ref gd, .ref t3, .ref g2, .ref lg] ++ [.ref n3, .ref t6])) = H20 at *
              have e1720 := e1719.trans e20
              have b20 := b8h.trans (e1720.but d)
              have b1320 := b13h.trans (e1720.but d)
              have k20 := keepB b20
              have up : ∀ {q : Addr} {xs : List V}, SqT K (wo d H13) q xs → SqT K H20 q xs := fun h => sqt_ext (sqt_ext h b1320.wo) (wo_le d _)
              have dpr : Dp K H20 (.ref rt) (.tuple (dR rows)) := .tup (sqt_ext k20.2.2.1 (wo_le d _)) (dpall_of_rows (L2.Paired.mapP k20.2.2.2.1 fun p r z => sqt_ext z (wo_le d _)))
              have dk20 := k20.2.2.2.2.2.2.ext (wo_le d _)
              have gd20 := sqt_ext k20.1 (wo_le d _)
              have good : AptAt K H20 (.ref gd) (.tri (some l) dk (.tuple (dR rows))) := ⟨gd, _, _, rfl, gd20, dk20, dpr, small_fair2 fair, fun l' z => by injection z with z; rw [← z]; exact fo⟩
              obtain ⟨y, D, h1, h2, h3⟩ : ∃ y D, [V.ref gd, .ref gd, .ref t3, .ref g2, .ref lg, .ref n3, .ref t6][k]? = some y ∧ AptAt K H20 y D ∧ DueD l D := by
                match k, hk with
                | 0, _ => exact ⟨_, _, rfl, good, .inr rfl, kdk, fair⟩
                | 1, _ => exact ⟨_, _, rfl, good, .inr rfl, kdk, fair⟩
                | 2, _ => exact ⟨_, .tri (some l) ex (.tuple (dR rows)), rfl, ⟨t3, _, _, rfl, up w3, (dx.ext b1320.wo).ext (wo_le d _), dpr, small_fair2 fair, fun l' z => by injection z with z; rw [← z]; exact fo⟩, .inr rfl, kdx, fair⟩
                | 3, _ => exact ⟨_, .two, rfl, ⟨g2, _, _, rfl, up w4⟩, trivial⟩
                | 4, _ => exact ⟨_, .lst, rfl, ⟨lg, _, rfl, SqL.of (wo_le d _ _ _ (b1320.wo _ _ w5))⟩, trivial⟩
                | 5, _ => exact ⟨_, .tri none dk (.tuple (dR rows)), rfl, ⟨n3, _, _, rfl, sqt_ext (sqt_ext (sqt_ext w9 b17.wo) (wo_ext e1720)) (wo_le d _), dk20, dpr, small_fair2 fair, fun l' z => by cases z⟩, .inl rfl, kdk, fair⟩
                | 6, _ => exact ⟨_, .tri (some l) dk e6, rfl, ⟨t6, _, _, rfl, sqt_ext w10 (e19.trans e20), dk20, Dp.ext e1720 _ _ dp6, small_fair2 fe6, fun l' z => by injection z with z; rw [← z]; exact fo⟩, .inr rfl, kdk, fe6⟩
                | k + 7, hk => exact absurd hk (by omega)
              exact ⟨ap, _, ((k : Nat) : Int), y, rfl, by rw [Int.zero_add], w12, atI_nat h1, y, D, rfl, h2, h3, M20, b20⟩
            rintro σ' H9' ⟨y, D, rfl, hy, hD, M9', b9'⟩
            have kA := keepA (b08.trans b9')
            refine ⟨_, rfl, _, rfl, .ref sy, y, _, rfl, ⟨tw, sy, a, b, c, a, b2, c2, D, rfl, ok, ok2, sqt_ext kA.2.2 (wo_le d _), hy, Iff.rfl⟩, fun bb H10 hbb e10 => ?_⟩
            have k10 := keepB (b9'.trans (e10.but d))
            refine ⟨_, rfl, _, rfl, _, rfl, _, rfl, f, r, ft, y, a, b, c, b2, c2, l, D, rfl, sqt_ext (sqt_ext kA.1 (wo_le d _)) e10, sqt_ext (sqt_ext kA.2.1 (wo_le d _)) e10, ok, ok2, k10.2.2.2.2.2.1.ext (wo_le d _), fo, hy.ext e10, hD, fun bb2 H11 hbb2 e11 => ?_⟩
            obtain rfl : bb = bb2 := by rw [Bool.eq_iff_iff, hbb, hbb2]
            refine ⟨rfl, _, rfl, ?_⟩
            show if (!decide (V.bl bb = V.bl bb)) = true then _ else _
            rw [decide_eq_true rfl]
            exact iteF ⟨_, _, _, rfl, M9'.ext (e10.trans e11), b9'.trans ((e10.trans e11).but d)⟩
          · rintro σ' Hk ⟨v11, v12, v13, rfl, Mk, bk⟩
            exact ⟨_, _, _, rfl, Mk, bk⟩
        rintro σ' H9 ⟨v11, v12, v13, rfl, M9, b9⟩
        -- another rule
        refine ⟨fun σ' H' => ∃ (ot : Addr) (a3 : Nat), σ' = [some (.ref d), some (.ref f), some (.ref r), some (.ref sy), some (.int (0 + (i : Int))), some (.ref ft), some tv, some (.ref fp), some (.ref rt), some (.str (numT l)), some (.ref gd), v11, v12, v13, some (.ref ot)] ∧ SqT K H' ot [.str "apart", .str (ruleT a b c), .str (ruleT a3 1 1)] ∧ okRule a3 1 1 ∧ a ≠ a3 ∧ MillAt H' d ∧ Ext H9 H', ?_, ?_⟩
        · have kA := keepA (b08.trans b9)
          have hf9 := sqt_ext kA.1 (wo_le d _)
          have fin : ∀ (x : V) (a3 : Nat), x = .int a3 → 2 ≤ a3 ∧ a3 ≤ 11 → shareB a3 1 = true → a ≠ a3 → ∀ t, H9 t = none → SqT K (upd H9 t (.tup [x, .int 1, .int 1])) t [.int a3, .int (1 : Nat), .int (1 : Nat)] := fun x a3 hx _ _ _ t ht => by rw [hx]; exact SqT.of upd_same
          refine ⟨_, rfl, f, a, b, c, rfl, hf9, ⟨a2, bb2, cc2⟩, _, rfl, f, _, 0, _, rfl, rfl, hf9, rfl, _, _, rfl, rfl, _, rfl, ?_⟩
          have os := other_ok ⟨a, by omega⟩ (by show 2 ≤ a; omega)
          dsimp only at os
          refine ite2 (fun hlt => ?_) (fun hlt => ?_)
          · have hlt' : a < 12 := by have := of_decide_eq_true hlt; omega
            rw [if_pos hlt'] at os
            refine ⟨_, rfl, f, _, 0, _, rfl, rfl, hf9, rfl, _, _, rfl, rfl, by show 3 ≤ sizeLine; decide, fun t ht => ?_⟩
            have e10 := Ext.new ht (.tup [.int ((13 : Int) - (a : Int)), .int 1, .int 1])
            have w1 : SqT K (upd H9 t (.tup [.int ((13 : Int) - (a : Int)), .int 1, .int 1])) t [.int ((13 - a : Nat) : Int), .int ((1 : Nat) : Int), .int ((1 : Nat) : Int)] := SqT.of (by rw [upd_same, show ((13 : Int) - (a : Int)) = ((13 - a : Nat) : Int) by omega]; rfl)
            have M10 := M9.ext e10
            generalize upd H9 t (.tup [.int ((13 : Int) - (a : Int)), .int 1, .int 1]) = H10 at *
            refine ⟨t, 13 - a, 1, 1, rfl, w1, ⟨by omega, by decide, by decide⟩, by show 3 ≤ sizeLine; decide, fun ot hot => ⟨ot, 13 - a, rfl, SqT.of upd_same, ⟨⟨by omega, by omega⟩, os, os⟩, by omega, M10.ext (Ext.new hot _), e10.trans (Ext.new hot _)⟩⟩
          · have hge : ¬ a < 12 := fun z => hlt (decide_eq_true (by omega))
            rw [if_neg hge] at os
            refine ⟨by show 3 ≤ sizeLine; decide, fun t ht => ?_⟩
            have e10 := Ext.new ht (.tup [.int 11, .int 1, .int 1])
            have w1 : SqT K (upd H9 t (.tup [.int 11, .int 1, .int 1])) t [.int ((11 : Nat) : Int), .int ((1 : Nat) : Int), .int ((1 : Nat) : Int)] := SqT.of upd_same
            have M10 := M9.ext e10
            generalize upd H9 t (.tup [.int 11, .int 1, .int 1]) = H10 at *
            refine ⟨t, 11, 1, 1, rfl, w1, ⟨by decide, by decide, by decide⟩, by show 3 ≤ sizeLine; decide, fun ot hot => ⟨ot, 11, rfl, SqT.of upd_same, ⟨⟨by omega, by omega⟩, os, os⟩, by omega, M10.ext (Ext.new hot _), e10.trans (Ext.new hot _)⟩⟩
        rintro σ' H10 ⟨ot, a3, rfl, hot, ok3, hne, M10, e910⟩
        have b10 := b9.trans (e910.but d)
        have b010 := b08.trans b10
        have kA := keepA b010
        have kB := keepB b10
        obtain ⟨⟨_, a32⟩, _⟩ := id ok3
        obtain ⟨bq, hbq⟩ : ∃ bq, bq = !decide (V.str (cutS (ruleT a3 1 1) none (some 2)) = V.str (cutS (ruleT a b c) none (some 2))) := ⟨_, rfl⟩
        refine ⟨_, rfl, ot, _, 2, _, rfl, rfl, hot, rfl, _, rfl, _, rfl, small_line (Nat.le_trans (rule_len (by omega) (by decide) (by decide)) (by decide)), _, rfl, sy, _, 1, _, rfl, rfl, sqt_ext kA.2.2 (wo_le d _), rfl, _, rfl, _, rfl, small_line (Nat.le_trans (rule_len (by omega) (by omega) (by omega)) (by decide)), rfl, bq, by rw [hbq], ?_⟩
        refine ite2 (fun _ => ?_) (fun _ => ?_)
        · refine ⟨_, rfl, _, rfl, .ref ot, .ref gd, _, rfl, ⟨tw, ot, a, b, c, a3, 1, 1, .tri (some l) dk (.tuple (dR rows)), rfl, ok, ok3, hot, ⟨gd, _, _, rfl, sqt_ext kB.1 (wo_le d _), kB.2.2.2.2.2.2.ext (wo_le d _), .tup (sqt_ext kB.2.2.1 (wo_le d _)) (dpall_of_rows (L2.Paired.mapP kB.2.2.2.1 fun p r z => sqt_ext z (wo_le d _))), small_fair2 fair, fun l' z => by injection z with z; rw [← z]; exact fo⟩, Iff.rfl⟩, fun bb H11 hbb e11 => ?_⟩
          obtain rfl : bb = false := by
            cases bb with
            | false => rfl
            | true => exact absurd (hbb.mp rfl).1 hne
          refine ⟨_, _, rfl, rfl, _, rfl, ?_⟩
          exact iteF ⟨_, _, _, _, _, _, _, _, _, _, _, rfl, M10.ext e11, b010.trans (e11.but d)⟩
        · exact ⟨_, _, _, _, _, _, _, _, _, _, _, rfl, M10, b010⟩
    · rintro σ H' ⟨u4, u5, u6, u7, u8, u9, u10, u11, u12, u13, u14, rfl, M, b0⟩
      exact q H' M (bs.trans b0)
end
end K75

set_option Elab.async false
set_option linter.all false
set_option maxRecDepth 100000
set_option maxHeartbeats 4000000
namespace K75
open PySem PySem.Spec PyProof.Rows L2 Bk Evl
section
variable {P : Program} {w : World} {K : PySem.W.Frag} {mg : Str → Option Value} {base : Heap}
def spLaw (K : PySem.W.Frag) (w : World) : Sp := fun vs H Q _ => TabT K w ∧ ∃ (a : Addr) (ns : List Int), vs = [.ref a] ∧ SqL K H a (ns.map V.int) ∧ ns.length ≤ 1000 ∧ (∀ i ∈ ns, Builtin.Int.intBits i ≤ 1048576) ∧ ∀ H', Q (.bl true) H'
theorem sc_law : FnScope ["_law_cells", "_law_turn"] ["_law_cells"] (defScope s_law) := ⟨rfl, rfl, rfl, by decide +kernel, rfl, by decide +kernel, by decide +kernel⟩
theorem ok_law (T : Txt K mg) : OkG P w K mg base 12 (He.ga K "law") ["_law_cells"] (spLaw K w) := by
  obtain ⟨fd_ulaw_mill, F_ulaw_mill, b_ulaw_mill, k_ulaw_mill, _⟩ := (ok_ulaw_mill (P := P) (w := w) (base := base) T).ex
  refine fd_okG T.f_law sc_law (fun vs H Q h => ?_) (fun _ _ _ _ _ _ us hl => match us, hl with | [_], _ => rfl) (fun cdv A outer s H vs Q hr hG h => ?_)
  · obtain ⟨tw, a, ns, rfl, _⟩ := h
    rfl
  · obtain ⟨tw, a, ns, rfl, hs, hz, hb, q⟩ := h
    have nd := sc_law.nd
    refine ⟨_, (pss_one (ps_ret (pe_callB (cr_all rfl) rfl T.z_all (by decide +kernel) (pa_cons (pe_lc (own := [("_law_turn", 1)]) (g := (gName 1)) (tt := tYes) rfl nd (pi_range1 rfl T.z_range (pa_cons pe_int pa_nil)) (blkOk_by (own := [("_law_turn", 1)]) (N := ["_law_cells", "_law_turn"]) (sc := defScope s_law) (by decide +kernel)) (fun _ _ _ _ _ => (pg_name (i := 1) nd rfl (Or.inl rfl))) (fun _ _ _ _ _ => pts_nil) (fun _ _ _ _ _ => (pe_callG (ok_ulaw_right (P := P) (w := w) (base := base) T) (hr.mono (by decide)) hG rfl T.g_ulaw_right (pa_cons (pe_call F_ulaw_mill (hr.mono (by decide)) rfl T.g_ulaw_mill k_ulaw_mill b_ulaw_mill .nil pass0 (pa_cons (pv 0) (pa_cons (pv 1) pa_nil))) pa_nil)))) pa_nil)))), ?_⟩
    refine ⟨3, rfl, by decide, by decide, fun D hD => ?_⟩
    refine lc_range (lo := 0) (n := 3) (fun i H' => H' D = some (.lst ((List.replicate i true).map V.bl)) ∧ ∀ o, H a = some o → H' a = some o) ⟨upd_same, fun o e => Ext.new hD _ _ _ e⟩ (fun i H1 hi p => ?_) (fun H1 p => ?_)
    · obtain ⟨p1, p2⟩ := p
      refine ⟨rfl, ?_⟩
      unfold tYes
      dsimp only
      rw [if_pos rfl]
      refine ⟨_, rfl, _, rfl, a, ns, i, by rw [Int.zero_add]; rfl, sql_at hs p2, hz, hb, by omega, fun d H2 h0 M e2 => ?_⟩
      refine ⟨tw, d, rfl, M, fun H3 M3 e3 => ?_⟩
      have nDd : D ≠ d := ne_of_none p1 h0
      have p13 := e3 _ _ (e2 _ _ p1) nDd
      refine ⟨_, p13, ?_, ?_, fun o e => ?_⟩
      · rw [List.length_map, List.length_replicate]
        exact Nat.lt_of_lt_of_le (show i < 1000 by omega) (by decide)
      · rw [upd_same, List.replicate_succ', List.map_append]
        rfl
      · have e1 := p2 o e
        rw [upd_ne (ne_of_none e hD)]
        exact e3 _ _ (e2 _ _ e1) (ne_of_none e1 h0)
    · obtain ⟨p1, p2⟩ := p
      refine ⟨D, _, rfl, SqL.of p1, ?_⟩
      have e : (List.replicate 3 true).all id = true := by simp
      rw [e]
      exact q H1
end
end K75

set_option Elab.async false
set_option linter.all false
set_option maxRecDepth 100000
set_option maxHeartbeats 0
open PySem PySem.W PySem.Calls PyProof.Rows
theorem K75.fa_eq {K : PySem.W.Frag} {mg : PySem.Str → Option PySem.Value} {fa : PySem.Addr} (T : K75.Txt K mg) (h : mg ("law" : PySem.Str) = some (.ref fa)) : He.ga K "law" = fa := by
  have z := T.g_law.symm.trans h
  injection z with z
  injection z
theorem PySem.Challenge.cw_unitpairs_k75_papers_of_rules_apart_judg_holds : PySem.Challenge.rw_unitpairs_k75_papers_of_rules_apart_judg.Holds := by
  w_on; o_law
  refine HandSHeadRun.head_any (r := OpenLaw.row PySem.Challenge.rw_unitpairs_k75_papers_of_rules_apart_judg) (q := view (OpenLaw.row PySem.Challenge.rw_unitpairs_k75_papers_of_rules_apart_judg).prog [110]) (H := K75.hk) (ob := K75.ob) (M := 20000) (loose := K75.ls) (d := HandSHeadRun.topDef (OpenLaw.row PySem.Challenge.rw_unitpairs_k75_papers_of_rules_apart_judg).prog 110) (kwd := []) K75.ob_eq
    (by kernel_rfl) (fun s => by kernel_rfl) K75.run (by kernel_rfl) (by kernel_rfl) (by kernel_rfl) (by rfl) (by first | assumption | decide +kernel) (by decide +kernel) ⟨rfl, rfl, rfl, rfl, rfl, by decide +kernel⟩ ?hw ?hc
  case hw => w_witness2
  case hc =>
    refine Bk.walk_own (l := PySem.Challenge.rw_unitpairs_k75_papers_of_rules_apart_judg) (n := 63) (k := 12) (x := "_law_cells") rfl (by decide) (by kernel_rfl) ⟨rfl, by decide, by decide⟩ ?F
    intro w mg fa h Y G hmg0
    obtain ⟨K, KX, c, tw⟩ := Y
    have T := K75.Txt.of KX G c
    have hmg : mg ("law" : PySem.Str) = some (.ref fa) := by
      have e : (HandSHeadRun.topDef (OpenLaw.row PySem.Challenge.rw_unitpairs_k75_papers_of_rules_apart_judg).prog 110).name = ("law" : PySem.Str) := by kernel_rfl
      rw [← e]
      exact hmg0
    have hfa : He.ga K "law" = fa := K75.fa_eq T hmg
    clear hmg hmg0
    refine ⟨K, K75.spLaw K w, KX, fun H a ns hl hb hS => ⟨tw, a, ns, rfl, hS, Nat.le_trans hl (by decide), hb, fun _ => rfl⟩, fun base _ _ => ?_⟩
    rw [← hfa]
    exact K75.ok_law T
