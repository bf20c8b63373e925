import PyProof.Rows.All
import Wide.All
import OpenK.AllK
import Wide.FinOn
import KE.KStateDown
import KE.DataMinMax
import Lean
import HandS.ForMost
import HandS.Exc
import HandS.TryOnly
import HandS.TryMany
import HandS.ExcOwn
import HandS.WordsExc
import HandS.Defaults
import HandS.MakeKwOnly
import HandS.Property
import HandS.Zip
import HandS.Deep
import HandS.DeepEq
import HandS.DictEq
import HandS.Strs
import HandS.IsInst
import HandS.TupAny
import HandS.ExcInit
import HandS.ExcSuper
import HandS.ExcField
import HandS.SortKw
import HandS.Evl
import HandS.Walk
import KE.GoesEnum
import HandS.Head0
import HandS.Head1
import HandS.Head2
import HandS.HeadEnd
import HandS.HeadHook1
import HandS.HeadHook2
import KE.KExcSuper
import PySem.Challenge.RW_everyfire_k62_whole_lean_lands
set_option Elab.async false
set_option linter.all false
set_option maxRecDepth 100000
set_option maxHeartbeats 4000000
namespace EF
open PySem PySem.Spec PyProof.Rows L2 Evl
/-! ### what an expression evaluates to, by a word of the value and the heap -/
abbrev Post := V → Hp → Prop
def EvP (te : TE) (σ : L2.St) (H : Hp) (P : Post) : Prop := ∀ H1, Ex H H1 → ∀ Q : VK, (∀ v H2, Ex H1 H2 → P v H2 → Q v H2) → te σ H1 Q
/-- a def's promise: what stood stands, the answer is told by a word -/
def spR (R : List V → Hp → Post → Prop) : Sp := fun vs H Q _ => ∃ P, R vs H P ∧ ∀ v H', Ex H H' → P v H' → Q v H'
def tCl (sp : Sp) (E : XK) (t : TA) : TE := fun σ H Q => t σ H fun vs H1 => sp vs H1 Q E
section
variable {K : PySem.W.Frag} {σ : L2.St} {H H' : Hp} {te : TE} {tz : TS} {D : Ends} {P P' : Post} {v : V}
theorem EvP.mono (e : Ex H H') (h : EvP te σ H P) : EvP te σ H' P := fun H1 a Q q => h H1 (e.trans a) Q q
theorem EvP.imp (h : EvP te σ H P) (k : ∀ v H1, Ex H H1 → P v H1 → P' v H1) : EvP te σ H P' := fun H1 e Q q => h H1 e Q fun v H2 e2 p => q v H2 e2 (k v H2 (e.trans e2) p)
theorem ep_ev (h : Ev te σ H v) : EvP te σ H (fun u _ => u = v) := fun H1 e Q q => h H1 e Q fun H2 e2 => q v H2 e2 rfl
theorem EvP.ev (h : EvP te σ H (fun u _ => u = v)) : Ev te σ H v := fun H1 e Q q => h H1 e Q fun u H2 e2 p => by rw [p]; exact q H2 e2
theorem ep_evL {xs : List V} (h : EvL te σ H xs) : EvP te σ H (fun u H' => ∃ p, u = .ref p ∧ H p = none ∧ H' p = some (.lst xs)) := fun H1 e Q q => h H1 e Q fun p H2 n e2 hp => q _ H2 e2 ⟨p, rfl, fresh_back e n, hp⟩
theorem ep_evU {xs : List V} (h : EvU te σ H xs) : EvP te σ H (fun u H' => ∃ p, u = .ref p ∧ H p = none ∧ H' p = some (.tup xs)) := fun H1 e Q q => h H1 e Q fun p H2 n e2 hp => q _ H2 e2 ⟨p, rfl, fresh_back e n, hp⟩
theorem s_asgP {i : Nat} (h : EvP te σ H P) (k : ∀ v H1, Ex H H1 → P v H1 → D.nx (σ.set i (some v)) H1) : tAsg te (gName i) D σ H := h H (Ex.refl H) _ fun v H1 e p => k v H1 e p
theorem q_asgP {i : Nat} (h : EvP te σ H P) (k : ∀ v H1, Ex H H1 → P v H1 → tz D (σ.set i (some v)) H1) : tSeq (tAsg te (gName i)) tz D σ H := s_asgP (D := { D with nx := tz D }) h k
theorem s_retP (h : EvP te σ H P) (k : ∀ v H1, Ex H H1 → P v H1 → D.rt v H1) : tRet te D σ H := h H (Ex.refl H) _ k
theorem s_dropP (h : EvP te σ H P) (k : ∀ v H1, Ex H H1 → P v H1 → D.nx σ H1) : tDrop te D σ H := h H (Ex.refl H) _ k
theorem q_dropP (h : EvP te σ H P) (k : ∀ v H1, Ex H H1 → P v H1 → tz D σ H1) : tSeq (tDrop te) tz D σ H := h H (Ex.refl H) _ k
theorem ep_call {R : List V → Hp → Post → Prop} {E : XK} {ta : TA} {vs : List V} (h : EvA ta σ H vs) (hr : ∀ H1, Ex H H1 → R vs H1 P) : EvP (tCl (spR R) E ta) σ H P :=
  fun H1 e Q q => h H1 e _ fun H2 e2 => ⟨P, hr H2 (e.trans e2), fun v H3 e3 p => q v H3 (e2.trans e3) p⟩
theorem ep_callF {R : List V → Hp → Post → Prop} {E : XK} {ta : TA} {vs : List V} (N : Hp → Post) (h : EvA ta σ H vs) (hr : ∀ H1, Ex H H1 → R vs H1 (N H1)) (hm : ∀ H1, Ex H H1 → ∀ v H2, Ex H1 H2 → N H1 v H2 → P v H2) : EvP (tCl (spR R) E ta) σ H P :=
  fun H1 e Q q => h H1 e _ fun H2 e2 => ⟨N H2, hr H2 (e.trans e2), fun v H3 e3 p => q v H3 (e2.trans e3) (hm H2 (e.trans e2) v H3 e3 p)⟩
/-- a new list comes back -/
def NewL (xs : List V) (H : Hp) : Post := fun v H' => ∃ p, v = .ref p ∧ H p = none ∧ H' p = some (.lst xs)
theorem ep_callL {R : List V → Hp → Post → Prop} {E : XK} {ta : TA} {vs xs : List V} (h : EvA ta σ H vs) (hr : ∀ H1, Ex H H1 → R vs H1 (NewL xs H1)) : EvP (tCl (spR R) E ta) σ H (NewL xs H) :=
  ep_callF (NewL xs) h hr fun H1 e v H2 e2 ⟨p, ev, n, hp⟩ => ⟨p, ev, fresh_back e n, hp⟩
theorem ev_callV {R : List V → Hp → Post → Prop} {E : XK} {ta : TA} {vs : List V} (h : EvA ta σ H vs) (hr : ∀ H1, Ex H H1 → R vs H1 (fun u _ => u = v)) : Ev (tCl (spR R) E ta) σ H v := (ep_call h hr).ev
end
/-! ### readings opened one by one -/
section
variable {σ : L2.St} {H : Hp} {te ta tb : TE} {tt : TT} {D : Ends} {P : Post} {Q : VK} {r : R2} {t : TA} {tu tw tz : TS} {g : TG}
theorem gn {nx : L2.St → Hp → Prop} {rt : VK} {bk ct : L2.St → Hp → Prop} (h : nx σ H) : (Ends.mk nx rt bk ct).nx σ H := h
theorem r_ret (h : te σ H D.rt) : tRet te D σ H := h
theorem r_seq (h : tu { D with nx := tz D } σ H) : tSeq tu tz D σ H := h
theorem r_op (ha : EvP ta σ H P) (k : ∀ x H1, Ex H H1 → P x H1 → tb σ H1 fun y H2 => r x y H2 Q) : tOp r ta tb σ H Q := ha H (Ex.refl H) _ k
theorem r_opV {x : V} (ha : Ev ta σ H x) (k : ∀ H1, Ex H H1 → tb σ H1 fun y H2 => r x y H2 Q) : tOp r ta tb σ H Q := ha H (Ex.refl H) _ k
theorem r_asg (h : te σ H fun x H1 => g x σ H1 D.nx) : tAsg te g D σ H := h
theorem r_if {c : Bool} (h : EvT tt σ H c) (h1 : c = true → ∀ H1, Ex H H1 → tu D σ H1) (h2 : c = false → ∀ H1, Ex H H1 → tw D σ H1) : tIfS tt tu tw D σ H := by
  refine h H (Ex.refl H) _ fun H1 e => ?_
  cases c with
  | true => exact iteT (h1 rfl H1 e)
  | false => exact iteF (h2 rfl H1 e)
theorem r_cb {rr : List V → Hp → VK → Prop} (h : EvP te σ H P) (k : ∀ v H1, Ex H H1 → P v H1 → rr [v] H1 Q) : tCB rr (tCons te tNil) σ H Q := h H (Ex.refl H) _ k
theorem r_bind (h : EvP te σ H P) (k : ∀ v H1, Ex H H1 → P v H1 → Q v H1) : te σ H Q := h H (Ex.refl H) _ k
end
/-! ### defs and methods, by what they promise -/
structure Fn (P : Program) (w : World) (K : PySem.W.Frag) (mg : Str → Option Value) (base : Heap) (k : Nat) (x : Str) (ps : List Str) (sp : Sp) : Prop where
  ex : ∃ f fd, mg x = some (.ref f) ∧ PySem.W.keepIn K (.ref f) = true ∧ Binds K fd ps [] ∧ FnOk P w K mg base (L2.CX P w) k f fd ps sp
structure Mt (P : Program) (w : World) (K : PySem.W.Frag) (mg : Str → Option Value) (base : Heap) (C : Addr) (k : Nat) (m : Str) (ps : List Str) (sp : Sp) : Prop where
  cl : Cls K C
  ex : ∃ f fd, Meth K C m f ∧ Binds K fd ps [] ∧ FnOk P w K mg base (L2.CX P w) k f fd ps sp
def tMt (C : Addr) (m : Str) (sp : Sp) (E : XK) (ta : TE) (t : TA) : TE := fun σ H Q => ta σ H fun x H1 => ∃ a dx fs, x = .ref a ∧ H1 a = some (.ins C dx fs) ∧ fs.lookup m = none ∧ t σ H1 fun vs H2 => sp (x :: vs) H2 Q E
def tMtS (C : Addr) (m : Str) (sp : Sp) (E : L2.St → XK) (ta : TE) (t : TA) : TE := fun σ H Q => ta σ H fun x H1 => ∃ a dx fs, x = .ref a ∧ H1 a = some (.ins C dx fs) ∧ fs.lookup m = none ∧ t σ H1 fun vs H2 => sp (x :: vs) H2 Q (E σ)
section
variable {X : Cx} {k j : Nat} {x m : Str} {ps : List Str} {sp : Sp} {C : Addr} {p pos apos : Pos} {e o : Expr} {es : List Expr} {ta : TE} {t : TA}
theorem pe_fn (F : Fn X.prog X.w X.K X.mg X.base k x ps sp) (hr : Room k X.A) (ha : PA X (e :: es) t) (hg : Gl X x := by rfl) (hdb : (x == ("__debug__" : Str)) = false := by decide)
    (he : starEach (e :: es) X.env = (false, eval e X.env) :: starEach es X.env := by rfl) (hpl : (backTo pos (starEach es X.env)).any (·.1) = false := by rfl) : PE X (.Call (.Name x p) (e :: es) [] pos) (tCl sp E0 t) := by
  obtain ⟨f, fd, hm, hk, hb, G⟩ := F.ex
  have h := pe_call (p := p) (pos := pos) G hr hg hm hk hb .nil passL ha hdb he hpl
  have ee : tCall sp [] E0 t = tCl sp E0 t := by
    funext σ H Q
    show t σ H (fun vs H1 => sp (vs ++ []) H1 Q E0) = t σ H (fun vs H1 => sp vs H1 Q E0)
    congr 1
    funext vs H1
    rw [List.append_nil]
  rw [← ee]
  exact h
theorem pe_fnS {W : WX} (F : Fn X.prog X.w X.K X.mg X.base k x ps sp) (hr : Room k X.A) (tk : Takes X W) (ha : PA X (e :: es) t) (hg : Gl X x := by rfl) (hdb : (x == ("__debug__" : Str)) = false := by decide)
    (he : starEach (e :: es) X.env = (false, eval e X.env) :: starEach es X.env := by rfl) (hpl : (backTo pos (starEach es X.env)).any (·.1) = false := by rfl) : PE X (.Call (.Name x p) (e :: es) [] pos) (tCallS sp (WE W) t) := by
  obtain ⟨f, fd, hm, hk, hb, G⟩ := F.ex
  exact pe_callS G hr hg hm hk hb (fun σ => passAt tk σ) ha hdb he hpl
theorem run_fnSS {CX : CXT} {f : Addr} {fd : FuncData} {E : L2.St → XK} {pins : List (Addr × Obj)} {σ : L2.St} {H : Hp} {s : Shared} {Q : VK} {us : List Value} {vs : List V} (F : FnOk X.prog X.w X.K X.mg X.base CX k f fd ps sp) (hr : Room k X.A) (hb : Binds X.K fd ps [])
    (hx : PassesAt CX X σ (E σ)) (I : Inv X pins σ H s) (r : Vals vs us) (h : sp vs H Q (E σ)) : wpAny (model X.prog X.w) X.A (call (.ref f) us) (EP X pins σ Q) X.xe s := run_fnS F hr hb hx I r h
theorem pe_mt {pl : Sem Bool} (F : Mt X.prog X.w X.K X.mg X.base C k m ps sp) (hr : Room k X.A) (he : PE X o ta) (ha : PA X (e :: es) t)
    (hst : starEach (e :: es) X.env = (false, eval e X.env) :: starEach es X.env := by rfl) (hpl : (backTo pos (starEach es X.env)).any (·.1) = false := by rfl)
    (ht : eval (.Call (.Attribute o m apos) (e :: es) [] pos) X.env = (do
      let ov ← eval o X.env
      standAt apos.atName
      let (f, first) ← holding [ov] (getMethod ov m pl)
      callWith pos f first (backTo pos (starEach (e :: es) X.env)) (backToKw pos (keywordEach [] X.env))) := by rfl) :
    PE X (.Call (.Attribute o m apos) (e :: es) [] pos) (tMt C m sp E0 ta t) := by
  obtain ⟨f, fd, hm, hb, G⟩ := F.ex
  have h := pe_meth (apos := apos) (pos := pos) he F.cl hm G hr hb .nil passL ha hst hpl ht
  have ee : tMeth C m sp [] E0 ta t = tMt C m sp E0 ta t := by
    funext σ H Q
    show ta σ H _ = ta σ H _
    congr 1
    funext x H1
    simp only [List.append_nil]
  rw [← ee]
  exact h
end
theorem ev_fld {K : PySem.W.Frag} {σ : L2.St} {H : Hp} {ta : TE} {a C dx : Addr} {fs : List (Str × V)} {f : Str} {v : V} (h : Ev ta σ H (.ref a)) (ho : H a = some (.ins C dx fs)) (hc : Cls K C) (hn : NoAttr K C f) (hl : fs.lookup f = some v) : Ev (tFld K ta f) σ H v :=
  fun H1 e Q q => h H1 e _ fun H2 e2 => ⟨a, C, dx, fs, v, rfl, e2 _ _ (e _ _ ho), hc, hn, hl, q H2 e2⟩
theorem ep_mt {σ : L2.St} {H : Hp} {P : Post} {C a dx : Addr} {m : Str} {fs : List (Str × V)} {R : List V → Hp → Post → Prop} {E : XK} {to : TE} {ta : TA} {vs : List V} (ho : Ev to σ H (.ref a)) (hi : H a = some (.ins C dx fs)) (hl : fs.lookup m = none) (h : EvA ta σ H vs)
    (hr : ∀ H1, Ex H H1 → R (.ref a :: vs) H1 P) : EvP (tMt C m (spR R) E to ta) σ H P :=
  fun H1 e Q q => ho H1 e _ fun H2 e2 => ⟨a, dx, fs, rfl, e2 _ _ (e _ _ hi), hl, h H2 (e.trans e2) _ fun H3 e3 => ⟨P, hr H3 ((e.trans e2).trans e3), fun v H4 e4 p => q v H4 ((e2.trans e3).trans e4) p⟩⟩
/-! ### data on the heap: what is tracked -/
mutual
inductive Dt (H : Hp) : V → PyData → Prop
  | non : Dt H .non .none
  | bl (b : Bool) : Dt H (.bl b) (.bool b)
  | int (i : Int) : Dt H (.int i) (.int i)
  | str (x : Str) : Dt H (.str x) (.str x)
  | lst {a : Addr} {xs : List V} {ds : List PyData} : H a = some (.lst xs) → DtA H xs ds → Dt H (.ref a) (.list ds)
  | tup {a : Addr} {xs : List V} {ds : List PyData} : Rd H a (.tup xs) → DtA H xs ds → Dt H (.ref a) (.tuple ds)
inductive DtA (H : Hp) : List V → List PyData → Prop
  | nil : DtA H [] []
  | cons {v : V} {vs : List V} {d : PyData} {ds : List PyData} : Dt H v d → DtA H vs ds → DtA H (v :: vs) (d :: ds)
end
section
variable {H H' : Hp}
mutual
theorem Dt.mono (e : Ex H H') : ∀ {v : V} {d : PyData}, Dt H v d → Dt H' v d
  | _, _, .non => .non
  | _, _, .bl b => .bl b
  | _, _, .int i => .int i
  | _, _, .str x => .str x
  | _, _, .lst h k => .lst (e _ _ h) (DtA.mono e k)
  | _, _, .tup h k => .tup (ex_rd e h) (DtA.mono e k)
theorem DtA.mono (e : Ex H H') : ∀ {vs : List V} {ds : List PyData}, DtA H vs ds → DtA H' vs ds
  | _, _, .nil => .nil
  | _, _, .cons a b => .cons (Dt.mono e a) (DtA.mono e b)
end
mutual
theorem Dt.dp {K : PySem.W.Frag} : ∀ {v : V} {d : PyData}, Dt H v d → Dp K H v d
  | _, _, .non => .non
  | _, _, .bl b => .bl b
  | _, _, .int i => .int i
  | _, _, .str x => .str x
  | _, _, .lst h k => .lst (SqL.of h) (DtA.dp k)
  | _, _, .tup h k => .tup (.inl h) (DtA.dp k)
theorem DtA.dp {K : PySem.W.Frag} : ∀ {vs : List V} {ds : List PyData}, DtA H vs ds → DpAll K H vs ds
  | _, _, .nil => .nil
  | _, _, .cons a b => .cons (Dt.dp a) (DtA.dp b)
end
theorem DtA.len : ∀ {vs : List V} {ds : List PyData}, DtA H vs ds → vs.length = ds.length
  | _, _, .nil => rfl
  | _, _, .cons _ b => by simp [DtA.len b]
theorem DtA.get : ∀ {vs : List V} {ds : List PyData} {i : Nat} {d : PyData}, DtA H vs ds → ds[i]? = some d → ∃ v, vs[i]? = some v ∧ Dt H v d
  | _, _, i, d, .nil, h => by simp at h
  | _, _, 0, d, .cons a b, h => ⟨_, rfl, by simp at h; rw [← h]; exact a⟩
  | _, _, i + 1, d, .cons a b, h => by
    obtain ⟨v, h1, h2⟩ := DtA.get (i := i) b (by simpa using h)
    exact ⟨v, by simpa using h1, h2⟩
theorem DtA.getV : ∀ {vs : List V} {ds : List PyData} {i : Nat} {v : V}, DtA H vs ds → vs[i]? = some v → ∃ d, ds[i]? = some d ∧ Dt H v d
  | _, _, i, d, .nil, h => by simp at h
  | _, _, 0, d, .cons a b, h => ⟨_, rfl, by simp at h; rw [← h]; exact a⟩
  | _, _, i + 1, d, .cons a b, h => by
    obtain ⟨v, h1, h2⟩ := DtA.getV (i := i) b (by simpa using h)
    exact ⟨v, by simpa using h1, h2⟩
theorem DtA.snoc : ∀ {vs : List V} {ds : List PyData} {v : V} {d : PyData}, DtA H vs ds → Dt H v d → DtA H (vs ++ [v]) (ds ++ [d])
  | _, _, _, _, .nil, h => .cons h .nil
  | _, _, _, _, .cons a b, h => .cons a (DtA.snoc b h)
theorem DtA.append : ∀ {vs ws : List V} {ds es : List PyData}, DtA H vs ds → DtA H ws es → DtA H (vs ++ ws) (ds ++ es)
  | _, _, _, _, .nil, h => h
  | _, _, _, _, .cons a b, h => .cons a (DtA.append b h)
theorem DtA.take : ∀ {vs : List V} {ds : List PyData} (n : Nat), DtA H vs ds → DtA H (vs.take n) (ds.take n)
  | _, _, 0, _ => by simp; exact .nil
  | _, _, n + 1, .nil => by simp; exact .nil
  | _, _, n + 1, .cons a b => .cons a (DtA.take n b)
theorem DtA.drop : ∀ {vs : List V} {ds : List PyData} (n : Nat), DtA H vs ds → DtA H (vs.drop n) (ds.drop n)
  | _, _, 0, h => h
  | _, _, n + 1, .nil => by simp; exact .nil
  | _, _, n + 1, .cons a b => DtA.drop n b
theorem Dt.int_eq {v : V} {i : Int} (h : Dt H v (.int i)) : v = .int i := by cases h; rfl
theorem Dt.str_eq {v : V} {x : Str} (h : Dt H v (.str x)) : v = .str x := by cases h; rfl
theorem Dt.non_eq {v : V} (h : Dt H v .none) : v = .non := by cases h; rfl
theorem Dt.tup_at {v : V} {ds : List PyData} (h : Dt H v (.tuple ds)) : ∃ a xs, v = .ref a ∧ Rd H a (.tup xs) ∧ DtA H xs ds := by
  cases h with
  | tup a b => exact ⟨_, _, rfl, a, b⟩
theorem Dt.lst_at {v : V} {ds : List PyData} (h : Dt H v (.list ds)) : ∃ a xs, v = .ref a ∧ H a = some (.lst xs) ∧ DtA H xs ds := by
  cases h with
  | lst a b => exact ⟨_, _, rfl, a, b⟩
theorem DtA.cons_inv {vs : List V} {d : PyData} {ds : List PyData} (h : DtA H vs (d :: ds)) : ∃ v r, vs = v :: r ∧ Dt H v d ∧ DtA H r ds := by
  cases h with
  | cons a b => exact ⟨_, _, rfl, a, b⟩
theorem DtA.nil_inv {vs : List V} (h : DtA H vs []) : vs = [] := by cases h; rfl
theorem DtA.ints : ∀ {vs : List V} {ns : List Int}, DtA H vs (ns.map .int) → vs = ns.map V.int
  | vs, [], h => by rw [h.nil_inv]; rfl
  | vs, n :: r, h => by
    obtain ⟨v, l, rfl, h1, h2⟩ := DtA.cons_inv h
    rw [h1.int_eq, DtA.ints h2]; rfl
theorem DtA.of_ints : ∀ (ns : List Int), DtA H (ns.map V.int) (ns.map .int)
  | [] => .nil
  | n :: r => .cons (.int n) (DtA.of_ints r)
theorem DtA.strs : ∀ {vs : List V} {ns : List Str}, DtA H vs (ns.map .str) → vs = ns.map V.str
  | vs, [], h => by rw [h.nil_inv]; rfl
  | vs, n :: r, h => by
    obtain ⟨v, l, rfl, h1, h2⟩ := DtA.cons_inv h
    rw [h1.str_eq, DtA.strs h2]; rfl
theorem DtA.of_strs : ∀ (ns : List Str), DtA H (ns.map V.str) (ns.map .str)
  | [] => .nil
  | n :: r => .cons (.str n) (DtA.of_strs r)
end
end EF
set_option maxHeartbeats 4000000
namespace EF
open PySem PySem.Spec PyProof.Rows L2 Evl
/-! ### the text by places -/
def top (i : Nat) : Stmt := PySem.Challenge.pw_everyfire_k62_whole_lean_lands.main.body.getD i (.Pass ⟨0, 0, 0, 0⟩)
abbrev s_check_winds : Stmt := top 10
abbrev s_check_changes : Stmt := top 11
abbrev s_blowing : Stmt := top 12
abbrev s_chances : Stmt := top 13
abbrev s_least_numbers : Stmt := top 15
abbrev s_most_numbers : Stmt := top 16
abbrev s_is_number : Stmt := top 17
abbrev s_check_numbers : Stmt := top 18
abbrev s_check_rows : Stmt := top 19
abbrev s_least_minutes : Stmt := top 20
abbrev s_caught : Stmt := top 21
abbrev s_spread : Stmt := top 22
abbrev s_check_fire : Stmt := top 23
abbrev s_told : Stmt := top 24
abbrev s_burning : Stmt := top 25
abbrev s_fastest : Stmt := top 26
abbrev s_slowest : Stmt := top 27
abbrev s_check_fire_at : Stmt := top 28
abbrev s_both_fires : Stmt := top 30
abbrev s_idle_links : Stmt := top 31
abbrev s_lean_land : Stmt := top 32
abbrev s_needed_links : Stmt := top 33
abbrev s_is_name : Stmt := top 42
abbrev s_are_different : Stmt := top 43
abbrev s_require : Stmt := top 44
abbrev s_checked_times : Stmt := top 45
abbrev s_law_row : Stmt := top 48
abbrev s_law_numbers : Stmt := top 49
abbrev s_law_names : Stmt := top 50
abbrev s_law_parts : Stmt := top 51
abbrev s_law_weather : Stmt := top 52
abbrev s_law_wind : Stmt := top 53
abbrev s_law_caught : Stmt := top 54
abbrev s_law_fire : Stmt := top 55
abbrev s_law_rows : Stmt := top 56
abbrev s_law_land : Stmt := top 57
abbrev s_law_fires : Stmt := top 58
abbrev s_law_without : Stmt := top 59
abbrev s_law_idle : Stmt := top 60
abbrev s_law_refused : Stmt := top 61
abbrev s_law : Stmt := top 62
abbrev sL_init : Stmt := inClass (top 46) 0
abbrev sL_are_ends : Stmt := inClass (top 46) 1
abbrev sL_checked_link : Stmt := inClass (top 46) 2
abbrev sL_checked_path : Stmt := inClass (top 46) 3
abbrev sL_check_place : Stmt := inClass (top 46) 5
abbrev sL_check_wind : Stmt := inClass (top 46) 6
abbrev sL_link : Stmt := inClass (top 46) 7
abbrev sL_with_parts : Stmt := inClass (top 46) 13
abbrev sL_without_link : Stmt := inClass (top 46) 15
abbrev sL_link_names : Stmt := inClass (top 46) 4
abbrev sU_init : Stmt := inClass (top 4) 0
def d_check_winds : He.DefD := ⟨("check_winds", none), "check_winds", "check_winds", defArgs s_check_winds, defBody s_check_winds, defScope s_check_winds, [], []⟩
def d_check_changes : He.DefD := ⟨("check_changes", none), "check_changes", "check_changes", defArgs s_check_changes, defBody s_check_changes, defScope s_check_changes, [], []⟩
def d_blowing : He.DefD := ⟨("blowing", none), "blowing", "blowing", defArgs s_blowing, defBody s_blowing, defScope s_blowing, [], []⟩
def d_chances : He.DefD := ⟨("chances", none), "chances", "chances", defArgs s_chances, defBody s_chances, defScope s_chances, [], []⟩
def d_least_numbers : He.DefD := ⟨("least_numbers", none), "least_numbers", "least_numbers", defArgs s_least_numbers, defBody s_least_numbers, defScope s_least_numbers, [], []⟩
def d_most_numbers : He.DefD := ⟨("most_numbers", none), "most_numbers", "most_numbers", defArgs s_most_numbers, defBody s_most_numbers, defScope s_most_numbers, [], []⟩
def d_is_number : He.DefD := ⟨("is_number", none), "is_number", "is_number", defArgs s_is_number, defBody s_is_number, defScope s_is_number, [], []⟩
def d_check_numbers : He.DefD := ⟨("check_numbers", none), "check_numbers", "check_numbers", defArgs s_check_numbers, defBody s_check_numbers, defScope s_check_numbers, [], []⟩
def d_check_rows : He.DefD := ⟨("check_rows", none), "check_rows", "check_rows", defArgs s_check_rows, defBody s_check_rows, defScope s_check_rows, [], []⟩
def d_least_minutes : He.DefD := ⟨("least_minutes", none), "least_minutes", "least_minutes", defArgs s_least_minutes, defBody s_least_minutes, defScope s_least_minutes, [], []⟩
def d_caught : He.DefD := ⟨("caught", none), "caught", "caught", defArgs s_caught, defBody s_caught, defScope s_caught, [], []⟩
def d_spread : He.DefD := ⟨("spread", none), "spread", "spread", defArgs s_spread, defBody s_spread, defScope s_spread, [], []⟩
def d_check_fire : He.DefD := ⟨("check_fire", none), "check_fire", "check_fire", defArgs s_check_fire, defBody s_check_fire, defScope s_check_fire, [], []⟩
def d_told : He.DefD := ⟨("told", none), "told", "told", defArgs s_told, defBody s_told, defScope s_told, [], []⟩
def d_burning : He.DefD := ⟨("burning", none), "burning", "burning", defArgs s_burning, defBody s_burning, defScope s_burning, [], []⟩
def d_fastest : He.DefD := ⟨("fastest", none), "fastest", "fastest", defArgs s_fastest, defBody s_fastest, defScope s_fastest, [], []⟩
def d_slowest : He.DefD := ⟨("slowest", none), "slowest", "slowest", defArgs s_slowest, defBody s_slowest, defScope s_slowest, [], []⟩
def d_check_fire_at : He.DefD := ⟨("check_fire_at", none), "check_fire_at", "check_fire_at", defArgs s_check_fire_at, defBody s_check_fire_at, defScope s_check_fire_at, [], []⟩
def d_both_fires : He.DefD := ⟨("both_fires", none), "both_fires", "both_fires", defArgs s_both_fires, defBody s_both_fires, defScope s_both_fires, [], []⟩
def d_idle_links : He.DefD := ⟨("idle_links", none), "idle_links", "idle_links", defArgs s_idle_links, defBody s_idle_links, defScope s_idle_links, [], []⟩
def d_lean_land : He.DefD := ⟨("lean_land", none), "lean_land", "lean_land", defArgs s_lean_land, defBody s_lean_land, defScope s_lean_land, [], []⟩
def d_needed_links : He.DefD := ⟨("needed_links", none), "needed_links", "needed_links", defArgs s_needed_links, defBody s_needed_links, defScope s_needed_links, [], []⟩
def d_is_name : He.DefD := ⟨("is_name", none), "is_name", "is_name", defArgs s_is_name, defBody s_is_name, defScope s_is_name, [], []⟩
def d_are_different : He.DefD := ⟨("are_different", none), "are_different", "are_different", defArgs s_are_different, defBody s_are_different, defScope s_are_different, [], []⟩
def d_require : He.DefD := ⟨("require", none), "require", "require", defArgs s_require, defBody s_require, defScope s_require, [], []⟩
def d_checked_times : He.DefD := ⟨("checked_times", none), "checked_times", "checked_times", defArgs s_checked_times, defBody s_checked_times, defScope s_checked_times, [], []⟩
def d_law_row : He.DefD := ⟨("_law_row", none), "_law_row", "_law_row", defArgs s_law_row, defBody s_law_row, defScope s_law_row, [], []⟩
def d_law_numbers : He.DefD := ⟨("_law_numbers", none), "_law_numbers", "_law_numbers", defArgs s_law_numbers, defBody s_law_numbers, defScope s_law_numbers, [], []⟩
def d_law_names : He.DefD := ⟨("_law_names", none), "_law_names", "_law_names", defArgs s_law_names, defBody s_law_names, defScope s_law_names, [], []⟩
def d_law_parts : He.DefD := ⟨("_law_parts", none), "_law_parts", "_law_parts", defArgs s_law_parts, defBody s_law_parts, defScope s_law_parts, [], []⟩
def d_law_weather : He.DefD := ⟨("_law_weather", none), "_law_weather", "_law_weather", defArgs s_law_weather, defBody s_law_weather, defScope s_law_weather, [], []⟩
def d_law_wind : He.DefD := ⟨("_law_wind", none), "_law_wind", "_law_wind", defArgs s_law_wind, defBody s_law_wind, defScope s_law_wind, [], []⟩
def d_law_caught : He.DefD := ⟨("_law_caught", none), "_law_caught", "_law_caught", defArgs s_law_caught, defBody s_law_caught, defScope s_law_caught, [], []⟩
def d_law_fire : He.DefD := ⟨("_law_fire", none), "_law_fire", "_law_fire", defArgs s_law_fire, defBody s_law_fire, defScope s_law_fire, [], []⟩
def d_law_rows : He.DefD := ⟨("_law_rows", none), "_law_rows", "_law_rows", defArgs s_law_rows, defBody s_law_rows, defScope s_law_rows, [], []⟩
def d_law_land : He.DefD := ⟨("_law_land", none), "_law_land", "_law_land", defArgs s_law_land, defBody s_law_land, defScope s_law_land, [], []⟩
def d_law_fires : He.DefD := ⟨("_law_fires", none), "_law_fires", "_law_fires", defArgs s_law_fires, defBody s_law_fires, defScope s_law_fires, [], []⟩
def d_law_without : He.DefD := ⟨("_law_without", none), "_law_without", "_law_without", defArgs s_law_without, defBody s_law_without, defScope s_law_without, [], []⟩
def d_law_idle : He.DefD := ⟨("_law_idle", none), "_law_idle", "_law_idle", defArgs s_law_idle, defBody s_law_idle, defScope s_law_idle, [], []⟩
def d_law_refused : He.DefD := ⟨("_law_refused", none), "_law_refused", "_law_refused", defArgs s_law_refused, defBody s_law_refused, defScope s_law_refused, [], []⟩
def d_law : He.DefD := ⟨("law", none), "law", "law", defArgs s_law, defBody s_law, defScope s_law, [], []⟩
def dL_init : He.DefD := ⟨("Land", some "__init__"), "__init__", "Land.__init__", defArgs sL_init, defBody sL_init, defScope sL_init, [], []⟩
def dL_are_ends : He.DefD := ⟨("Land", some "are_ends"), "are_ends", "Land.are_ends", defArgs sL_are_ends, defBody sL_are_ends, defScope sL_are_ends, [], []⟩
def dL_checked_link : He.DefD := ⟨("Land", some "checked_link"), "checked_link", "Land.checked_link", defArgs sL_checked_link, defBody sL_checked_link, defScope sL_checked_link, [], []⟩
def dL_checked_path : He.DefD := ⟨("Land", some "checked_path"), "checked_path", "Land.checked_path", defArgs sL_checked_path, defBody sL_checked_path, defScope sL_checked_path, [], []⟩
def dL_check_place : He.DefD := ⟨("Land", some "check_place"), "check_place", "Land.check_place", defArgs sL_check_place, defBody sL_check_place, defScope sL_check_place, [], []⟩
def dL_check_wind : He.DefD := ⟨("Land", some "check_wind"), "check_wind", "Land.check_wind", defArgs sL_check_wind, defBody sL_check_wind, defScope sL_check_wind, [], []⟩
def dL_link : He.DefD := ⟨("Land", some "link"), "link", "Land.link", defArgs sL_link, defBody sL_link, defScope sL_link, [], []⟩
def dL_with_parts : He.DefD := ⟨("Land", some "with_parts"), "with_parts", "Land.with_parts", defArgs sL_with_parts, defBody sL_with_parts, defScope sL_with_parts, [], [("places", .non), ("links", .non), ("paths", .non)]⟩
def dL_without_link : He.DefD := ⟨("Land", some "without_link"), "without_link", "Land.without_link", defArgs sL_without_link, defBody sL_without_link, defScope sL_without_link, [], []⟩
def fn : List He.DefD := [d_check_winds, d_check_changes, d_blowing, d_chances, d_least_numbers, d_most_numbers, d_is_number, d_check_numbers, d_check_rows, d_least_minutes, d_caught, d_spread, d_check_fire, d_told, d_burning, d_fastest, d_slowest, d_check_fire_at, d_both_fires, d_idle_links, d_lean_land, d_needed_links, d_is_name, d_are_different, d_require, d_checked_times, d_law_row, d_law_numbers, d_law_names, d_law_parts, d_law_weather, d_law_wind, d_law_caught, d_law_fire, d_law_rows, d_law_land, d_law_fires, d_law_without, d_law_idle, d_law_refused, d_law, dL_init, dL_are_ends, dL_checked_link, dL_checked_path, dL_check_place, dL_check_wind, dL_link, dL_with_parts, dL_without_link]
def fa : List He.Fa := [.glo "check_winds", .glo "check_changes", .glo "blowing", .glo "chances", .glo "least_numbers", .glo "most_numbers", .glo "is_number", .glo "check_numbers", .glo "check_rows", .glo "least_minutes", .glo "caught", .glo "spread", .glo "check_fire", .glo "told", .glo "burning", .glo "fastest", .glo "slowest", .glo "check_fire_at", .glo "both_fires", .glo "idle_links", .glo "lean_land", .glo "needed_links", .glo "is_name", .glo "are_different", .glo "require", .glo "checked_times", .glo "_law_row", .glo "_law_numbers", .glo "_law_names", .glo "_law_parts", .glo "_law_weather", .glo "_law_wind", .glo "_law_caught", .glo "_law_fire", .glo "_law_rows", .glo "_law_land", .glo "_law_fires", .glo "_law_without", .glo "_law_idle", .glo "_law_refused", .glo "law", .glo "Land", .glo "UnknownName", .glo "InvalidWeather", .free "len", .free "min", .free "max", .free "zip", .free "all", .free "any", .free "tuple", .free "list", .free "dict", .free "sorted", .free "enumerate", .free "range", .free "int", .free "abs", .free "isinstance", .free "super", .free "ValueError", .int "MOST_CHANGES" 40, .int "MOST_MINUTE" 100000, .int "MOST_NAME_CHARS" 12, .int "MOST_WINDS" 4, .int "MOST_PLACES" 24, .int "MOST_LINKS" 60, .int "MOST_PATHS" 60, .int "MOST_MINUTES" 1000, .str "NAME_CHARS" "abcdefghijklmnopqrstuvwxyz0123456789", .cls "Land", .noat "Land" "winds", .noat "Land" "places", .noat "Land" "links", .noat "Land" "paths", .meth "Land" "are_ends", .meth "Land" "checked_link", .meth "Land" "checked_path", .meth "Land" "check_place", .meth "Land" "check_wind", .meth "Land" "link", .meth "Land" "with_parts", .meth "Land" "without_link", .mkr "Land", .exc "InvalidWeather", .exm "UnknownName" "UnknownName" true, .exm "InvalidWeather" "UnknownName" false, .exm "InvalidWeather" "InvalidWeather" true]
/-! ### what stands behind the top -/
structure Says (K : PySem.W.Frag) (mg : Str → Option Value) : Prop where
  c : He.SaysD fa fn K
  hp : ∃ h : Heap, K.In h ∧ h.Ns mainGlobals mg
section
variable {K : PySem.W.Frag} {mg : Str → Option Value}
abbrev cLand (K : PySem.W.Frag) : Addr := He.ga K "Land"
abbrev cUnk (K : PySem.W.Frag) : Addr := He.ga K "UnknownName"
abbrev cWea (K : PySem.W.Frag) : Addr := He.ga K "InvalidWeather"
theorem Says.glo (S : Says K mg) (i : Nat) {x : Str} (h : fa[i]? = some (.glo x)) : mg x = some (.ref (He.ga K x)) := by
  obtain ⟨h0, X, G⟩ := S.hp
  exact He.glo_ok X G (S.c.fact i h)
theorem Says.free (S : Says K mg) (i : Nat) {x : Str} (h : fa[i]? = some (.free x)) : mg x = none := by
  obtain ⟨h0, X, G⟩ := S.hp
  exact He.free_ok X G (S.c.fact i h)
theorem Says.int (S : Says K mg) (i : Nat) {x : Str} {n : Int} (h : fa[i]? = some (.int x n)) : ∃ t, mg x = some (.int n t) := by
  obtain ⟨h0, X, G⟩ := S.hp
  exact He.int_ok X G (S.c.fact i h)
theorem Says.str (S : Says K mg) (i : Nat) {x z : Str} (h : fa[i]? = some (.str x z)) : ∃ t, mg x = some (.str z t) := by
  obtain ⟨h0, X, G⟩ := S.hp
  exact He.str_ok X G (S.c.fact i h)
theorem Says.g_check_winds (S : Says K mg) : mg "check_winds" = some (.ref (He.ga K "check_winds")) := S.glo 0 rfl
theorem Says.g_check_changes (S : Says K mg) : mg "check_changes" = some (.ref (He.ga K "check_changes")) := S.glo 1 rfl
theorem Says.g_blowing (S : Says K mg) : mg "blowing" = some (.ref (He.ga K "blowing")) := S.glo 2 rfl
theorem Says.g_chances (S : Says K mg) : mg "chances" = some (.ref (He.ga K "chances")) := S.glo 3 rfl
theorem Says.g_least_numbers (S : Says K mg) : mg "least_numbers" = some (.ref (He.ga K "least_numbers")) := S.glo 4 rfl
theorem Says.g_most_numbers (S : Says K mg) : mg "most_numbers" = some (.ref (He.ga K "most_numbers")) := S.glo 5 rfl
theorem Says.g_is_number (S : Says K mg) : mg "is_number" = some (.ref (He.ga K "is_number")) := S.glo 6 rfl
theorem Says.g_check_numbers (S : Says K mg) : mg "check_numbers" = some (.ref (He.ga K "check_numbers")) := S.glo 7 rfl
theorem Says.g_check_rows (S : Says K mg) : mg "check_rows" = some (.ref (He.ga K "check_rows")) := S.glo 8 rfl
theorem Says.g_least_minutes (S : Says K mg) : mg "least_minutes" = some (.ref (He.ga K "least_minutes")) := S.glo 9 rfl
theorem Says.g_caught (S : Says K mg) : mg "caught" = some (.ref (He.ga K "caught")) := S.glo 10 rfl
theorem Says.g_spread (S : Says K mg) : mg "spread" = some (.ref (He.ga K "spread")) := S.glo 11 rfl
theorem Says.g_check_fire (S : Says K mg) : mg "check_fire" = some (.ref (He.ga K "check_fire")) := S.glo 12 rfl
theorem Says.g_told (S : Says K mg) : mg "told" = some (.ref (He.ga K "told")) := S.glo 13 rfl
theorem Says.g_burning (S : Says K mg) : mg "burning" = some (.ref (He.ga K "burning")) := S.glo 14 rfl
theorem Says.g_fastest (S : Says K mg) : mg "fastest" = some (.ref (He.ga K "fastest")) := S.glo 15 rfl
theorem Says.g_slowest (S : Says K mg) : mg "slowest" = some (.ref (He.ga K "slowest")) := S.glo 16 rfl
theorem Says.g_check_fire_at (S : Says K mg) : mg "check_fire_at" = some (.ref (He.ga K "check_fire_at")) := S.glo 17 rfl
theorem Says.g_both_fires (S : Says K mg) : mg "both_fires" = some (.ref (He.ga K "both_fires")) := S.glo 18 rfl
theorem Says.g_idle_links (S : Says K mg) : mg "idle_links" = some (.ref (He.ga K "idle_links")) := S.glo 19 rfl
theorem Says.g_lean_land (S : Says K mg) : mg "lean_land" = some (.ref (He.ga K "lean_land")) := S.glo 20 rfl
theorem Says.g_needed_links (S : Says K mg) : mg "needed_links" = some (.ref (He.ga K "needed_links")) := S.glo 21 rfl
theorem Says.g_is_name (S : Says K mg) : mg "is_name" = some (.ref (He.ga K "is_name")) := S.glo 22 rfl
theorem Says.g_are_different (S : Says K mg) : mg "are_different" = some (.ref (He.ga K "are_different")) := S.glo 23 rfl
theorem Says.g_require (S : Says K mg) : mg "require" = some (.ref (He.ga K "require")) := S.glo 24 rfl
theorem Says.g_checked_times (S : Says K mg) : mg "checked_times" = some (.ref (He.ga K "checked_times")) := S.glo 25 rfl
theorem Says.g_law_row (S : Says K mg) : mg "_law_row" = some (.ref (He.ga K "_law_row")) := S.glo 26 rfl
theorem Says.g_law_numbers (S : Says K mg) : mg "_law_numbers" = some (.ref (He.ga K "_law_numbers")) := S.glo 27 rfl
theorem Says.g_law_names (S : Says K mg) : mg "_law_names" = some (.ref (He.ga K "_law_names")) := S.glo 28 rfl
theorem Says.g_law_parts (S : Says K mg) : mg "_law_parts" = some (.ref (He.ga K "_law_parts")) := S.glo 29 rfl
theorem Says.g_law_weather (S : Says K mg) : mg "_law_weather" = some (.ref (He.ga K "_law_weather")) := S.glo 30 rfl
theorem Says.g_law_wind (S : Says K mg) : mg "_law_wind" = some (.ref (He.ga K "_law_wind")) := S.glo 31 rfl
theorem Says.g_law_caught (S : Says K mg) : mg "_law_caught" = some (.ref (He.ga K "_law_caught")) := S.glo 32 rfl
theorem Says.g_law_fire (S : Says K mg) : mg "_law_fire" = some (.ref (He.ga K "_law_fire")) := S.glo 33 rfl
theorem Says.g_law_rows (S : Says K mg) : mg "_law_rows" = some (.ref (He.ga K "_law_rows")) := S.glo 34 rfl
theorem Says.g_law_land (S : Says K mg) : mg "_law_land" = some (.ref (He.ga K "_law_land")) := S.glo 35 rfl
theorem Says.g_law_fires (S : Says K mg) : mg "_law_fires" = some (.ref (He.ga K "_law_fires")) := S.glo 36 rfl
theorem Says.g_law_without (S : Says K mg) : mg "_law_without" = some (.ref (He.ga K "_law_without")) := S.glo 37 rfl
theorem Says.g_law_idle (S : Says K mg) : mg "_law_idle" = some (.ref (He.ga K "_law_idle")) := S.glo 38 rfl
theorem Says.g_law_refused (S : Says K mg) : mg "_law_refused" = some (.ref (He.ga K "_law_refused")) := S.glo 39 rfl
theorem Says.g_law (S : Says K mg) : mg "law" = some (.ref (He.ga K "law")) := S.glo 40 rfl
theorem Says.g_Land (S : Says K mg) : mg "Land" = some (.ref (He.ga K "Land")) := S.glo 41 rfl
theorem Says.g_UnknownName (S : Says K mg) : mg "UnknownName" = some (.ref (He.ga K "UnknownName")) := S.glo 42 rfl
theorem Says.g_InvalidWeather (S : Says K mg) : mg "InvalidWeather" = some (.ref (He.ga K "InvalidWeather")) := S.glo 43 rfl
theorem Says.f_len (S : Says K mg) : mg "len" = none := S.free 44 rfl
theorem Says.f_min (S : Says K mg) : mg "min" = none := S.free 45 rfl
theorem Says.f_max (S : Says K mg) : mg "max" = none := S.free 46 rfl
theorem Says.f_zip (S : Says K mg) : mg "zip" = none := S.free 47 rfl
theorem Says.f_all (S : Says K mg) : mg "all" = none := S.free 48 rfl
theorem Says.f_any (S : Says K mg) : mg "any" = none := S.free 49 rfl
theorem Says.f_tuple (S : Says K mg) : mg "tuple" = none := S.free 50 rfl
theorem Says.f_list (S : Says K mg) : mg "list" = none := S.free 51 rfl
theorem Says.f_dict (S : Says K mg) : mg "dict" = none := S.free 52 rfl
theorem Says.f_sorted (S : Says K mg) : mg "sorted" = none := S.free 53 rfl
theorem Says.f_enumerate (S : Says K mg) : mg "enumerate" = none := S.free 54 rfl
theorem Says.f_range (S : Says K mg) : mg "range" = none := S.free 55 rfl
theorem Says.f_int (S : Says K mg) : mg "int" = none := S.free 56 rfl
theorem Says.f_abs (S : Says K mg) : mg "abs" = none := S.free 57 rfl
theorem Says.f_isinstance (S : Says K mg) : mg "isinstance" = none := S.free 58 rfl
theorem Says.f_super (S : Says K mg) : mg "super" = none := S.free 59 rfl
theorem Says.f_ValueError (S : Says K mg) : mg "ValueError" = none := S.free 60 rfl
theorem Says.i_MOST_CHANGES (S : Says K mg) : ∃ t, mg "MOST_CHANGES" = some (.int 40 t) := S.int 61 rfl
theorem Says.i_MOST_MINUTE (S : Says K mg) : ∃ t, mg "MOST_MINUTE" = some (.int 100000 t) := S.int 62 rfl
theorem Says.i_MOST_NAME_CHARS (S : Says K mg) : ∃ t, mg "MOST_NAME_CHARS" = some (.int 12 t) := S.int 63 rfl
theorem Says.i_MOST_WINDS (S : Says K mg) : ∃ t, mg "MOST_WINDS" = some (.int 4 t) := S.int 64 rfl
theorem Says.i_MOST_PLACES (S : Says K mg) : ∃ t, mg "MOST_PLACES" = some (.int 24 t) := S.int 65 rfl
theorem Says.i_MOST_LINKS (S : Says K mg) : ∃ t, mg "MOST_LINKS" = some (.int 60 t) := S.int 66 rfl
theorem Says.i_MOST_PATHS (S : Says K mg) : ∃ t, mg "MOST_PATHS" = some (.int 60 t) := S.int 67 rfl
theorem Says.i_MOST_MINUTES (S : Says K mg) : ∃ t, mg "MOST_MINUTES" = some (.int 1000 t) := S.int 68 rfl
theorem Says.str_NAME_CHARS (S : Says K mg) : ∃ t, mg "NAME_CHARS" = some (.str "abcdefghijklmnopqrstuvwxyz0123456789" t) := S.str 69 rfl
theorem Says.cl (S : Says K mg) : Cls K (cLand K) := He.cls_ok (x := "Land") (S.c.fact 70 rfl)
theorem Says.na_winds (S : Says K mg) : NoAttr K (cLand K) "winds" := He.noat_ok (x := "Land") (S.c.fact 71 rfl)
theorem Says.na_places (S : Says K mg) : NoAttr K (cLand K) "places" := He.noat_ok (x := "Land") (S.c.fact 72 rfl)
theorem Says.na_links (S : Says K mg) : NoAttr K (cLand K) "links" := He.noat_ok (x := "Land") (S.c.fact 73 rfl)
theorem Says.na_paths (S : Says K mg) : NoAttr K (cLand K) "paths" := He.noat_ok (x := "Land") (S.c.fact 74 rfl)
theorem Says.m_are_ends (S : Says K mg) : Meth K (cLand K) "are_ends" (He.ma K (cLand K) "are_ends") := He.meth_ok (x := "Land") (S.c.fact 75 rfl)
theorem Says.m_checked_link (S : Says K mg) : Meth K (cLand K) "checked_link" (He.ma K (cLand K) "checked_link") := He.meth_ok (x := "Land") (S.c.fact 76 rfl)
theorem Says.m_checked_path (S : Says K mg) : Meth K (cLand K) "checked_path" (He.ma K (cLand K) "checked_path") := He.meth_ok (x := "Land") (S.c.fact 77 rfl)
theorem Says.m_check_place (S : Says K mg) : Meth K (cLand K) "check_place" (He.ma K (cLand K) "check_place") := He.meth_ok (x := "Land") (S.c.fact 78 rfl)
theorem Says.m_check_wind (S : Says K mg) : Meth K (cLand K) "check_wind" (He.ma K (cLand K) "check_wind") := He.meth_ok (x := "Land") (S.c.fact 79 rfl)
theorem Says.m_link (S : Says K mg) : Meth K (cLand K) "link" (He.ma K (cLand K) "link") := He.meth_ok (x := "Land") (S.c.fact 80 rfl)
theorem Says.m_with_parts (S : Says K mg) : Meth K (cLand K) "with_parts" (He.ma K (cLand K) "with_parts") := He.meth_ok (x := "Land") (S.c.fact 81 rfl)
theorem Says.m_without_link (S : Says K mg) : Meth K (cLand K) "without_link" (He.ma K (cLand K) "without_link") := He.meth_ok (x := "Land") (S.c.fact 82 rfl)
theorem Says.mkL (S : Says K mg) : Mk K (cLand K) (He.ma K (cLand K) "__init__") := He.mkr_ok (x := "Land") (S.c.fact 83 rfl)
theorem Says.xW (S : Says K mg) : PySem.W.excIn K (cWea K) He.veBase "ValueError.__new__" = true ∧ PySem.W.keepIn K (.ref (cWea K)) = true ∧ PySem.W.subIn K (.ref (cWea K)) (.type "BaseException") = some true ∧ PySem.W.typeIn K (.ref (cWea K)) = some (.type "type") := He.exc_ok (x := "InvalidWeather") (S.c.fact 84 rfl)
theorem Says.xUU (S : Says K mg) : PySem.W.exmOne K (.ref (cUnk K)) (.ref (cUnk K)) = some true := He.exm_ok (x := "UnknownName") (y := "UnknownName") (S.c.fact 85 rfl)
theorem Says.xWU (S : Says K mg) : PySem.W.exmOne K (.ref (cWea K)) (.ref (cUnk K)) = some false := He.exm_ok (x := "InvalidWeather") (y := "UnknownName") (S.c.fact 86 rfl)
theorem Says.xWW (S : Says K mg) : PySem.W.exmOne K (.ref (cWea K)) (.ref (cWea K)) = some true := He.exm_ok (x := "InvalidWeather") (y := "InvalidWeather") (S.c.fact 87 rfl)
theorem Says.def_check_winds (S : Says K mg) : ∃ fd, FunD K "check_winds" "check_winds" (defArgs s_check_winds) (defBody s_check_winds) (defScope s_check_winds) [] [] (He.ga K "check_winds") fd := S.c.def_ 0 (d := d_check_winds) rfl
theorem Says.def_check_changes (S : Says K mg) : ∃ fd, FunD K "check_changes" "check_changes" (defArgs s_check_changes) (defBody s_check_changes) (defScope s_check_changes) [] [] (He.ga K "check_changes") fd := S.c.def_ 1 (d := d_check_changes) rfl
theorem Says.def_blowing (S : Says K mg) : ∃ fd, FunD K "blowing" "blowing" (defArgs s_blowing) (defBody s_blowing) (defScope s_blowing) [] [] (He.ga K "blowing") fd := S.c.def_ 2 (d := d_blowing) rfl
theorem Says.def_chances (S : Says K mg) : ∃ fd, FunD K "chances" "chances" (defArgs s_chances) (defBody s_chances) (defScope s_chances) [] [] (He.ga K "chances") fd := S.c.def_ 3 (d := d_chances) rfl
theorem Says.def_least_numbers (S : Says K mg) : ∃ fd, FunD K "least_numbers" "least_numbers" (defArgs s_least_numbers) (defBody s_least_numbers) (defScope s_least_numbers) [] [] (He.ga K "least_numbers") fd := S.c.def_ 4 (d := d_least_numbers) rfl
theorem Says.def_most_numbers (S : Says K mg) : ∃ fd, FunD K "most_numbers" "most_numbers" (defArgs s_most_numbers) (defBody s_most_numbers) (defScope s_most_numbers) [] [] (He.ga K "most_numbers") fd := S.c.def_ 5 (d := d_most_numbers) rfl
theorem Says.def_is_number (S : Says K mg) : ∃ fd, FunD K "is_number" "is_number" (defArgs s_is_number) (defBody s_is_number) (defScope s_is_number) [] [] (He.ga K "is_number") fd := S.c.def_ 6 (d := d_is_number) rfl
theorem Says.def_check_numbers (S : Says K mg) : ∃ fd, FunD K "check_numbers" "check_numbers" (defArgs s_check_numbers) (defBody s_check_numbers) (defScope s_check_numbers) [] [] (He.ga K "check_numbers") fd := S.c.def_ 7 (d := d_check_numbers) rfl
theorem Says.def_check_rows (S : Says K mg) : ∃ fd, FunD K "check_rows" "check_rows" (defArgs s_check_rows) (defBody s_check_rows) (defScope s_check_rows) [] [] (He.ga K "check_rows") fd := S.c.def_ 8 (d := d_check_rows) rfl
theorem Says.def_least_minutes (S : Says K mg) : ∃ fd, FunD K "least_minutes" "least_minutes" (defArgs s_least_minutes) (defBody s_least_minutes) (defScope s_least_minutes) [] [] (He.ga K "least_minutes") fd := S.c.def_ 9 (d := d_least_minutes) rfl
theorem Says.def_caught (S : Says K mg) : ∃ fd, FunD K "caught" "caught" (defArgs s_caught) (defBody s_caught) (defScope s_caught) [] [] (He.ga K "caught") fd := S.c.def_ 10 (d := d_caught) rfl
theorem Says.def_spread (S : Says K mg) : ∃ fd, FunD K "spread" "spread" (defArgs s_spread) (defBody s_spread) (defScope s_spread) [] [] (He.ga K "spread") fd := S.c.def_ 11 (d := d_spread) rfl
theorem Says.def_check_fire (S : Says K mg) : ∃ fd, FunD K "check_fire" "check_fire" (defArgs s_check_fire) (defBody s_check_fire) (defScope s_check_fire) [] [] (He.ga K "check_fire") fd := S.c.def_ 12 (d := d_check_fire) rfl
theorem Says.def_told (S : Says K mg) : ∃ fd, FunD K "told" "told" (defArgs s_told) (defBody s_told) (defScope s_told) [] [] (He.ga K "told") fd := S.c.def_ 13 (d := d_told) rfl
theorem Says.def_burning (S : Says K mg) : ∃ fd, FunD K "burning" "burning" (defArgs s_burning) (defBody s_burning) (defScope s_burning) [] [] (He.ga K "burning") fd := S.c.def_ 14 (d := d_burning) rfl
theorem Says.def_fastest (S : Says K mg) : ∃ fd, FunD K "fastest" "fastest" (defArgs s_fastest) (defBody s_fastest) (defScope s_fastest) [] [] (He.ga K "fastest") fd := S.c.def_ 15 (d := d_fastest) rfl
theorem Says.def_slowest (S : Says K mg) : ∃ fd, FunD K "slowest" "slowest" (defArgs s_slowest) (defBody s_slowest) (defScope s_slowest) [] [] (He.ga K "slowest") fd := S.c.def_ 16 (d := d_slowest) rfl
theorem Says.def_check_fire_at (S : Says K mg) : ∃ fd, FunD K "check_fire_at" "check_fire_at" (defArgs s_check_fire_at) (defBody s_check_fire_at) (defScope s_check_fire_at) [] [] (He.ga K "check_fire_at") fd := S.c.def_ 17 (d := d_check_fire_at) rfl
theorem Says.def_both_fires (S : Says K mg) : ∃ fd, FunD K "both_fires" "both_fires" (defArgs s_both_fires) (defBody s_both_fires) (defScope s_both_fires) [] [] (He.ga K "both_fires") fd := S.c.def_ 18 (d := d_both_fires) rfl
theorem Says.def_idle_links (S : Says K mg) : ∃ fd, FunD K "idle_links" "idle_links" (defArgs s_idle_links) (defBody s_idle_links) (defScope s_idle_links) [] [] (He.ga K "idle_links") fd := S.c.def_ 19 (d := d_idle_links) rfl
theorem Says.def_lean_land (S : Says K mg) : ∃ fd, FunD K "lean_land" "lean_land" (defArgs s_lean_land) (defBody s_lean_land) (defScope s_lean_land) [] [] (He.ga K "lean_land") fd := S.c.def_ 20 (d := d_lean_land) rfl
theorem Says.def_needed_links (S : Says K mg) : ∃ fd, FunD K "needed_links" "needed_links" (defArgs s_needed_links) (defBody s_needed_links) (defScope s_needed_links) [] [] (He.ga K "needed_links") fd := S.c.def_ 21 (d := d_needed_links) rfl
theorem Says.def_is_name (S : Says K mg) : ∃ fd, FunD K "is_name" "is_name" (defArgs s_is_name) (defBody s_is_name) (defScope s_is_name) [] [] (He.ga K "is_name") fd := S.c.def_ 22 (d := d_is_name) rfl
theorem Says.def_are_different (S : Says K mg) : ∃ fd, FunD K "are_different" "are_different" (defArgs s_are_different) (defBody s_are_different) (defScope s_are_different) [] [] (He.ga K "are_different") fd := S.c.def_ 23 (d := d_are_different) rfl
theorem Says.def_require (S : Says K mg) : ∃ fd, FunD K "require" "require" (defArgs s_require) (defBody s_require) (defScope s_require) [] [] (He.ga K "require") fd := S.c.def_ 24 (d := d_require) rfl
theorem Says.def_checked_times (S : Says K mg) : ∃ fd, FunD K "checked_times" "checked_times" (defArgs s_checked_times) (defBody s_checked_times) (defScope s_checked_times) [] [] (He.ga K "checked_times") fd := S.c.def_ 25 (d := d_checked_times) rfl
theorem Says.def_law_row (S : Says K mg) : ∃ fd, FunD K "_law_row" "_law_row" (defArgs s_law_row) (defBody s_law_row) (defScope s_law_row) [] [] (He.ga K "_law_row") fd := S.c.def_ 26 (d := d_law_row) rfl
theorem Says.def_law_numbers (S : Says K mg) : ∃ fd, FunD K "_law_numbers" "_law_numbers" (defArgs s_law_numbers) (defBody s_law_numbers) (defScope s_law_numbers) [] [] (He.ga K "_law_numbers") fd := S.c.def_ 27 (d := d_law_numbers) rfl
theorem Says.def_law_names (S : Says K mg) : ∃ fd, FunD K "_law_names" "_law_names" (defArgs s_law_names) (defBody s_law_names) (defScope s_law_names) [] [] (He.ga K "_law_names") fd := S.c.def_ 28 (d := d_law_names) rfl
theorem Says.def_law_parts (S : Says K mg) : ∃ fd, FunD K "_law_parts" "_law_parts" (defArgs s_law_parts) (defBody s_law_parts) (defScope s_law_parts) [] [] (He.ga K "_law_parts") fd := S.c.def_ 29 (d := d_law_parts) rfl
theorem Says.def_law_weather (S : Says K mg) : ∃ fd, FunD K "_law_weather" "_law_weather" (defArgs s_law_weather) (defBody s_law_weather) (defScope s_law_weather) [] [] (He.ga K "_law_weather") fd := S.c.def_ 30 (d := d_law_weather) rfl
theorem Says.def_law_wind (S : Says K mg) : ∃ fd, FunD K "_law_wind" "_law_wind" (defArgs s_law_wind) (defBody s_law_wind) (defScope s_law_wind) [] [] (He.ga K "_law_wind") fd := S.c.def_ 31 (d := d_law_wind) rfl
theorem Says.def_law_caught (S : Says K mg) : ∃ fd, FunD K "_law_caught" "_law_caught" (defArgs s_law_caught) (defBody s_law_caught) (defScope s_law_caught) [] [] (He.ga K "_law_caught") fd := S.c.def_ 32 (d := d_law_caught) rfl
theorem Says.def_law_fire (S : Says K mg) : ∃ fd, FunD K "_law_fire" "_law_fire" (defArgs s_law_fire) (defBody s_law_fire) (defScope s_law_fire) [] [] (He.ga K "_law_fire") fd := S.c.def_ 33 (d := d_law_fire) rfl
theorem Says.def_law_rows (S : Says K mg) : ∃ fd, FunD K "_law_rows" "_law_rows" (defArgs s_law_rows) (defBody s_law_rows) (defScope s_law_rows) [] [] (He.ga K "_law_rows") fd := S.c.def_ 34 (d := d_law_rows) rfl
theorem Says.def_law_land (S : Says K mg) : ∃ fd, FunD K "_law_land" "_law_land" (defArgs s_law_land) (defBody s_law_land) (defScope s_law_land) [] [] (He.ga K "_law_land") fd := S.c.def_ 35 (d := d_law_land) rfl
theorem Says.def_law_fires (S : Says K mg) : ∃ fd, FunD K "_law_fires" "_law_fires" (defArgs s_law_fires) (defBody s_law_fires) (defScope s_law_fires) [] [] (He.ga K "_law_fires") fd := S.c.def_ 36 (d := d_law_fires) rfl
theorem Says.def_law_without (S : Says K mg) : ∃ fd, FunD K "_law_without" "_law_without" (defArgs s_law_without) (defBody s_law_without) (defScope s_law_without) [] [] (He.ga K "_law_without") fd := S.c.def_ 37 (d := d_law_without) rfl
theorem Says.def_law_idle (S : Says K mg) : ∃ fd, FunD K "_law_idle" "_law_idle" (defArgs s_law_idle) (defBody s_law_idle) (defScope s_law_idle) [] [] (He.ga K "_law_idle") fd := S.c.def_ 38 (d := d_law_idle) rfl
theorem Says.def_law_refused (S : Says K mg) : ∃ fd, FunD K "_law_refused" "_law_refused" (defArgs s_law_refused) (defBody s_law_refused) (defScope s_law_refused) [] [] (He.ga K "_law_refused") fd := S.c.def_ 39 (d := d_law_refused) rfl
theorem Says.def_law (S : Says K mg) : ∃ fd, FunD K "law" "law" (defArgs s_law) (defBody s_law) (defScope s_law) [] [] (He.ga K "law") fd := S.c.def_ 40 (d := d_law) rfl
theorem Says.defL_init (S : Says K mg) : ∃ fd, FunD K "__init__" "Land.__init__" (defArgs sL_init) (defBody sL_init) (defScope sL_init) [] [] (He.ma K (cLand K) "__init__") fd := S.c.def_ 41 (d := dL_init) rfl
theorem Says.defL_are_ends (S : Says K mg) : ∃ fd, FunD K "are_ends" "Land.are_ends" (defArgs sL_are_ends) (defBody sL_are_ends) (defScope sL_are_ends) [] [] (He.ma K (cLand K) "are_ends") fd := S.c.def_ 42 (d := dL_are_ends) rfl
theorem Says.defL_checked_link (S : Says K mg) : ∃ fd, FunD K "checked_link" "Land.checked_link" (defArgs sL_checked_link) (defBody sL_checked_link) (defScope sL_checked_link) [] [] (He.ma K (cLand K) "checked_link") fd := S.c.def_ 43 (d := dL_checked_link) rfl
theorem Says.defL_checked_path (S : Says K mg) : ∃ fd, FunD K "checked_path" "Land.checked_path" (defArgs sL_checked_path) (defBody sL_checked_path) (defScope sL_checked_path) [] [] (He.ma K (cLand K) "checked_path") fd := S.c.def_ 44 (d := dL_checked_path) rfl
theorem Says.defL_check_place (S : Says K mg) : ∃ fd, FunD K "check_place" "Land.check_place" (defArgs sL_check_place) (defBody sL_check_place) (defScope sL_check_place) [] [] (He.ma K (cLand K) "check_place") fd := S.c.def_ 45 (d := dL_check_place) rfl
theorem Says.defL_check_wind (S : Says K mg) : ∃ fd, FunD K "check_wind" "Land.check_wind" (defArgs sL_check_wind) (defBody sL_check_wind) (defScope sL_check_wind) [] [] (He.ma K (cLand K) "check_wind") fd := S.c.def_ 46 (d := dL_check_wind) rfl
theorem Says.defL_link (S : Says K mg) : ∃ fd, FunD K "link" "Land.link" (defArgs sL_link) (defBody sL_link) (defScope sL_link) [] [] (He.ma K (cLand K) "link") fd := S.c.def_ 47 (d := dL_link) rfl
theorem Says.defL_with_parts (S : Says K mg) : ∃ fd, FunD K "with_parts" "Land.with_parts" (defArgs sL_with_parts) (defBody sL_with_parts) (defScope sL_with_parts) [] [("places", .non), ("links", .non), ("paths", .non)] (He.ma K (cLand K) "with_parts") fd := S.c.def_ 48 (d := dL_with_parts) rfl
theorem Says.defL_without_link (S : Says K mg) : ∃ fd, FunD K "without_link" "Land.without_link" (defArgs sL_without_link) (defBody sL_without_link) (defScope sL_without_link) [] [] (He.ma K (cLand K) "without_link") fd := S.c.def_ 49 (d := dL_without_link) rfl
end
end EF
set_option maxHeartbeats 4000000
namespace EF
open PySem PySem.Spec PyProof.Rows L2 Evl
section
variable {X : Cx}
theorem pe_gint {x : Str} {i : Int} {pos : Pos} (h : ∃ t, X.mg x = some (.int i t)) (hg : Gl X x := by rfl) (hd : (x == ("__debug__" : Str)) = false := by decide) : PE X (.Name x pos) (tC (.int i)) := by
  obtain ⟨t, h⟩ := h
  exact pe_glob hg h ⟨t, rfl⟩ hd
theorem pe_gstr {x z : Str} {pos : Pos} (h : ∃ t, X.mg x = some (.str z t)) (hg : Gl X x := by rfl) (hd : (x == ("__debug__" : Str)) = false := by decide) : PE X (.Name x pos) (tC (.str z)) := by
  obtain ⟨t, h⟩ := h
  exact pe_glob hg h ⟨t, rfl⟩ hd
/-! ### an object that was just made is known from here on -/
def tFrz (t : TE) : TE := fun σ H Q => t σ H fun v H1 => ∃ a u, v = .ref a ∧ H1 a = some u ∧ Mut (some u) ∧ ∀ od, Q v (upd H1 a (.frz od u))
theorem pe_frz {e : Expr} {t : TE} (h : PE X e t) : PE X e (tFrz t) := by
  refine ⟨fun pins s σ H Q I q => ?_⟩
  refine thn (h.run pins s σ H _ I q) fun u s1 ⟨v, H1, I1, r, a, o, ev, ha, mu, k⟩ => ?_
  obtain ⟨od, I2⟩ := I1.lock ha mu
  exact ⟨v, _, I2, r, k od⟩
/-! ### tuple(x): a new tuple is known to its object, which has no dict -/
/-- a tuple that may be asked for its methods -/
def PlT (H : Hp) (a : Addr) (xs : List V) : Prop := ∃ o, H a = some (.frz o (.tup xs)) ∧ o.dict = none
theorem PlT.rd {H : Hp} {a : Addr} {xs : List V} (h : PlT H a xs) : Rd H a (.tup xs) := let ⟨o, h1, _⟩ := h; .inr ⟨o, h1⟩
theorem PlT.sq {K : PySem.W.Frag} {H : Hp} {a : Addr} {xs : List V} (h : PlT H a xs) : SqT K H a xs := .inl h.rd
theorem PlT.mono {H H' : Hp} {a : Addr} {xs : List V} (e : Ex H H') (h : PlT H a xs) : PlT H' a xs := let ⟨o, h1, h2⟩ := h; ⟨o, e _ _ h1, h2⟩
def rTupOf (K : PySem.W.Frag) : List V → Hp → VK → Prop := fun xs H Q => ∃ p ys, xs = [.ref p] ∧ ((SqL K H p ys ∧ ∀ l o, H l = none → o.dict = none → Q (.ref l) (upd H l (.frz o (.tup ys)))) ∨ (SqT K H p ys ∧ Q (.ref p) H))
theorem call_tupF : CallR X (.type "tuple") (rTupOf X.K) := by
  intro pins s σ H xs us Q I r h
  obtain ⟨p, ys, rfl, h⟩ := h
  obtain ⟨u, rfl, rx⟩ := vals1 r
  cases rx
  rcases h with ⟨hq, q⟩ | ⟨hq, q⟩
  · obtain ⟨its, r', pl, hz⟩ := I.list hq
    have hlen := r'.length
    refine call_tuple_list pl.isList (fun h' kp => ?_) (by simp only [List.size_toArray] <;> omega)
    have I1 : Inv X pins σ H { s with heap := h' } := I.kept (t' := s.toks) kp
    have ho : (h'.push { cls := .type "tuple", data := .seq its.toArray }).get? h'.objs.size = some { cls := .type "tuple", data := .seq its.toArray } := Heap.get?_push_size _ rfl
    have I2 : Inv X pins σ (upd H h'.objs.size (.frz { cls := .type "tuple", data := .seq its.toArray } (.tup ys))) { s with heap := h'.push { cls := .type "tuple", data := .seq its.toArray } } :=
      I1.laid (t' := s.toks) (fun b o e => Heap.get?_push_of_some _ e) (Nat.le_refl _) (show ObjOk X.prog X.w _ _ _ (.frz _ (.tup ys)) from ⟨ho, hz, its, r', IsTup.new _ _⟩)
    exact ⟨.ref h'.objs.size, _, I2, rfl, q _ _ (I1.hok.fresh (Nat.le_refl _)) rfl⟩
  · obtain ⟨its, r', pl, hz⟩ := I.tuple hq
    exact call_tuple_same pl ⟨.ref p, H, I, rfl, q⟩
/-- t.index(x) of a tuple of texts -/
def tTix (K : PySem.W.Frag) (to : TE) (t : TA) : TE := fun σ H Q => to σ H fun x H1 => ∃ a ys, x = .ref a ∧ PlT H1 a ys ∧ t σ H1 fun xs H2 => ∃ (zs : List Str) (z : Str) (j : Nat), PlT H2 a (zs.map V.str) ∧ xs = [.str z] ∧ zs[j]? = some z ∧ (∀ m, m < j → zs[m]? ≠ some z) ∧ Q (.int (j : Nat)) H2
theorem pe_tix {o e : Expr} {es : List Expr} {to : TE} {t : TA} {apos cpos : Pos} (ho : PE X o to) (ha : PA X (e :: es) t)
    (hbase : attributeBase o "index" X.env (eval o X.env) = eval o X.env := by rfl)
    (hfew : ((backTo cpos (starEach (e :: es) X.env)).all (fun x => !x.1) && (backToKw cpos (keywordEach [] X.env)).all (fun x => x.1.isSome)
      && decide ((e :: es).length + ([] : List Keyword).length + (if ([] : List Keyword).isEmpty then 0 else 1) < 30)) = true := by rfl)
    (hline : (apos.endLine == cpos.line) = true := by rfl) (hs : starEach (e :: es) X.env = (false, eval e X.env) :: starEach es X.env := by rfl) (hplain : (backTo cpos (starEach es X.env)).any (·.1) = false := by rfl) :
    PE X (.Call (.Attribute o "index" apos) (e :: es) [] cpos) (tTix X.K to t) := by
  refine ⟨fun pins s σ H Q I h => ?_⟩
  refine wpAny_Call_method_late hbase hfew hline rfl (thn (ho.run pins s σ H _ I h) fun v s1 ⟨x, H1, I1, r1, a, ys, ex, pl, q1⟩ => ?_)
  subst ex
  obtain rfl : v = Value.ref a := r1
  obtain ⟨ob, hob, hd⟩ := pl
  obtain ⟨ho1, hz, its, rv, oT, hoT, hcT, _⟩ := I1.hok a _ hob
  have eo : oT = ob := Option.some.inj (hoT.symm.trans ho1)
  subst eo
  refine ⟨"tuple", "tuple.index", PySem.F.plainAttrs_tuple, PySem.F.slot_tuple_index, PySem.F.type_tuple_index, ⟨oT, hoT, hcT⟩, fun b eb => ?_, ?_⟩
  · cases eb
    exact ⟨oT, hoT, hd⟩
  have hA := ha.run cpos pins s1 σ H1 _ I1 q1
  rw [hs] at hA ⊢
  refine Calls.callWith_builtin (by show (false || (backTo cpos (starEach es X.env)).any (·.1)) = false; rw [hplain] <;> rfl) (Calls.evalArgs_plain ?_)
  refine thn hA fun us s2 ⟨vs, H2, I2, r2, q2⟩ => ?_
  obtain ⟨zs, z, j, pl2, ex, e1, e2, q3⟩ := q2
  subst ex
  exact mt_tup_index pins s2 σ H2 (.ref a) [.str z] (.ref a) us Q I2 rfl r2 ⟨a, zs, z, j, rfl, rfl, pl2.sq, e1, e2, q3⟩
/-! ### a method that may raise -/
variable {k : Nat} {m : Str} {ps : List Str} {sp : Sp} {C : Addr} {pos apos : Pos} {e o : Expr} {es : List Expr} {ta : TE} {t : TA}
theorem pe_mtS {pl : Sem Bool} {W : WX} (F : Mt X.prog X.w X.K X.mg X.base C k m ps sp) (hr : Room k X.A) (tk : Takes X W) (he : PE X o ta) (ha : PA X (e :: es) t)
    (hst : starEach (e :: es) X.env = (false, eval e X.env) :: starEach es X.env := by rfl) (hpl : (backTo pos (starEach es X.env)).any (·.1) = false := by rfl)
    (ht : eval (.Call (.Attribute o m apos) (e :: es) [] pos) X.env = (do
      let ov ← eval o X.env
      standAt apos.atName
      let (f, first) ← holding [ov] (getMethod ov m pl)
      callWith pos f first (backTo pos (starEach (e :: es) X.env)) (backToKw pos (keywordEach [] X.env))) := by rfl) :
    PE X (.Call (.Attribute o m apos) (e :: es) [] pos) (tMtS C m sp (WE W) ta t) := by
  obtain ⟨f, fd, hm, hb, G⟩ := F.ex
  refine ⟨fun pins s σ H Q I h => ?_⟩
  refine PySem.W.methodCall_KW (pl := pl) (thn (he.run pins s σ H _ I h) fun u s1 ⟨x, H1, I1, rx, a, dx, fs, ex, ea, l, q⟩ => ?_) ht
  subst ex
  obtain rfl : u = Value.ref a := rx
  refine getmeth_ok I1 ea F.cl hm l ?_
  refine PySem.W.callWith_K (first := [.ref a]) (h₀ := X.base) I.ok.mod.kin hm.kp (thn (ha.run pos pins s1 σ H1 _ I1 q) fun us s2 ⟨vs, H2, I2, r, q2⟩ => ⟨I2.kIn, ?_⟩) hst hpl
  exact run_fnS (us := .ref a :: us) (vs := .ref a :: vs) (E := WE W) G hr hb (passAt tk σ) I2 (.cons rfl r) q2
end
/-! ### min of a list of pairs (int, text); min(ints, default=None) -/
def prD (q : Int × Str) : PyData := .tuple [.int q.1, .str q.2]
theorem keyToks_pr (q : Int × Str) : PySem.W.keyToks (prD q) = [.inl 1, .inl q.1, .inl 1, .inr q.2.cps.toList, .inl 0] := by
  simp [prD, PySem.W.keyToks, PySem.W.keyToksAll]
theorem pr_lt {p q : Int × Str} (h : PySem.W.dataLt (prD p) (prD q) = true) : p.1 ≤ q.1 := by
  unfold PySem.W.dataLt at h
  rw [keyToks_pr, keyToks_pr, lex_self (O := itemOrd)] at h
  by_cases e : p.1 = q.1
  · omega
  · rw [lex_diff (O := itemOrd) (fun z => e (Sum.inl.inj z))] at h
    have h' : decide (p.1 < q.1) = true := h
    have := of_decide_eq_true h'
    omega
theorem pr_ge {p q : Int × Str} (h : PySem.W.dataLt (prD p) (prD q) = false) : q.1 ≤ p.1 := by
  unfold PySem.W.dataLt at h
  rw [keyToks_pr, keyToks_pr, lex_self (O := itemOrd)] at h
  by_cases e : p.1 = q.1
  · omega
  · rw [lex_diff (O := itemOrd) (fun z => e (Sum.inl.inj z))] at h
    have h' : decide (p.1 < q.1) = false := h
    have := of_decide_eq_false h'
    omega
theorem minD_pr : ∀ (l : List (Int × Str)) (x : Int × Str), ∃ r, PySem.W.minD (prD x) (l.map prD) = prD r ∧ (r = x ∨ r ∈ l) ∧ r.1 ≤ x.1 ∧ ∀ q ∈ l, r.1 ≤ q.1
  | [], x => ⟨x, rfl, .inl rfl, Int.le_refl _, by simp⟩
  | y :: l, x => by
    have e : PySem.W.minD (prD x) ((y :: l).map prD) = PySem.W.minD (if PySem.W.dataLt (prD y) (prD x) then prD y else prD x) (l.map prD) := rfl
    rw [e]
    cases h : PySem.W.dataLt (prD y) (prD x) with
    | true =>
      obtain ⟨r, h1, h2, h3, h4⟩ := minD_pr l y
      have := pr_lt h
      refine ⟨r, by simpa using h1, ?_, by omega, fun q hq => ?_⟩
      · rcases h2 with h2 | h2
        · exact .inr (by rw [h2]; exact List.mem_cons_self)
        · exact .inr (List.mem_cons_of_mem _ h2)
      · rcases List.mem_cons.mp hq with z | z
        · rw [z]; exact h3
        · exact h4 q z
    | false =>
      obtain ⟨r, h1, h2, h3, h4⟩ := minD_pr l x
      have := pr_ge h
      refine ⟨r, by simpa using h1, ?_, h3, fun q hq => ?_⟩
      · rcases h2 with h2 | h2
        · exact .inl h2
        · exact .inr (List.mem_cons_of_mem _ h2)
      · rcases List.mem_cons.mp hq with z | z
        · rw [z]; omega
        · exact h4 q z
theorem pr_depth (q : Int × Str) : (prD q).depth = 1 := by
  simp [prD, PyData.depth, PyData.depthAll]
theorem prs_depth : ∀ l : List (Int × Str), PyData.depthAll (l.map prD) ≤ 1
  | [] => by simp [PyData.depthAll]
  | q :: l => by
    have h := prs_depth l
    simp only [List.map_cons, PyData.depthAll, pr_depth]
    omega
theorem prs_alike (l : List (Int × Str)) : PySem.W.AlikeAll (l.map prD) := by
  refine ⟨fun x hx y hy => ?_, fun x hx => ?_⟩
  · obtain ⟨p, _, rfl⟩ := List.mem_map.mp hx
    obtain ⟨q, _, rfl⟩ := List.mem_map.mp hy
    simp [prD, PySem.W.alike, PySem.W.alikeAll]
  · obtain ⟨p, _, rfl⟩ := List.mem_map.mp hx
    intro e
    cases e
def rMinP (K : PySem.W.Frag) : List V → Hp → VK → Prop := fun vs H Q => ∃ (a : Addr) (xs : List V) (ms : List (Int × Str)), vs = [.ref a] ∧ SqL K H a xs ∧ DpAll K H xs (ms.map prD) ∧ ms ≠ [] ∧
  ∀ (i : Nat) (v : V) (m : Int × Str), xs[i]? = some v → ms[i]? = some m → (∀ q ∈ ms, m.1 ≤ q.1) → Q v H
section
variable {X : Cx}
theorem call_minP (hc : X.calm = true) (hu : X.A.units + 65 < cLine) : CallR X (.builtin "min") (rMinP X.K) := by
  intro pins s σ H vs us Q I r h
  obtain ⟨a, xs, ms, rfl, hs, hd, hne, q⟩ := h
  obtain ⟨its, rv, hl, _⟩ := I.list hs
  rw [Vals.ref1 r]
  obtain ⟨as, hr⟩ := Dp.readsAll I (ms.map prD) xs its hd rv
  cases ms with
  | nil => exact absurd rfl hne
  | cons m0 ms =>
    have hdep := prs_depth (m0 :: ms)
    refine PySem.W.min_list_data (I.ok.hd hc) hl.isList (x := prD m0) (xs := ms.map prD) (by simpa using hr) (prs_alike (m0 :: ms)) (by have : PyData.depthAll (prD m0 :: ms.map prD) ≤ 1 := hdep; omega) fun i v h' tk bs hi hrd hk => ?_
    obtain ⟨r0, e1, e2, e3, e4⟩ := minD_pr ms m0
    rw [e1] at hrd
    have hi' : its[i]? = some v := by simpa using hi
    have hlen := rv.length
    have hlen2 : xs.length = (m0 :: ms).length := by
      have : ∀ {vs : List V} {ds : List PyData}, DpAll X.K H vs ds → vs.length = ds.length := by
        intro vs ds hh
        induction ds generalizing vs with
        | nil => cases hh; rfl
        | cons d ds ih => cases hh with | cons h1 h2 => simp [ih h2]
      simpa using this hd
    have hlt : i < its.length := (List.getElem?_eq_some_iff.mp hi').1
    obtain ⟨x, hx⟩ : ∃ x, xs[i]? = some x := ⟨_, List.getElem?_eq_getElem (by omega)⟩
    obtain ⟨mi, hmi⟩ : ∃ mi, (m0 :: ms)[i]? = some mi := ⟨_, List.getElem?_eq_getElem (by omega)⟩
    obtain ⟨u, hu1, ru⟩ := rv.get hx
    rw [hi'] at hu1
    cases hu1
    have hdx : Dp X.K H x (prD mi) := by
      have : ∀ {vs : List V} {l : List (Int × Str)} {i : Nat} {x : V} {m : Int × Str}, DpAll X.K H vs (l.map prD) → vs[i]? = some x → l[i]? = some m → Dp X.K H x (prD m) := by
        intro vs l
        induction l generalizing vs with
        | nil => intro i x m hh h1 h2; simp at h2
        | cons d l ih =>
          intro i x m hh h1 h2
          cases hh with
          | cons a b =>
            cases i with
            | zero => simp at h1 h2; rw [← h1, ← h2]; exact a
            | succ i => exact ih (i := i) b (by simpa using h1) (by simpa using h2)
      exact this hd hx hmi
    obtain ⟨as2, hrx⟩ := Dp.reads I (prD mi) x v hdx ru
    obtain ⟨ed, _⟩ := reads_det (fun b o hb _ => hk b o hb) hrx hrd
    have er : r0 = mi := by
      have z : prD r0 = prD mi := ed
      simp only [prD, PyData.tuple.injEq, List.cons.injEq, PyData.int.injEq, PyData.str.injEq, and_true] at z
      exact Prod.ext z.1 z.2
    subst er
    refine ⟨x, H, I.kept hk, ru, q i x r0 hx hmi fun q hq => ?_⟩
    rcases List.mem_cons.mp hq with z | z
    · rw [z]; exact e3
    · exact e4 q z
end
end EF
set_option maxHeartbeats 4000000
namespace EF
open PySem PySem.Spec PyProof.Rows L2 Evl
/-! ### min(ints, default=None) -/
theorem ints_alike (ns : List Int) : PySem.W.AlikeAll (ns.map .int) := by
  refine ⟨fun x hx y hy => ?_, fun x hx => ?_⟩
  · obtain ⟨p, _, rfl⟩ := List.mem_map.mp hx
    obtain ⟨q, _, rfl⟩ := List.mem_map.mp hy
    rfl
  · obtain ⟨p, _, rfl⟩ := List.mem_map.mp hx
    intro e
    cases e
theorem ints_depth : ∀ ns : List Int, PyData.depthAll (ns.map .int) = 0
  | [] => rfl
  | n :: r => by simp [PyData.depthAll, PyData.depth, ints_depth r]
theorem ints_dp {K : PySem.W.Frag} {H : Hp} : ∀ ns : List Int, DpAll K H (ns.map V.int) (ns.map .int)
  | [] => .nil
  | n :: r => .cons (.int n) (ints_dp r)
theorem foldl_min_mem : ∀ (l : List Int) (n : Int), (l.foldl min n = n ∨ l.foldl min n ∈ l) ∧ l.foldl min n ≤ n ∧ ∀ y ∈ l, l.foldl min n ≤ y
  | [], n => ⟨.inl rfl, Int.le_refl _, by simp⟩
  | y :: l, n => by
    obtain ⟨h1, h2, h3⟩ := foldl_min_mem l (min n y)
    have e : (y :: l).foldl min n = l.foldl min (min n y) := rfl
    rw [e]
    refine ⟨?_, by omega, fun z hz => ?_⟩
    · rcases h1 with h1 | h1
      · by_cases q : n ≤ y
        · left; rw [h1]; omega
        · right; rw [h1, show min n y = y by omega]; exact List.mem_cons_self
      · exact .inr (List.mem_cons_of_mem _ h1)
    · rcases List.mem_cons.mp hz with q | q
      · rw [q]; omega
      · exact h3 z q
def rMinD (K : PySem.W.Frag) : List V → List V → Hp → VK → Prop := fun vs zs H Q => ∃ (a : Addr) (ns : List Int), vs = [.ref a] ∧ zs = [.non] ∧ SqL K H a (ns.map V.int) ∧ (ns = [] → Q .non H) ∧ ∀ m, m ∈ ns → (∀ y ∈ ns, m ≤ y) → Q (.int m) H
def tMinD (K : PySem.W.Frag) (t : TA) : TE := fun σ H Q => tCKw (rMinD K) t (tCons (tC .non) tNil) σ H Q
section
variable {X : Cx}
theorem call_minD (hc : X.calm = true) (hu : X.A.units + 64 < cLine) : CallRK X (.builtin "min") ["default"] (rMinD X.K) := by
  intro pins s σ H vs zs us ws Q I r rz h
  obtain ⟨a, ns, rfl, rfl, hs, q0, q1⟩ := h
  obtain ⟨its, rv, hl, _⟩ := I.list hs
  rw [Vals.ref1 r]
  obtain ⟨w0, rfl, rw0⟩ := Vals.one rz
  cases rw0
  obtain ⟨as, hr⟩ := Dp.readsAll I (ns.map .int) (ns.map V.int) its (ints_dp ns) rv
  refine PySem.W.min_list_default (I.ok.hd hc) hl.isList (xs := ns.map .int) (by simpa using hr) (ints_alike ns) (by rw [ints_depth]; omega) (fun e h' tk hk => ?_) fun y ys i v h' tk bs e hi hrd hk => ?_
  · exact ⟨.non, H, I.kept hk, rfl, q0 (by simpa using e)⟩
  · cases ns with
    | nil => cases e
    | cons n ns =>
      simp only [List.map_cons, List.cons.injEq] at e
      obtain ⟨e1, e2⟩ := e
      subst e1 e2
      rw [PySem.W.minD_ints] at hrd
      obtain ⟨h1, h2, h3⟩ := foldl_min_mem ns n
      have hi' : its[i]? = some v := by simpa using hi
      have hlen := rv.length
      have hlt : i < its.length := (List.getElem?_eq_some_iff.mp hi').1
      obtain ⟨x, hx⟩ : ∃ x, ((n :: ns).map V.int)[i]? = some x := ⟨_, List.getElem?_eq_getElem (by omega)⟩
      obtain ⟨u, hu1, ru⟩ := rv.get hx
      rw [hi'] at hu1
      cases hu1
      obtain ⟨j, hj⟩ : ∃ j, x = V.int j := by
        rw [List.getElem?_map] at hx
        cases q : (n :: ns)[i]? with
        | none => rw [q] at hx; cases hx
        | some j => rw [q] at hx; exact ⟨j, (Option.some.inj hx).symm⟩
      subst hj
      obtain ⟨as2, hrx⟩ := Dp.reads I (.int j) (.int j) v (.int j) ru
      obtain ⟨ed, _⟩ := reads_det (fun b o hb _ => hk b o hb) hrx hrd
      have er : ns.foldl min n = j := PyData.int.inj ed
      refine ⟨.int j, H, I.kept hk, ru, q1 j (by rw [← er]; rcases h1 with z | z; · rw [z]; exact List.mem_cons_self
                                                 · exact List.mem_cons_of_mem _ z) fun y hy => ?_⟩
      rw [← er]
      rcases List.mem_cons.mp hy with z | z
      · rw [z]; exact h2
      · exact h3 y z
end
theorem hu64_of {A : Around} {k : Nat} (hr : Room k A) : A.units + 64 < cLine := hr.units
section
variable {X : Cx}
theorem pe_minD {e : Expr} {es : List Expr} {t : TA} {p pos p1 p2 : Pos} {j : Nat} (hc : X.calm = true) (hu : X.A.units + 64 < cLine) (hm : X.mg "min" = none) (ha : PA X (e :: es) t) (hg : Gl X "min" := by rfl)
    (he : backTo pos (starEach (e :: es) X.env) = (false, eval e X.env) :: backTo pos (starEach es X.env) := by rfl) (hpl : (backTo pos (starEach (e :: es) X.env)).any (·.1) = false := by rfl) :
    PE X (.Call (.Name "min" p) (e :: es) [⟨some "default", .Constant .none j p1, p2⟩] pos) (tMinD X.K t) :=
  pe_callBK (call_minD hc hu) hg hm (by decide +kernel) ha (pk_cons pe_non pk_nil) (by decide) (by decide) he hpl rfl rfl rfl
end
/-! ### sorted(t), t a tuple of texts -/
section
variable {prog : Program} {w : World} {A : Around} {E : Value → Shared → Prop} {s : Shared}
theorem sorted_tupS {p : Addr} {vs : List Value} {ss : List Str} {Q : Value → Shared → Prop} (ht : IsTup s.heap p vs.toArray) (hS : StrsAre vs ss) (h64 : vs.length < 64)
    (h : ∀ (g0 g : Heap) (out : Array Value) (ys : List Str) (n : Nat), (∀ b o, s.heap.get? b = some o → g0.get? b = some o) → (∀ b o, g0.get? b = some o → g.get? b = some o) → g.get? g0.objs.size = some (seqObj "list" out n) → StrsAre out.toList ys → ys.Perm ss → sortedS ys = true →
      Q (.ref g0.objs.size) { s with heap := g }) : wpAny (model prog w) A (call (.builtin "sorted") [.ref p]) Q E s := by
  obtain ⟨o, ho, hc, n, hd⟩ := ht
  refine Calls.call_function_entry kind_sorted plain_sorted entry_sorted (args_sorted1 _) ?_
  unfold Builtin.«sorted»
  refine wpAny_bind (m := checkCount "sorted" 1 1 _) (wpAny_pure ?_)
  refine wpAny_bind (wpAny_collect_seq p (.inr rfl) ho hc hd (fun g k => ?_) (by simp only [List.size_toArray]; exact small64 h64))
  refine wpAny_bind (wpAny_newList ?_)
  have hL : (g.push (seqObj "list" vs.toArray 0)).get? g.objs.size = some (seqObj "list" vs.toArray 0) := Heap.get?_push_size _ rfl
  show wpAny _ _ _ _ _ { s with heap := g.push (seqObj "list" vs.toArray 0) }
  refine wpAny_bind (wpAny_holding (wpAny_call_entry slot_list_sort ⟨_, hL, rfl⟩ entry_list_sort (list_sort_treeK strKind_oneLt hL hS.keysOf (fun v₁ v₂ rest e => keyKind_strs (by rw [← e]; exact hS)) h64 fun st' a1 a2 => ⟨_, rfl, ?_⟩) (args_list_sort _)))
  refine wpAny_pure ⟨_, rfl, ?_⟩
  obtain ⟨ys, h1, h2, h3⟩ := sorted_out_str hS a1 a2
  obtain ⟨m, hm⟩ := sortedHeap_at (n := 0) (vs := vs) (out := (arrOf st').map (·.2)) hL
  exact h g _ _ ys m k (fun b o hb' => by
    rw [sortedHeap_old (Nat.ne_of_lt (Heap.lt_size hb')) (by rw [size_push']; exact Nat.lt_succ_of_lt (Heap.lt_size hb')), Heap.get?_push_ne _ _ _ (Nat.ne_of_lt (Heap.lt_size hb'))]
    exact hb') hm h1 h2 h3
end
def rSortedT (K : PySem.W.Frag) : List V → Hp → VK → Prop := fun vs H Q => ∃ (a : Addr) (xs : List Str), vs = [V.ref a] ∧ SqT K H a (xs.map V.str) ∧ xs.length < 64 ∧
  ∀ (ys : List Str) (p : Addr), ys.Perm xs → sortedS ys = true → H p = none → Q (.ref p) (upd H p (.lst (ys.map V.str)))
section
variable {X : Cx}
theorem cr_sortedT : CallR X (.builtin "sorted") (rSortedT X.K) := by
  intro pins s σ H vs us Q I r h
  obtain ⟨a, xs, rfl, hs, h64, q⟩ := h
  obtain ⟨its, rv, hl, _⟩ := I.tuple hs
  rw [Vals.ref1 r]
  have hn := rv.length
  rw [List.length_map] at hn
  refine sorted_tupS hl rv.strs (by omega) fun g0 g out ys n k1 k2 hg h1 h2 h3 => ?_
  have I1 : Inv X pins σ H { s with heap := g0 } := I.kept (t' := s.toks) k1
  have hz : (ys.map V.str).length ≤ sizeLine := by rw [List.length_map, h2.length_eq]; exact small64 h64
  exact ⟨.ref g0.objs.size, _, I1.laid (t' := s.toks) (o := .lst (ys.map V.str)) k2 (Nat.le_refl _) ⟨hz, out.toList, n, vals_of_strs h1, hg⟩, rfl, q ys _ h2 h3 (I1.hok.fresh (Nat.le_refl _))⟩
/-! ### enumerate over a tuple -/
/-- the tuple at a, each item in a new pair -/
def IteT (a : Addr) : It :=
  ⟨fun i H => ∃ (xs : List V) (x : V), Rd H a (.tup xs) ∧ xs[i]? = some x, fun i H v H' => ∃ T x, v = .ref T ∧ H T = none ∧ H' = upd H T (.tup [.int (i : Nat), x]) ∧ ∀ xs, Rd H a (.tup xs) → xs[i]? = some x, fun i H => ∃ xs : List V, Rd H a (.tup xs) ∧ xs.length = i⟩
end
theorem mk_enumT (l : Addr) (items : Array Value) :
    Meets (Builtin.«enumerate.__new__» ⟨[.type "enumerate", .ref l], []⟩) (fun _ R s => s.heap.IsTuple l items ∧
      R (.ok (.ret (.ref (s.heap.push { cls := .type "tuple_iterator", data := .fields #[.ref l, .int 0 0] }).objs.size)))
        { s with heap := (s.heap.push { cls := .type "tuple_iterator", data := .fields #[.ref l, .int 0 0] }).push { cls := .type "enumerate", data := .fields #[.none, .bool false, .ref s.heap.objs.size, rawInt 0, .none, .none] } }) :=
  .of_wp fun prog w A R s h => by
    obtain ⟨hp, g, d, tk, os⟩ := s
    obtain ⟨hl, h⟩ := h
    have hsub := sub_enumerate
    have begins : ∀ {A' : Around} {E : Value → Shared → Prop} {Q : Value → Shared → Prop}, Q (.ref hp.objs.size) ⟨hp.push { cls := .type "tuple_iterator", data := .fields #[.ref l, .int 0 0] }, g, d, tk, os⟩ → wpAny (model prog w) A' (pyIter (.ref l)) Q E ⟨hp, g, d, tk, os⟩ :=
      fun q => (begins_tuple l items).iter prog w _ _ ⟨hp, g, d, tk, os⟩ _ hl q
    wp_walk using begins
    refine wpAny_stack_any fun st => wpAny_pure ?_
    split
    · rename_i c _ _ _ _ _
      cases (c == Value.type "enumerate")
      · wp_walk using begins
        exact ⟨_, rfl, h⟩
      · wp_walk using begins
        exact ⟨_, rfl, h⟩
    · wp_walk using begins
      exact ⟨_, rfl, h⟩
section
variable {prog : Program} {w : World} {A : Around} {E : Value → Shared → Prop} {s : Shared}
theorem call_enumT {l : Addr} {items : Array Value} {Q : Value → Shared → Prop} (hL : s.heap.IsTuple l items)
    (h : ∀ h', IsEnum h' (s.heap.objs.size + 1) s.heap.objs.size 0 .none → h'.IsTupleIter s.heap.objs.size l 0 → (∀ b o, s.heap.get? b = some o → h'.get? b = some o) → Q (.ref (s.heap.objs.size + 1)) { s with heap := h' }) :
    wpAny (model prog w) A (call (.type "enumerate") [.ref l]) Q E s := by
  refine callType_new F.called_enumerate (by decide) (F.typeCall_enumerate_1 _) (F.newCall_enumerate_1 _) (fun obj => F.args_object_init_2 obj _) F.entry_enumerate_new (mk_enumT l items) ⟨hL, ?_⟩
  have hz : (s.heap.push { cls := .type "tuple_iterator", data := .fields #[.ref l, .int 0 0] }).objs.size = s.heap.objs.size + 1 := Heap.size_push ..
  show _ ∧ _
  rw [hz]
  have he : IsEnum ((s.heap.push { cls := .type "tuple_iterator", data := .fields #[.ref l, .int 0 0] }).push { cls := .type "enumerate", data := .fields #[.none, .bool false, .ref s.heap.objs.size, rawInt 0, .none, .none] }) (s.heap.objs.size + 1) s.heap.objs.size 0 .none := by
    have q := Heap.get?_push_size (s.heap.push { cls := .type "tuple_iterator", data := .fields #[.ref l, .int 0 0] }) (o := { cls := .type "enumerate", data := .fields #[.none, .bool false, .ref s.heap.objs.size, rawInt 0, .none, .none] }) rfl
    rw [hz] at q
    exact q
  exact ⟨⟨_, he, rfl⟩, h _ he ⟨_, Heap.get?_push_of_some _ (Heap.get?_push_size _ rfl), rfl, rfl⟩ fun b o x => Heap.get?_push_of_some _ (Heap.get?_push_of_some _ x)⟩
end
theorem rd_ne {H : Hp} {a b : Addr} {u : HO} (h : Rd H a u) (n : H b = none) : a ≠ b := by
  intro e
  rw [e] at h
  rcases h with h | ⟨o, h⟩ <;> rw [n] at h <;> cases h
theorem turn_enumT {P : Program} {w : World} {K : PySem.W.Frag} {elts : List Expr} {kk : Nat} {tpos : Pos} (a e it : Addr) :
    Turn P w K (.Tuple elts kk tpos) (IteT a) [e, it] e (fun i h => (∃ old, IsEnum h e it ((i : Nat) : Int) old) ∧ h.IsTupleIter it a i ∧ e ≠ it) where
  mem := by simp
  obj := fun i h st b hb => by
    obtain ⟨⟨old, he⟩, ⟨o, ho, hc, hd⟩, _⟩ := st
    have e' : b = e ∨ b = it := by simpa using hb
    rcases e' with z | z
    · rw [z]; exact ⟨_, he, fun v q => nomatch q⟩
    · rw [z]; exact ⟨o, ho, fun v q => by rw [hd] at q; cases q⟩
  keep := fun i h h' st k => let ⟨⟨old, he⟩, hi, hne⟩ := st; ⟨⟨old, k e (by simp) _ he⟩, hi.at fun o q => k it (by simp) o q, hne⟩
  item := by
    intro X hP hw hK hc i pins s σ H E I hf st hg
    subst hP hw hK
    obtain ⟨⟨old, he⟩, hit, hne⟩ := st
    obtain ⟨xs, x, hq, hx⟩ := hg
    obtain ⟨its, rv, p, hz⟩ := I.tuple (.inl hq)
    obtain ⟨u, hu, ru⟩ := rv.get hx
    have nae : a ≠ e := rd_ne hq (hf e (by simp)).1
    have nai : a ≠ it := rd_ne hq (hf it (by simp)).1
    have hel : e < s.heap.objs.size := Heap.lt_size he
    have hil : it < s.heap.objs.size := by obtain ⟨_, q, _⟩ := hit; exact Heap.lt_size q
    have hlt : i < its.toArray.size := by
      have := (List.getElem?_eq_some_iff.mp hu).1
      simpa using this
    refine wpAny_pyNext_enum_itemD (Draws.tuple (prog := X.prog) (w := X.w) (A := X.A.in1) (I.ok.hd hc) it a nai its.toArray) he ⟨hit, p⟩ hlt hne (by simp [hne, nae.symm]) fun x1 h' tk hx1 ho hst hT hsz hk => ?_
    have ex : x1 = u := by
      have : its[i]? = some x1 := by simpa using hx1
      rw [hu] at this
      exact (Option.some.inj this).symm
    subst ex
    refine ⟨_, rfl, wpAny_letOwnedTupleGo_enum (s := { s with heap := h', toks := tk + 1 }) ho fun h'' he' sb => ?_⟩
    have hT2 : h''.get? s.heap.objs.size = some { cls := .type "tuple", data := .seq #[.int i tk, x1] } := (sb.2 _ (Nat.ne_of_gt hel)).trans hT
    have new : ObjOk X.prog X.w (upd H s.heap.objs.size (.tup [.int (i : Nat), x])) h'' s.heap.objs.size (.tup [.int (i : Nat), x]) :=
      ⟨by show 2 ≤ sizeLine; decide, [.int i tk, x1], .cons ⟨_, rfl⟩ (.cons ru .nil), ⟨_, hT2, rfl, _, rfl⟩⟩
    have I1 : Inv X pins σ (upd H s.heap.objs.size (.tup [.int (i : Nat), x])) { s with heap := h'', toks := tk + 1 } :=
      I.turnedNew (ch := [e, it]) (fun b ob hb q => (sb.2 b (fun z => hb (by simp [z]))).trans (hk b ob (fun z => hb (by simp [z])) (fun z => hb (by simp [z])) q)) hf (Nat.le_refl _) new
    refine ⟨.ref s.heap.objs.size, _, I1, rfl, ⟨_, x, rfl, I.hok.fresh (Nat.le_refl _), rfl, fun ys hy => by rw [I.tuple_inj (.inl hy) (.inl hq)]; exact hx⟩, ⟨⟨x1, ?_⟩, hst.1.at fun o q => (sb.2 it (Ne.symm hne)).trans q, hne⟩, fun b hb => ?_⟩
    · have e1 : ((i + 1 : Nat) : Int) = (i : Int) + 1 := by omega
      rw [e1]
      exact he'
    · have hb' : b < s.heap.objs.size := by
        have e' : b = e ∨ b = it := by simpa using hb
        rcases e' with z | z
        · rw [z]; exact hel
        · rw [z]; exact hil
      rw [upd_ne (Nat.ne_of_lt hb')]
      exact (hf b hb).1
  done := by
    intro X hP hw hK hc i pins s σ H E I hf st hg
    subst hP hw hK
    obtain ⟨⟨old, he⟩, hit, hne⟩ := st
    obtain ⟨xs, hq, hx⟩ := hg
    obtain ⟨its, rv, p, hz⟩ := I.tuple (.inl hq)
    have nai : a ≠ it := rd_ne hq (hf it (by simp)).1
    obtain ⟨f0, f1, f2, f3, f4, f5⟩ := hf it (by simp)
    have hl := rv.length
    have hs : its.toArray.size = i := by simp only [List.size_toArray]; omega
    have D := Draws.tuple (prog := X.prog) (w := X.w) (A := X.A.in1) (I.ok.hd hc) it a nai its.toArray
    exact wpAny_pyNext_enum_endD D he (by rw [hs]; exact ⟨hit, p⟩) fun h' eb => ⟨rfl, I.turned (t' := s.toks) (fun b o hb q => eb b o hb q) f0 f1 f3 f4 f5⟩
  self := fun A i s Q E st h => let ⟨⟨_, he⟩, _⟩ := st; wpAny_pyIter_enum he h
/-- enumerate over a list or a tuple -/
def iEnumA (K : PySem.W.Frag) (ta : TA) : TI := fun σ H R => ta σ H fun vs H1 => ∃ a xs, vs = [.ref a] ∧ ((SqL K H1 a xs ∧ R (Ite K a) H1) ∨ (Rd H1 a (.tup xs) ∧ R (IteT a) H1))
theorem pi_enumA {X : Cx} {e : Expr} {ta : TA} {p pos tpos : Pos} {elts : List Expr} {kk : Nat} (hg : Gl X "enumerate") (hm : X.mg "enumerate" = none) (ha : PA X [e] ta) (hs : starEach [e] X.env = [(false, eval e X.env)] := by rfl) :
    PI X (.Tuple elts kk tpos) (.Call (.Name "enumerate" p) [e] [] pos) (iEnumA X.K ta) := by
  refine ⟨fun pins s σ H R I h => ?_⟩
  refine Call_ (ld_blt I hg hm boot_enumerate (PyProof.Rows.callWith_type1 (thn (ha.run pos pins s σ H _ I h) fun us s1 ⟨vs, H1, I1, r1, q1⟩ => ?_) hs rfl))
  obtain ⟨a, xs, ex, q⟩ := q1
  subst ex
  have hfp : ∀ b ∈ [s1.heap.objs.size + 1, s1.heap.objs.size], FpOk X pins H1 b := fun b hb => by
    have e' : b = s1.heap.objs.size + 1 ∨ b = s1.heap.objs.size := by simpa using hb
    have hle : s1.heap.objs.size ≤ b := by
      rcases e' with z | z
      · rw [z]; exact Nat.le_add_right _ _
      · rw [z]; exact Nat.le_refl _
    exact I1.fpOk hle (I1.hok.fresh hle)
  cases r1 with
  | cons r rr =>
    cases rr
    cases r
    rcases q with ⟨hq, q⟩ | ⟨hq, q⟩
    · obtain ⟨its, rv, p', hz⟩ := I1.list hq
      refine call_enumerate_list p'.isList fun h' he hit hsz hk => wpAny_pyIter_enum he ?_
      exact ⟨s1.heap.objs.size + 1, [s1.heap.objs.size + 1, s1.heap.objs.size], _, _, H1, rfl, I1.kept (t' := s1.toks) hk, turn_enum a (s1.heap.objs.size + 1) s1.heap.objs.size, ⟨⟨.none, he⟩, hit, Nat.succ_ne_self _⟩, hfp, q⟩
    · obtain ⟨its, rv, p', hz⟩ := I1.tuple (.inl hq)
      refine call_enumT p' fun h' he hit hk => wpAny_pyIter_enum he ?_
      exact ⟨s1.heap.objs.size + 1, [s1.heap.objs.size + 1, s1.heap.objs.size], _, _, H1, rfl, I1.kept (t' := s1.toks) hk, turn_enumT a (s1.heap.objs.size + 1) s1.heap.objs.size, ⟨⟨.none, he⟩, hit, Nat.succ_ne_self _⟩, hfp, q⟩
end EF
set_option maxHeartbeats 4000000
namespace EF
open PySem PySem.Spec PyProof.Rows L2 Evl
/-! ### data without lists: no list's change is seen by it -/
mutual
def noL : PyData → Bool
  | .list _ => false
  | .tuple xs => noLs xs
  | .dict _ => false
  | _ => true
def noLs : List PyData → Bool
  | [] => true
  | x :: xs => noL x && noLs xs
end
theorem noLs_all : ∀ {xs : List PyData}, noLs xs = true ↔ ∀ x ∈ xs, noL x = true
  | [] => by simp [noLs]
  | x :: xs => by simp [noLs, noLs_all (xs := xs)]
def NoTup : Option HO → Prop
  | some (.tup _) => False
  | some (.frz _ (.tup _)) => False
  | _ => True
theorem rd_upd {H : Hp} {p a : Addr} {o : HO} {xs : List V} (n : NoTup (H p)) (h : Rd H a (.tup xs)) : Rd (upd H p o) a (.tup xs) := by
  have ne : a ≠ p := by
    intro e
    subst e
    rcases h with h | ⟨q, h⟩ <;> rw [h] at n <;> exact n
  rcases h with h | ⟨q, h⟩
  · exact .inl (by rw [upd_ne ne]; exact h)
  · exact .inr ⟨q, by rw [upd_ne ne]; exact h⟩
section
variable {H : Hp} {p : Addr} {o : HO}
mutual
theorem Dt.upd (n : NoTup (H p)) : ∀ {v : V} {d : PyData}, noL d = true → Dt H v d → Dt (upd H p o) v d
  | _, _, _, .non => .non
  | _, _, _, .bl b => .bl b
  | _, _, _, .int i => .int i
  | _, _, _, .str x => .str x
  | _, _, h, .lst _ _ => by simp [noL] at h
  | _, _, h, .tup a k => .tup (rd_upd n a) (DtA.upd n (by simpa [noL] using h) k)
theorem DtA.upd (n : NoTup (H p)) : ∀ {vs : List V} {ds : List PyData}, noLs ds = true → DtA H vs ds → DtA (upd H p o) vs ds
  | _, _, _, .nil => .nil
  | _, _, h, .cons a b => by
    simp only [noLs, Bool.and_eq_true] at h
    exact .cons (Dt.upd n h.1 a) (DtA.upd n h.2 b)
end
end
/-! ### what a comprehension walks -/
def EvI (wi : TI) (σ : L2.St) (H : Hp) (n : Nat) (I : Nat → Post) : Prop := ∀ H1, Ex H H1 → ∀ R : It → Hp → Prop,
  (∀ J H2, Ex H1 H2 → (∃ (G : Hp → Prop) (Y : Nat → Hp → V → Hp → Prop), Walk J n G Y ∧ G H2 ∧ (∀ H3 H4, Ex H3 H4 → G H3 → G H4) ∧ ∀ i H3 x H4, i < n → G H3 → Y i H3 x H4 → Ex H3 H4 ∧ I i x H4) → R J H2) → wi σ H1 R
section
variable {K : PySem.W.Frag} {σ : L2.St} {H : Hp} {tl : TE} {xs : List V}
theorem ei_list (h : EvP tl σ H (fun v H' => ∃ a, v = .ref a ∧ SqL K H' a xs)) : EvI (iList K tl) σ H xs.length (fun i x _ => xs[i]? = some x) :=
  fun H1 e R q => h H1 e _ fun v H2 e2 ⟨a, ev, hs⟩ => ⟨a, ev, ⟨xs, hs⟩, q _ H2 e2 ⟨_, _, walk_list, hs, fun _ _ e h => ex_l e h, fun i H3 x H4 _ _ y => by obtain ⟨rfl, y⟩ := y; exact ⟨Ex.refl _, y⟩⟩⟩
theorem ei_tup (h : EvP tl σ H (fun v H' => ∃ a, v = .ref a ∧ SqT K H' a xs)) : EvI (iTup K tl) σ H xs.length (fun i x _ => xs[i]? = some x) :=
  fun H1 e R q => h H1 e _ fun v H2 e2 ⟨a, ev, hs⟩ => ⟨a, ev, ⟨xs, hs⟩, q _ H2 e2 ⟨_, _, walk_tup, hs, fun _ _ e h => ex_t e h, fun i H3 x H4 _ _ y => by obtain ⟨rfl, y⟩ := y; exact ⟨Ex.refl _, y⟩⟩⟩
theorem ei_range1 {ta : TA} {n : Int} (h : EvA ta σ H [.int n]) (h1 : n ≤ 100000) (h0 : 0 ≤ n) : EvI (iRng1 ta) σ H n.toNat (fun i x _ => x = .int (i : Nat)) :=
  fun H1 e R q => h H1 e _ fun H2 e2 => ⟨n, rfl, by omega, by omega, q _ H2 e2 ⟨_, _, walk_range, trivial, fun _ _ _ _ => trivial, fun i H3 x H4 _ _ y => by obtain ⟨rfl, y⟩ := y; exact ⟨Ex.refl _, by rw [y]; simp⟩⟩⟩
theorem ei_str {z : Str} (h : Ev tl σ H (.str z)) : EvI (iStr tl) σ H z.cps.size (fun i x _ => ∃ c, z.cps[i]? = some c ∧ x = .str ⟨#[c]⟩) :=
  fun H1 e R q => h H1 e _ fun H2 e2 => ⟨z, rfl, q _ H2 e2 ⟨_, _, walk_str, trivial, fun _ _ _ _ => trivial, fun i H3 x H4 _ _ y => by obtain ⟨rfl, y⟩ := y; exact ⟨Ex.refl _, y⟩⟩⟩
end
/-- a turn of a comprehension: what it adds (some data), or that it adds nothing -/
def LcT (g : TG) (tt : TT) (te : TE) (vs : List Nat) (σ : L2.St) (H : Hp) (x : V) (o : Option PyData) : Prop := ∀ H1, Ex H H1 → ∀ (Qk : VK) (Qn : Hp → Prop), (∀ d, o = some d → ∀ v H2, Ex H1 H2 → Dt H2 v d → Qk v H2) → (o = none → ∀ H2, Ex H1 H2 → Qn H2) →
  g x (wipe σ vs) H1 fun σ2 H2 => wipe σ2 vs = wipe σ vs ∧ tt σ2 H2 fun b H3 => if b = true then te σ2 H3 Qk else Qn H3
theorem lcY {te : TE} {σ2 σ : L2.St} {vs : List Nat} {H2 : Hp} {Qk : VK} {Qn : Hp → Prop} (hw : wipe σ2 vs = wipe σ vs) (h : te σ2 H2 Qk) : wipe σ2 vs = wipe σ vs ∧ tYes σ2 H2 fun b H3 => if b = true then te σ2 H3 Qk else Qn H3 := ⟨hw, iteT (A := te σ2 H2 Qk) (B := Qn H2) h⟩
/-- a comprehension makes the list of the data of its turns. Each turn is shown from the heap at which its item is told -/
theorem ep_lc {α : Type} (L : List α) (f : α → Option PyData) {wi : TI} {g : TG} {tt : TT} {te : TE} {vs : List Nat} {σ : L2.St} {H : Hp} {I : Nat → Post} {n : Nat} (hi : EvI wi σ H n I) (hn : n = L.length) (hz : L.length < 100000) (hf : ∀ a ∈ L, ∀ d, f a = some d → noL d = true)
    (hs : ∀ (i : Nat) (x : V) (a : α) (H1 : Hp), Ex H H1 → L[i]? = some a → I i x H1 → LcT g tt te vs σ H1 x (f a)) :
    EvP (tLc wi g tt te vs) σ H (fun v H' => ∃ p ys, v = .ref p ∧ H p = none ∧ H' p = some (.lst ys) ∧ DtA H' ys (L.filterMap f)) := by
  subst hn
  intro H1 e1 Q q
  refine hi H1 e1 _ fun J H2 e2 ⟨G, Y, w, hG, mG, hY⟩ => ?_
  intro D hD
  have e02 := e1.trans e2
  refine lc_it w (fun i H' => ∃ acc, Ex H2 H' ∧ H' D = some (.lst acc) ∧ DtA H' acc ((L.take i).filterMap f) ∧ acc.length ≤ i) ⟨[], Ex.new hD, upd_same, by simp; exact .nil, by simp⟩ (fun i H' _ ⟨acc, e, _⟩ => mG _ _ e hG) ?_ ?_
  · intro i x H3 H4 hlt ⟨acc, e3, hacc, hd, hla⟩ hy
    obtain ⟨e34, hI⟩ := hY i H3 x H4 hlt (mG _ _ e3 hG) hy
    obtain ⟨a, ha⟩ : ∃ a, L[i]? = some a := ⟨_, List.getElem?_eq_getElem hlt⟩
    have tk : L.take (i + 1) = L.take i ++ [a] := by
      rw [List.take_succ, ha]; rfl
    have hm : a ∈ L := List.mem_of_getElem? ha
    have ft : (L.take (i + 1)).filterMap f = (L.take i).filterMap f ++ (match f a with | some d => [d] | none => []) := by
      rw [tk, List.filterMap_append]
      congr 1
      cases hfa : f a <;> simp [hfa]
    have e24 := e3.trans e34
    have e04 := e02.trans e24
    refine hs i x a H4 e04 ha hI H4 (Ex.refl _) _ _ (fun d hd1 v H5 e5 dv => ?_) (fun hn H5 e5 => ?_)
    · refine ⟨acc, e5 _ _ (e34 _ _ hacc), by have : acc.length < 100000 := by omega
                                             exact sz_lt this, ?_⟩
      have h5 : H5 D = some (.lst acc) := e5 _ _ (e34 _ _ hacc)
      have nt : NoTup (H5 D) := by rw [h5]; trivial
      refine ⟨acc ++ [v], Ex.mut (e24.trans e5) hD, upd_same, ?_, by simp; omega⟩
      rw [ft, hd1]
      refine DtA.snoc (DtA.upd nt ?_ (DtA.mono (e34.trans e5) hd)) (Dt.upd nt (hf a hm d hd1) dv)
      rw [noLs_all]
      intro y hy
      obtain ⟨b, hb, hb2⟩ := List.mem_filterMap.mp hy
      exact hf b (List.mem_of_mem_take hb) y hb2
    · refine ⟨acc, e24.trans e5, e5 _ _ (e34 _ _ hacc), ?_, by omega⟩
      rw [ft, hn]
      simp only [List.append_nil]
      exact DtA.mono (e34.trans e5) hd
  · intro H3 ⟨acc, e3, hacc, hd, _⟩
    rw [List.take_length] at hd
    exact q _ H3 (e2.trans e3) ⟨D, acc, rfl, fresh_back e02 hD, hacc, hd⟩
end EF
set_option maxHeartbeats 4000000
namespace EF
open PySem PySem.Spec PyProof.Rows L2 Evl
/-! ### lands, weathers, rows, as plain data -/
abbrev Wea := List (Int × Str)
abbrev Rws := List (Str × Int)
abbrev Tms := List (Option (Int × Int))
structure Lnk where
  nm : Str
  one : Str
  other : Str
  times : Tms
structure Ld where
  winds : List Str
  places : List Str
  links : List Lnk
  paths : List (Str × Str × Int)
def weaD (W : Wea) : PyData := .list (W.map prD)
def rwD (q : Str × Int) : PyData := .tuple [.str q.1, .int q.2]
def rwsD (R : Rws) : PyData := .list (R.map rwD)
def oiD : Option Int → PyData
  | none => .none
  | some i => .int i
def paD : Option (Int × Int) → PyData
  | none => .none
  | some q => .tuple [.int q.1, .int q.2]
def tmsD (t : Tms) : PyData := .tuple (t.map paD)
def lnkD (l : Lnk) : PyData := .tuple [.str l.nm, .str l.one, .str l.other, tmsD l.times]
def pathD (p : Str × Str × Int) : PyData := .tuple [.str p.1, .str p.2.1, .int p.2.2]
def rowD (r : List (Option Int)) : PyData := .tuple (r.map oiD)
def numsD (n : List (List (Option Int))) : PyData := .tuple (n.map rowD)
/-- what burning tells -/
def toldD (l : List (Str × Option Int)) : PyData := .list (l.map fun q => .tuple [.str q.1, oiD q.2])
theorem noL_oi (o : Option Int) : noL (oiD o) = true := by cases o <;> rfl
theorem noL_pa (o : Option (Int × Int)) : noL (paD o) = true := by cases o <;> simp [paD, noL, noLs]
theorem noL_pr (q : Int × Str) : noL (prD q) = true := by simp [prD, noL, noLs]
theorem noL_rw (q : Str × Int) : noL (rwD q) = true := by simp [rwD, noL, noLs]
theorem noL_row (r : List (Option Int)) : noL (rowD r) = true := by
  simp only [rowD, noL, noLs_all]
  intro x hx
  obtain ⟨y, _, rfl⟩ := List.mem_map.mp hx
  exact noL_oi y
theorem noL_tms (t : Tms) : noL (tmsD t) = true := by
  simp only [tmsD, noL, noLs_all]
  intro x hx
  obtain ⟨y, _, rfl⟩ := List.mem_map.mp hx
  exact noL_pa y
theorem noL_lnk (l : Lnk) : noL (lnkD l) = true := by simp [lnkD, noL, noLs, noL_tms]
theorem noL_path (p : Str × Str × Int) : noL (pathD p) = true := by simp [pathD, noL, noLs]
/-! ### weathers -/
/-- the wind that blows at a minute -/
def blow (W : Wea) (m : Int) : Option Str := ((W.filter fun r => decide (r.1 ≤ m)).map (·.2)).getLast?
/-- the minutes of setting out that need to be tried -/
def chance (W : Wea) (m : Int) : List Int := m :: (W.filter fun r => decide (m < r.1)).map (·.1)
/-! ### a land on the heap -/
def flds (a b c d : V) : List (Str × V) := putF "paths" d (putF "links" c (putF "places" b (putF "winds" a [])))
structure LandV (K : PySem.W.Frag) (H : Hp) (v : V) (L : Ld) : Prop where
  ex : ∃ a dx wa vp vl vt, v = .ref a ∧ H a = some (.ins (cLand K) dx (flds (.ref wa) vp vl vt)) ∧ PlT H wa (L.winds.map V.str) ∧ Dt H vp (.tuple (L.places.map .str)) ∧ Dt H vl (.tuple (L.links.map lnkD)) ∧ Dt H vt (.tuple (L.paths.map pathD))
theorem LandV.mono {K : PySem.W.Frag} {H H' : Hp} {v : V} {L : Ld} (e : Ex H H') (h : LandV K H v L) : LandV K H' v L := by
  obtain ⟨a, dx, wa, vp, vl, vt, h1, h2, h3, h4, h5, h6⟩ := h.ex
  exact ⟨a, dx, wa, vp, vl, vt, h1, e _ _ h2, h3.mono e, h4.mono e, h5.mono e, h6.mono e⟩
theorem flds_eq (a b c d : V) : flds a b c d = ([("winds", a), ("places", b), ("links", c), ("paths", d)] : List (Str × V)) := by
  unfold flds
  have n1 : ¬ (("winds" : Str) = "places") := by decide +kernel
  have n2 : ¬ (("winds" : Str) = "links") := by decide +kernel
  have n3 : ¬ (("winds" : Str) = "paths") := by decide +kernel
  have n4 : ¬ (("places" : Str) = "links") := by decide +kernel
  have n5 : ¬ (("places" : Str) = "paths") := by decide +kernel
  have n6 : ¬ (("links" : Str) = "paths") := by decide +kernel
  simp only [putF, if_neg n1, if_neg n2, if_neg n3, if_neg n4, if_neg n5, if_neg n6]
theorem fl_winds (a b c d : V) : (flds a b c d).lookup ("winds" : Str) = some a := by
  rw [flds_eq]; rfl
theorem fl_places (a b c d : V) : (flds a b c d).lookup ("places" : Str) = some b := by
  rw [flds_eq]; rfl
theorem fl_links (a b c d : V) : (flds a b c d).lookup ("links" : Str) = some c := by
  rw [flds_eq]; rfl
theorem fl_paths (a b c d : V) : (flds a b c d).lookup ("paths" : Str) = some d := by
  rw [flds_eq]; rfl
/-! ### pairs and rows on the heap -/
section
variable {H : Hp} {v : V}
theorem dt_tup2 {d e : PyData} (h : Dt H v (.tuple [d, e])) : ∃ a x y, v = .ref a ∧ Rd H a (.tup [x, y]) ∧ Dt H x d ∧ Dt H y e := by
  obtain ⟨a, xs, rfl, hr, hd⟩ := h.tup_at
  obtain ⟨x, r, rfl, h1, h2⟩ := hd.cons_inv
  obtain ⟨y, r, rfl, h3, h4⟩ := h2.cons_inv
  rw [h4.nil_inv] at hr
  exact ⟨a, x, y, rfl, hr, h1, h3⟩
theorem dt_pr {q : Int × Str} (h : Dt H v (prD q)) : ∃ a, v = .ref a ∧ Rd H a (.tup [.int q.1, .str q.2]) := by
  obtain ⟨a, x, y, rfl, hr, h1, h2⟩ := dt_tup2 h
  rw [h1.int_eq, h2.str_eq] at hr
  exact ⟨a, rfl, hr⟩
theorem dt_rw {q : Str × Int} (h : Dt H v (rwD q)) : ∃ a, v = .ref a ∧ Rd H a (.tup [.str q.1, .int q.2]) := by
  obtain ⟨a, x, y, rfl, hr, h1, h2⟩ := dt_tup2 h
  rw [h1.str_eq, h2.int_eq] at hr
  exact ⟨a, rfl, hr⟩
theorem of_pr {q : Int × Str} {a : Addr} (h : Rd H a (.tup [.int q.1, .str q.2])) : Dt H (.ref a) (prD q) := .tup h (.cons (.int _) (.cons (.str _) .nil))
theorem of_rw {q : Str × Int} {a : Addr} (h : Rd H a (.tup [.str q.1, .int q.2])) : Dt H (.ref a) (rwD q) := .tup h (.cons (.str _) (.cons (.int _) .nil))
theorem dt_lnk {l : Lnk} (h : Dt H v (lnkD l)) : ∃ a t, v = .ref a ∧ Rd H a (.tup [.str l.nm, .str l.one, .str l.other, t]) ∧ Dt H t (tmsD l.times) := by
  obtain ⟨a, xs, rfl, hr, hd⟩ := h.tup_at
  obtain ⟨x1, r, rfl, h1, g1⟩ := hd.cons_inv
  obtain ⟨x2, r, rfl, h2, g2⟩ := g1.cons_inv
  obtain ⟨x3, r, rfl, h3, g3⟩ := g2.cons_inv
  obtain ⟨x4, r, rfl, h4, g4⟩ := g3.cons_inv
  rw [g4.nil_inv, h1.str_eq, h2.str_eq, h3.str_eq] at hr
  exact ⟨a, x4, rfl, hr, h4⟩
theorem DtA.map_at {α : Type} {L : List α} {f : α → PyData} {xs : List V} {i : Nat} {x : V} {a : α} (h : DtA H xs (L.map f)) (hx : xs[i]? = some x) (ha : L[i]? = some a) : Dt H x (f a) := by
  obtain ⟨d, hd, h2⟩ := h.getV hx
  rw [List.getElem?_map, ha] at hd
  cases hd
  exact h2
theorem DtA.map_len {α : Type} {L : List α} {f : α → PyData} {xs : List V} (h : DtA H xs (L.map f)) : xs.length = L.length := by
  rw [h.len, List.length_map]
end
/-! ### weathers that are weathers; what a fire needs along a link -/
structure WeaOk (winds : List Str) (W : Wea) : Prop where
  zero : ∃ z r, W = (0, z) :: r
  asc : W.Pairwise fun a b => a.1 < b.1
  mem : ∀ q ∈ W, q.2 ∈ winds
  few : W.length ≤ 40
theorem WeaOk.blow {winds : List Str} {W : Wea} (h : WeaOk winds W) {s : Int} (hs : 0 ≤ s) : ∃ z, blow W s = some z ∧ z ∈ winds := by
  obtain ⟨z0, r, rfl⟩ := h.zero
  have e : ((((0, z0) :: r : Wea).filter fun q => decide (q.1 ≤ s)).map (·.2)) = z0 :: ((r.filter fun q => decide (q.1 ≤ s)).map (·.2)) := by simp [hs]
  have hb : EF.blow ((0, z0) :: r) s = (z0 :: ((r.filter fun q => decide (q.1 ≤ s)).map (·.2))).getLast? := by unfold EF.blow; rw [e]
  cases q : (z0 :: ((r.filter fun q => decide (q.1 ≤ s)).map (·.2))).getLast? with
  | none => simp at q
  | some z =>
    refine ⟨z, by rw [hb, q], ?_⟩
    have hm := List.mem_of_getLast? q
    rw [← e] at hm
    obtain ⟨y, hy, e2⟩ := List.mem_map.mp hm
    rw [← e2]
    exact h.mem y (List.mem_filter.mp hy).1
/-- the number of a link (its row) at a minute -/
def numAt (winds : List Str) (W : Wea) (row : List (Option Int)) (s : Int) : Option Int := (blow W s).bind fun z => row.getD (winds.idxOf z) none
/-- when it is through -/
def through (winds : List Str) (W : Wea) (row : List (Option Int)) (m : Int) : Option Int := ((chance W m).filterMap fun s => (numAt winds W row s).map (s + ·)).min?
def oiV : Option Int → V
  | none => .non
  | some i => .int i
theorem dt_oi {H : Hp} {v : V} {o : Option Int} (h : Dt H v (oiD o)) : v = oiV o := by
  cases o with
  | none => exact h.non_eq
  | some i => exact h.int_eq
theorem of_oi {H : Hp} (o : Option Int) : Dt H (oiV o) (oiD o) := by
  cases o with
  | none => exact .non
  | some i => exact .int i
theorem idxOf_at {l : List Str} {z : Str} (h : z ∈ l) : l[l.idxOf z]? = some z ∧ ∀ m, m < l.idxOf z → l[m]? ≠ some z := by
  induction l with
  | nil => cases h
  | cons a l ih =>
    by_cases e : a = z
    · subst e
      simp
    · have hz : z ∈ l := by
        rcases List.mem_cons.mp h with q | q
        · exact absurd q.symm e
        · exact q
      obtain ⟨h1, h2⟩ := ih hz
      have e2 : (a :: l).idxOf z = l.idxOf z + 1 := by
        rw [List.idxOf_cons]
        have : (a == z) = false := by simpa using e
        rw [this]
        rfl
      rw [e2]
      refine ⟨by simpa using h1, fun m hm => ?_⟩
      cases m with
      | zero => simpa using e
      | succ m => simpa using h2 m (by omega)
/-! ### the numbers of the fastest and the slowest fire -/
def pickN (sd : Bool) (q : Option (Int × Int)) : Option Int := q.map fun p => if sd then p.2 else p.1
def rowOf (sd : Bool) (l : Lnk) : List (Option Int) := l.times.map (pickN sd)
def numsOf (sd : Bool) (L : Ld) : List (List (Option Int)) := L.links.map (rowOf sd)
/-! ### what a land keeps -/
def nameOk (x : Str) : Bool := decide (1 ≤ x.length) && decide (x.length ≤ 12) && (match x.cps.toList with | [] => false | c :: _ => decide (c ∉ ("0123456789" : Str).cps.toList)) && x.cps.toList.all fun c => decide (c ∈ ("abcdefghijklmnopqrstuvwxyz0123456789" : Str).cps.toList)
structure LdOk (L : Ld) : Prop where
  w1 : 1 ≤ L.winds.length ∧ L.winds.length ≤ 4
  wn : ∀ x ∈ L.winds, nameOk x = true
  wd : L.winds.Nodup
  p1 : 1 ≤ L.places.length ∧ L.places.length ≤ 24
  pn : ∀ x ∈ L.places, nameOk x = true
  pd : L.places.Nodup
  l1 : L.links.length ≤ 60
  ln : ∀ l ∈ L.links, nameOk l.nm = true
  le : ∀ l ∈ L.links, l.one ∈ L.places ∧ l.other ∈ L.places ∧ l.one ≠ l.other
  lt : ∀ l ∈ L.links, l.times.length = L.winds.length ∧ ∀ q : Int × Int, some q ∈ l.times → 1 ≤ q.1 ∧ q.1 ≤ q.2 ∧ q.2 ≤ 1000
  ld : (L.links.map (·.nm)).Nodup
  t1 : L.paths.length ≤ 60
  te : ∀ p ∈ L.paths, p.1 ∈ L.places ∧ p.2.1 ∈ L.places ∧ p.1 ≠ p.2.1 ∧ 1 ≤ p.2.2 ∧ p.2.2 ≤ 1000
  td : L.paths.Pairwise fun p q => ¬ (p.1 = q.1 ∧ p.2.1 = q.2.1) ∧ ¬ (p.1 = q.2.1 ∧ p.2.1 = q.1)
/-! ### dicts from places to minutes -/
def look (l : Rws) (s : Str) : Option Int := (l.find? fun q => decide (q.1 = s)).map (·.2)
def putS (l : Rws) (s : Str) (m : Int) : Rws := if (l.any fun q => decide (q.1 = s)) = true then l.map (fun q => if q.1 = s then (q.1, m) else q) else l ++ [(s, m)]
def dropS (l : Rws) (s : Str) : Rws := l.filter fun q => decide (q.1 ≠ s)
def mapD (l : Rws) : List (Key × V) := l.map fun q => (Sum.inr q.1, V.int q.2)
theorem valV_mapD (s : Str) : ∀ l : Rws, valV (mapD l) (Sum.inr s) = (look l s).map V.int
  | [] => rfl
  | q :: l => by
    have ih := valV_mapD s l
    by_cases e : q.1 = s
    · subst e
      simp [mapD, look, valV]
    · have n1 : ¬ ((Sum.inr q.1 : Key) = Sum.inr s) := fun z => e (Sum.inr.inj z)
      have e1 : valV (mapD (q :: l)) (Sum.inr s) = valV (mapD l) (Sum.inr s) := valV_neg (p := ((Sum.inr q.1 : Key), V.int q.2)) n1
      have e2 : look (q :: l) s = look l s := by simp [look, e]
      rw [e1, e2, ih]
theorem inr_dec (a b : Str) : decide ((Sum.inr a : Key) = Sum.inr b) = decide (a = b) := by
  by_cases e : a = b
  · rw [e]; simp
  · have : ¬ ((Sum.inr a : Key) = Sum.inr b) := fun z => e (Sum.inr.inj z)
    rw [decide_eq_false e, decide_eq_false this]
theorem putK_mapD (l : Rws) (s : Str) (m : Int) : putK (mapD l) (Sum.inr s) (V.int m) = mapD (putS l s m) := by
  have ea : ((mapD l).any fun kv => decide (kv.1 = Sum.inr s)) = l.any fun q => decide (q.1 = s) := by
    unfold mapD
    rw [List.any_map]
    congr 1
    funext q
    exact inr_dec q.1 s
  unfold putK putS
  rw [ea]
  split
  · unfold mapD
    rw [List.map_map, List.map_map]
    apply List.map_congr_left
    intro q _
    by_cases e : q.1 = s
    · simp [e]
    · have : ¬ ((Sum.inr q.1 : Key) = Sum.inr s) := fun z => e (Sum.inr.inj z)
      simp [e, this]
  · simp [mapD]
theorem dropK_mapD (l : Rws) (s : Str) : dropK (mapD l) (Sum.inr s) = mapD (dropS l s) := by
  unfold dropK dropS mapD
  rw [List.filter_map]
  congr 1
  apply List.filter_congr
  intro q _
  by_cases e : q.1 = s
  · simp [e]
  · have : ¬ ((Sum.inr q.1 : Key) = Sum.inr s) := fun z => e (Sum.inr.inj z)
    simp [e, this]
theorem mapD_len (l : Rws) : (mapD l).length = l.length := by simp [mapD]
theorem putS_len (l : Rws) (s : Str) (m : Int) : (putS l s m).length ≤ l.length + 1 := by
  unfold putS
  split <;> simp
theorem look_put (l : Rws) (s t : Str) (m : Int) : look (putS l s m) t = if t = s then some m else look l t := by
  have h := valV_put (mapD l) (Sum.inr s : Key) (Sum.inr t) (V.int m)
  rw [putK_mapD, valV_mapD, valV_mapD] at h
  by_cases e : t = s
  · subst e
    rw [if_pos rfl] at h ⊢
    cases q : look (putS l t m) t with
    | none => rw [q] at h; cases h
    | some i => rw [q] at h; rw [V.int.inj (Option.some.inj h)]
  · have : ¬ ((Sum.inr t : Key) = Sum.inr s) := fun z => e (Sum.inr.inj z)
    rw [if_neg this] at h
    rw [if_neg e]
    cases q : look (putS l s m) t with
    | none => rw [q] at h; cases q2 : look l t with
      | none => rfl
      | some i => rw [q2] at h; cases h
    | some i => rw [q] at h; cases q2 : look l t with
      | none => rw [q2] at h; cases h
      | some j => rw [q2] at h; rw [V.int.inj (Option.some.inj h)]
/-- the least minute of each place -/
def lstep (d : Rws) (q : Str × Int) : Rws := putS d q.1 (if (look d q.1).getD q.2 < q.2 then (look d q.1).getD q.2 else q.2)
def lmin (R : Rws) : Rws := R.foldl lstep []
theorem lfold_len : ∀ (R d : Rws), (R.foldl lstep d).length ≤ d.length + R.length
  | [], d => by simp
  | q :: R, d => by
    have h1 := lfold_len R (lstep d q)
    have h2 := putS_len d q.1 (if (look d q.1).getD q.2 < q.2 then (look d q.1).getD q.2 else q.2)
    simp only [List.foldl_cons, List.length_cons, lstep] at h1 ⊢
    omega
def NewD (l : Rws) (H : Hp) : Post := fun v H' => ∃ p, v = .ref p ∧ H p = none ∧ H' p = some (.dK (mapD l))
end EF
set_option maxHeartbeats 4000000
namespace EF
open PySem PySem.Spec PyProof.Rows L2 Evl
section
variable {P : Program} {w : World} {K : PySem.W.Frag} {mg : Str → Option Value} {base : Heap}
theorem hu65_of {A : Around} {k : Nat} (hr : Room k A) : A.units + 65 < cLine := by have := hr.un; omega
def R_blowing : List V → Hp → Post → Prop := fun vs H Po => ∃ vw W m z, vs = [vw, .int m] ∧ Dt H vw (weaD W) ∧ W.length < 1000 ∧ blow W m = some z ∧ Po = fun v _ => v = .str z
abbrev sp_blowing : Sp := spR R_blowing
theorem sc_blowing : FnScope ["weather", "minute", "start", "wind"] ["weather", "minute"] (defScope s_blowing) := ⟨rfl, rfl, rfl, by decide +kernel, rfl, by decide +kernel, by decide +kernel⟩
theorem ok_blowing (S : Says K mg) : Fn P w K mg base 1 "blowing" ["weather", "minute"] sp_blowing := by
  obtain ⟨fd, F⟩ := S.def_blowing
  refine ⟨⟨_, fd, S.g_blowing, F.kp, F.bindsN (fun _ _ _ _ _ _ us hl => match us, hl with | [_, _], _ => rfl), F.ok sc_blowing (fun vs H Q E h => ?_) (fun cdv A outer s H vs Q E hr h => ?_)⟩⟩
  · obtain ⟨_, ⟨_, _, _, _, rfl, _⟩, _⟩ := h
    rfl
  · obtain ⟨_, ⟨vw, W, m, z, rfl, hW, hz, hb, rfl⟩, q⟩ := h
    obtain ⟨a, xs, rfl, ha, hd⟩ := hW.lst_at
    have hl := hd.map_len
    refine ⟨_, PSs.nox ((pss_one (ps_ret (pe_ix ix_list (pe_lc (own := [("start", 2), ("wind", 3)]) (g := (gTup K 2 (gCons (gName 2) (gCons (gName 3) gNil)))) (tt := (tTest (tOp _ (tVar 2) (tVar 1)))) (te := (tVar 3)) rfl sc_blowing.nd (pi_list (pv 0)) (blkOk_by (N := ["weather", "minute", "start", "wind"]) (sc := defScope s_blowing) (by decide +kernel)) (fun _ _ _ _ _ => (pg_tup rfl (pgs_cons (pg_name (i := 2) sc_blowing.nd rfl (by first | exact Or.inl rfl | exact Or.inr rfl)) (pgs_cons (pg_name (i := 3) sc_blowing.nd rfl (by first | exact Or.inl rfl | exact Or.inr rfl)) pgs_nil)))) (fun _ _ _ _ _ => (pts_one (pt_cmpR op_le (pv 2) (pv 1) (nomark _)))) (fun _ _ _ _ _ => (pv 3))) (pe_un un_neg pe_int) (fun _ _ => rfl))))), ?_⟩
    refine r_ret (r_op (ep_lc W (fun r => if r.1 ≤ m then some (.str r.2) else none) (H := H) (ei_list ((ep_ev (ev_var (by rfl))).imp fun v H1 e ev => ⟨a, ev, SqL.of (e _ _ ha)⟩)) hl (by omega) (fun r _ d h => ?_) (fun i x r H1 e1 hr hx => ?_)) fun v H1 e1 ⟨p, ys, ev, np, hp, hdy⟩ => ?_)
    · split at h
      · cases h; rfl
      · cases h
    · obtain ⟨b, rfl, hb2⟩ := dt_pr ((hd.map_at hx hr).mono e1)
      intro H2 e2 Qk Qn hk hn
      refine ⟨b, _, rfl, .inl (ex_rd e2 hb2), rfl, _, _, rfl, _, _, rfl, rfl, rfl, _, rfl, _, rfl, _, _, rfl, rfl, _, rfl, ?_⟩
      by_cases c : r.1 ≤ m
      · rw [decide_eq_true c]
        exact iteT ⟨_, rfl, hk (.str r.2) (by simp [c]) _ H2 (Ex.refl _) (.str _)⟩
      · rw [decide_eq_false c]
        exact iteF (hn (by simp [c]) H2 (Ex.refl _))
    · have e : W.filterMap (fun r => if r.1 ≤ m then some (PyData.str r.2) else none) = (((W.filter fun r => decide (r.1 ≤ m)).map (·.2))).map .str := by
        rw [List.map_map, ← List.filterMap_eq_filter, ← List.filterMap_eq_map, List.filterMap_filterMap]
        congr 1
        funext r
        by_cases c : r.1 ≤ m <;> simp [c, Option.guard]
      rw [e] at hdy
      have hs := hdy.strs
      subst hs
      refine ⟨1, rfl, p, _, -1, .str z, ev, rfl, SqL.of hp, ?_, q _ H1 e1 rfl⟩
      have hb' : ((W.filter fun r => decide (r.1 ≤ m)).map (·.2)).getLast? = some z := hb
      rw [List.getLast?_eq_some_iff] at hb'
      obtain ⟨l, hl2⟩ := hb'
      rw [hl2, List.map_append]
      exact atI_last _ _
def R_chances : List V → Hp → Post → Prop := fun vs H Po => ∃ vw W m, vs = [vw, .int m] ∧ Dt H vw (weaD W) ∧ W.length < 1000 ∧ Po = NewL ((chance W m).map V.int) H
abbrev sp_chances : Sp := spR R_chances
theorem sc_chances : FnScope ["weather", "minute", "start", "_"] ["weather", "minute"] (defScope s_chances) := ⟨rfl, rfl, rfl, by decide +kernel, rfl, by decide +kernel, by decide +kernel⟩
theorem ok_chances (S : Says K mg) : Fn P w K mg base 1 "chances" ["weather", "minute"] sp_chances := by
  obtain ⟨fd, F⟩ := S.def_chances
  refine ⟨⟨_, fd, S.g_chances, F.kp, F.bindsN (fun _ _ _ _ _ _ us hl => match us, hl with | [_, _], _ => rfl), F.ok sc_chances (fun vs H Q E h => ?_) (fun cdv A outer s H vs Q E hr h => ?_)⟩⟩
  · obtain ⟨_, ⟨_, _, _, rfl, _⟩, _⟩ := h
    rfl
  · obtain ⟨_, ⟨vw, W, m, rfl, hW, hz, rfl⟩, q⟩ := h
    obtain ⟨a, xs, rfl, ha, hd⟩ := hW.lst_at
    have hl := hd.map_len
    refine ⟨_, PSs.nox ((pss_one (ps_ret (pe_op op_cat (pe_lst (pa_cons (pv 1) pa_nil)) (pe_lc (own := [("start", 2), ("_", 3)]) (g := (gTup K 2 (gCons (gName 2) (gCons (gName 3) gNil)))) (tt := (tTest (tOp _ (tVar 2) (tVar 1)))) (te := (tVar 2)) rfl sc_chances.nd (pi_list (pv 0)) (blkOk_by (N := ["weather", "minute", "start", "_"]) (sc := defScope s_chances) (by decide +kernel)) (fun _ _ _ _ _ => (pg_tup rfl (pgs_cons (pg_name (i := 2) sc_chances.nd rfl (by first | exact Or.inl rfl | exact Or.inr rfl)) (pgs_cons (pg_name (i := 3) sc_chances.nd rfl (by first | exact Or.inl rfl | exact Or.inr rfl)) pgs_nil)))) (fun _ _ _ _ _ => (pts_one (pt_cmpR op_gt (pv 2) (pv 1) (nomark _)))) (fun _ _ _ _ _ => (pv 2))))))), ?_⟩
    refine r_ret (r_op (ep_evL (xs := [.int m]) (el_lst (ea_cons (ev_var (by rfl)) ea_nil) (by show 1 ≤ 100000; decide))) fun v1 H1 e1 ⟨p1, ev1, n1, hp1⟩ => ?_)
    subst ev1
    refine r_bind (ep_lc W (fun r => if m < r.1 then some (.int r.1) else none) (ei_list ((ep_ev (ev_var (by rfl))).imp fun v H2 e ev => ⟨a, ev, SqL.of (e _ _ (e1 _ _ ha))⟩)) hl (by omega) (fun r _ d h => ?_) (fun i x r H2 e2 hr hx => ?_)) fun v H2 e2 ⟨p, ys, ev, np, hp, hdy⟩ => ?_
    · split at h
      · cases h; rfl
      · cases h
    · obtain ⟨b, rfl, hb2⟩ := dt_pr ((hd.map_at hx hr).mono (e1.trans e2))
      intro H3 e3 Qk Qn hk hn
      refine ⟨b, _, rfl, .inl (ex_rd e3 hb2), rfl, _, _, rfl, _, _, rfl, rfl, rfl, _, rfl, _, rfl, _, _, rfl, rfl, _, rfl, ?_⟩
      by_cases c : m < r.1
      · rw [decide_eq_true c]
        exact iteT ⟨_, rfl, hk (.int r.1) (by simp [c]) _ H3 (Ex.refl _) (.int _)⟩
      · rw [decide_eq_false c]
        exact iteF (hn (by simp [c]) H3 (Ex.refl _))
    · have e : W.filterMap (fun r => if m < r.1 then some (PyData.int r.1) else none) = (((W.filter fun r => decide (m < r.1)).map (·.1))).map .int := by
        rw [List.map_map, ← List.filterMap_eq_filter, ← List.filterMap_eq_map, List.filterMap_filterMap]
        congr 1
        funext r
        by_cases c : m < r.1 <;> simp [c, Option.guard]
      rw [e] at hdy
      have hs := hdy.ints
      subst hs
      subst ev
      have hlen : ((W.filter fun r => decide (m < r.1)).map (·.1)).length ≤ W.length := by
        rw [List.length_map]
        exact List.length_filter_le _ _
      refine ⟨p1, p, _, _, rfl, rfl, e2 _ _ hp1, hp, by simp only [List.length_map, List.length_cons, List.length_nil] at hlen ⊢; exact sz_of (by omega), fun p3 n3 => ?_⟩
      exact q _ _ ((e1.trans e2).trans (Ex.new n3)) ⟨p3, rfl, fresh_back (e1.trans e2) n3, upd_same⟩
def R_caught (K : PySem.W.Frag) : List V → Hp → Post → Prop := fun vs H Po => ∃ vl L vw W vr row m, vs = [vl, vw, vr, .int m] ∧ LandV K H vl L ∧ Dt H vw (weaD W) ∧ WeaOk L.winds W ∧ Dt H vr (rowD row) ∧ row.length = L.winds.length ∧ 0 ≤ m ∧
  Po = fun v _ => v = oiV (through L.winds W row m)
abbrev sp_caught (K : PySem.W.Frag) : Sp := spR (R_caught K)
theorem sc_caught : FnScope ["land", "weather", "row", "minute", "ends", "start", "number"] ["land", "weather", "row", "minute"] (defScope s_caught) := ⟨rfl, rfl, rfl, by decide +kernel, rfl, by decide +kernel, by decide +kernel⟩
theorem ok_caught (S : Says K mg) : Fn P w K mg base 2 "caught" ["land", "weather", "row", "minute"] (sp_caught K) := by
  have G_chances := ok_chances (P := P) (w := w) (base := base) S
  have G_blowing := ok_blowing (P := P) (w := w) (base := base) S
  obtain ⟨fd, F⟩ := S.def_caught
  refine ⟨⟨_, fd, S.g_caught, F.kp, F.bindsN (fun _ _ _ _ _ _ us hl => match us, hl with | [_, _, _, _], _ => rfl), F.ok sc_caught (fun vs H Q E h => ?_) (fun cdv A outer s H vs Q E hr h => ?_)⟩⟩
  · obtain ⟨_, ⟨_, _, _, _, _, _, _, rfl, _⟩, _⟩ := h
    rfl
  · obtain ⟨_, ⟨vl, L, vw, W, vr, row, m, rfl, hL, hW, hO, hR, hrl, hm, rfl⟩, q⟩ := h
    obtain ⟨la, dx, wa, vp, vk, vt, rfl, hla, hwi, _, _, _⟩ := hL.ex
    obtain ⟨ra, rx, rfl, hra, hrd⟩ := hR.tup_at
    have hlr := hrd.map_len
    refine ⟨_, PSs.nox ((pss_cons (ps_set (i := 4) sc_caught.nd rfl (by first | exact Or.inl rfl | exact Or.inr rfl) (pe_lst pa_nil))
    (pss_cons (ps_for PassesOwn.never rfl (pi_list (pe_fn G_chances (hr.mono (by decide)) (pa_cons (pv 1) (pa_cons (pv 3) pa_nil)))) (pg_name (i := 5) sc_caught.nd rfl (by first | exact Or.inl rfl | exact Or.inr rfl))
      (pss_cons (ps_set (i := 6) sc_caught.nd rfl (by first | exact Or.inl rfl | exact Or.inr rfl) (pe_ix ix_tup (pv 2) (pe_tix (pe_fld (pv 0) rfl) (pa_cons (pe_fn G_blowing (hr.mono (by decide)) (pa_cons (pv 1) (pa_cons (pv 5) pa_nil))) pa_nil)) (fun _ _ => rfl)))
    (pss_one (ps_if (pt_cmpR op_notN (pv 6) pe_non (nomark _)) (pss_one (ps_expr (pe_bm PySem.F.plainAttrs_list PySem.F.slot_list_append PySem.F.type_list_append mt_append (pv 4) (pa_cons (pe_op op_add (pv 5) (pv 6)) pa_nil)))) pss_nil))))
    (pss_one (ps_ret (pe_minD rfl (hu64_of hr) S.f_min (pa_cons (pv 4) pa_nil))))))), ?_⟩
    refine q_asgL (el_lst ea_nil (by decide)) fun p H1 np e1 hp => ?_
    -- for start in chances(weather, minute)
    refine r_seq ?_
    refine r_bind (ep_callL (R := R_chances) (xs := (chance W m).map V.int) (ea_cons (ev_var (by rfl)) (ea_cons (ev_var (by rfl)) ea_nil)) fun H2 e2 => ⟨vw, W, m, rfl, hW.mono (e1.trans e2), by have := hO.few; omega, rfl⟩) fun v H2 e2 ⟨c, ev, nc, hc⟩ => ?_
    subst ev
    have npc : p ≠ c := ne_of_none hp nc
    let f := fun s => (numAt L.winds W row s).map (s + ·)
    refine ⟨c, rfl, ⟨_, SqL.of hc⟩, for_list (xs := (chance W m).map V.int) (fun i σ' H' => (∃ x5 x6, σ' = [some (.ref la), some vw, some (.ref ra), some (.int m), some (.ref p), x5, x6]) ∧ Ex H H' ∧ H' c = some (.lst ((chance W m).map V.int)) ∧
      H' p = some (.lst ((((chance W m).take i).filterMap f).map V.int))) ⟨⟨_, _, rfl⟩, e1.trans e2, hc, e2 _ _ hp⟩ (fun i σ' H' _ h => SqL.of h.2.2.1) (fun i x σ' H' hx h => ?_) (fun σ' H' h => ?_)⟩
    · obtain ⟨⟨x5, x6, rfl⟩, eH, hcl, hpl⟩ := h
      rw [List.getElem?_map] at hx
      obtain ⟨s1, hs1, rfl⟩ : ∃ s1, (chance W m)[i]? = some s1 ∧ x = .int s1 := by
        cases hq : (chance W m)[i]? with
        | none => rw [hq] at hx; cases hx
        | some s1 => rw [hq] at hx; exact ⟨s1, rfl, (Option.some.inj hx).symm⟩
      have hs0 : 0 ≤ s1 := by
        have hmem := List.mem_of_getElem? hs1
        rcases List.mem_cons.mp hmem with z | z
        · omega
        · obtain ⟨r, hr1, hr2⟩ := List.mem_map.mp z
          have := of_decide_eq_true (List.mem_filter.mp hr1).2
          omega
      obtain ⟨z, hz1, hz2⟩ := hO.blow hs0
      obtain ⟨j1, j2⟩ := idxOf_at hz2
      have hj : L.winds.idxOf z < row.length := by rw [hrl]; exact (List.getElem?_eq_some_iff.mp j1).1
      obtain ⟨o, ho⟩ : ∃ o, row[L.winds.idxOf z]? = some o := ⟨_, List.getElem?_eq_getElem hj⟩
      obtain ⟨xo, hxo⟩ : ∃ xo, rx[L.winds.idxOf z]? = some xo := ⟨_, List.getElem?_eq_getElem (by omega)⟩
      have hxo2 := dt_oi (hrd.map_at hxo ho)
      subst hxo2
      have hnum : numAt L.winds W row s1 = o := by
        unfold numAt
        rw [hz1, Option.bind_some, List.getD_eq_getElem?_getD, ho]; rfl
      have hstep : ((chance W m).take (i + 1)).filterMap f = ((chance W m).take i).filterMap f ++ (match o with | some n => [s1 + n] | none => []) := by
        rw [List.take_succ, hs1, List.filterMap_append]
        congr 1
        cases o <;> simp [f, hnum]
      -- number = row[land.winds.index(blowing(weather, start))]
      refine r_seq (r_asg (r_opV (ev_var (by rfl)) fun H3 e3 => ?_))
      refine ⟨_, rfl, la, _, dx, _, _, rfl, e3 _ _ (eH _ _ hla), S.cl, S.na_winds, fl_winds _ _ _ _, wa, _, rfl, (hwi.mono eH).mono e3, ?_⟩
      refine r_bind (ep_call (R := R_blowing) (ea_cons (ev_var (by rfl)) (ea_cons (ev_var (by rfl)) ea_nil)) fun H4 e4 => ⟨vw, W, s1, z, rfl, hW.mono ((eH.trans e3).trans e4), by have := hO.few; omega, hz1, rfl⟩) fun v4 H4 e4 ev4 => ?_
      subst ev4
      refine ⟨L.winds, z, L.winds.idxOf z, ((hwi.mono eH).mono e3).mono e4, rfl, j1, j2, ?_⟩
      refine ⟨ra, rx, _, _, rfl, rfl, .inl (ex_rd ((eH.trans e3).trans e4) hra), atI_nat hxo, ?_⟩
      have e34 := e3.trans e4
      -- if number is not None
      cases o with
      | none =>
        refine ⟨_, rfl, rfl, _, rfl, iteF ?_⟩
        refine ⟨⟨_, _, rfl⟩, eH.trans e34, e34 _ _ hcl, ?_⟩
        rw [hstep, List.append_nil]
        exact e34 _ _ hpl
      | some n =>
        refine ⟨_, rfl, rfl, _, rfl, iteT ?_⟩
        refine ⟨_, rfl, .inl ⟨rfl, _, SqL.of (e34 _ _ hpl)⟩, _, rfl, _, rfl, _, _, rfl, rfl, p, _, _, rfl, rfl, e34 _ _ hpl, ?_, ?_⟩
        · have h1 : (((chance W m).take i).filterMap f).length ≤ ((chance W m).take i).length := List.length_filterMap_le _ _
          have h2 : ((chance W m).take i).length ≤ (chance W m).length := List.length_take_le' _ _
          have h3 : (chance W m).length ≤ W.length + 1 := by
            simp only [chance, List.length_cons, List.length_map]
            have := List.length_filter_le (fun r : Int × Str => decide (m < r.1)) W
            omega
          have := hO.few
          rw [List.length_map]
          exact sz_lt (by omega)
        · have npH : H p = none := np
          refine ⟨⟨_, _, rfl⟩, Ex.mut (eH.trans e34) npH, by rw [upd_ne npc.symm]; exact e34 _ _ hcl, ?_⟩
          rw [hstep, upd_same, List.map_append]
          rfl
    · obtain ⟨⟨x5, x6, rfl⟩, eH, hcl, hpl⟩ := h
      rw [List.length_map, List.take_length] at hpl
      refine gn (r_ret ?_)
      refine ⟨_, rfl, p, _, rfl, rfl, SqL.of hpl, fun hn => ?_, fun y hy hmin => ?_⟩
      · refine q _ H' eH ?_
        show V.non = oiV (through L.winds W row m)
        unfold through
        rw [show ((chance W m).filterMap fun s => (numAt L.winds W row s).map (s + ·)) = [] from hn]
        rfl
      · refine q _ H' eH ?_
        show V.int y = oiV (through L.winds W row m)
        unfold through
        rw [show ((chance W m).filterMap fun s => (numAt L.winds W row s).map (s + ·)).min? = some y from List.min?_eq_some_iff.mpr ⟨hy, hmin⟩]
        rfl
end
end EF
set_option maxHeartbeats 4000000
namespace EF
open PySem PySem.Spec PyProof.Rows L2 Evl
section
variable {P : Program} {w : World} {K : PySem.W.Frag} {mg : Str → Option Value} {base : Heap}
def R_nums (K : PySem.W.Frag) (sd : Bool) : List V → Hp → Post → Prop := fun vs H Po => ∃ vl L, vs = [vl] ∧ LandV K H vl L ∧ L.links.length < 1000 ∧ (∀ l ∈ L.links, l.times.length < 1000) ∧ Po = fun v H' => Dt H' v (numsD (numsOf sd L))
theorem sc_least_numbers : FnScope ["land", "pair", "link"] ["land"] (defScope s_least_numbers) := ⟨rfl, rfl, rfl, by decide +kernel, rfl, by decide +kernel, by decide +kernel⟩
theorem ok_least_numbers (S : Says K mg) : Fn P w K mg base 1 "least_numbers" ["land"] (spR (R_nums K false)) := by
  obtain ⟨fd, F⟩ := S.def_least_numbers
  refine ⟨⟨_, fd, S.g_least_numbers, F.kp, F.bindsN (fun _ _ _ _ _ _ us hl => match us, hl with | [_], _ => rfl), F.ok sc_least_numbers (fun vs H Q E h => ?_) (fun cdv A outer s H vs Q E hr h => ?_)⟩⟩
  · obtain ⟨_, ⟨_, _, rfl, _⟩, _⟩ := h
    rfl
  · obtain ⟨_, ⟨vl, L, rfl, hL, hz, hzt, rfl⟩, q⟩ := h
    obtain ⟨la, dx, wa, vp, vk, vt, rfl, hla, hwi, _, hk, _⟩ := hL.ex
    obtain ⟨ka, ks, rfl, hka, hkd⟩ := hk.tup_at
    have hkl := hkd.map_len
    refine ⟨_, PSs.nox ((pss_one (ps_ret (pe_callTy call_tupF (by rfl) S.f_tuple (by decide +kernel) (pa_cons (pe_lc (own := [("link", 2)]) (g := (gName 2)) (tt := tYes) (te := (tCB (rTupOf K) (tCons (tLc (iTup K (tOp (rIxT K) (tVar 2) (tC (.int 3)))) (gName 1) tYes (tIf (tTest (tOp _ (tVar 1) (tC .non))) (tC .non) (tOp (rIxT K) (tVar 1) (tC (.int 0)))) [1]) tNil))) rfl sc_least_numbers.nd (pi_tup (pe_fld (pv 0) rfl)) (blkOk_by (N := ["land", "pair", "link"]) (sc := defScope s_least_numbers) (by decide +kernel)) (fun _ _ _ _ _ => (pg_name (i := 2) sc_least_numbers.nd rfl (by first | exact Or.inl rfl | exact Or.inr rfl))) (fun _ _ _ _ _ => pts_nil) (fun _ _ _ _ _ => (pe_callTy call_tupF (by rfl) S.f_tuple (by decide +kernel) (pa_cons (pe_lc (own := [("pair", 1)]) (g := (gName 1)) (tt := tYes) (te := (tIf (tTest (tOp _ (tVar 1) (tC .non))) (tC .non) (tOp (rIxT K) (tVar 1) (tC (.int 0))))) rfl sc_least_numbers.nd (pi_tup (pe_ix ix_tup (pv 2) pe_int (fun _ _ => rfl))) (blkOk_by (N := ["land", "pair", "link"]) (sc := relS _ (defScope s_least_numbers)) (by decide +kernel)) (fun _ _ _ _ _ => (pg_name (i := 1) sc_least_numbers.nd rfl (by first | exact Or.inl rfl | exact Or.inr rfl))) (fun _ _ _ _ _ => pts_nil) (fun _ _ _ _ _ => (pe_ifExp (pt_cmpR op_isN (pv 1) pe_non (nomark _)) pe_non (pe_ix ix_tup (pv 1) pe_int (fun _ _ => rfl))))) pa_nil)))) pa_nil))))), ?_⟩
    refine r_ret (r_cb (ep_lc L.links (fun l => some (rowD (rowOf false l))) (ei_tup ((ep_ev (ev_fld (ev_var (by rfl)) hla S.cl S.na_links (fl_links _ _ _ _))).imp fun v H1 e ev => ⟨ka, ev, .inl (ex_rd e hka)⟩)) hkl (by omega) (fun l _ d h => by cases h; exact noL_row _) (fun i x l H1 e1 hl hx => ?_)) fun v H1 e1 ⟨p, ys, ev, np, hp, hd⟩ => ?_)
    · obtain ⟨b, tv, rfl, hb, ht⟩ := dt_lnk ((hkd.map_at hx hl).mono e1)
      intro H2 e2 Qk Qn hk hn
      refine lcY rfl ?_
      obtain ⟨ta, ts, rfl, hta, htd⟩ := (ht.mono e2).tup_at
      have htl := htd.map_len
      have htz := hzt l (List.mem_of_getElem? hl)
      have src : EvP (tOp (rIxT K) (tVar 1) (tC (.int 3))) [some (.ref la), some (.ref b), none] H2 (fun v H' => ∃ a, v = .ref a ∧ SqT K H' a ts) :=
        (ep_ev (ev_op (ev_var (by rfl)) ev_c (rv_ixT (.inl (ex_rd e2 hb)) (v := .ref ta) (by rfl)))).imp fun v H3 e3 ev => ⟨ta, ev, .inl (ex_rd e3 hta)⟩
      refine r_cb (ep_lc l.times (fun q => some (oiD (pickN false q))) (ei_tup src) htl (by omega) (fun q _ d h => by cases h; exact noL_oi _) (fun j y q H3 e3 hq hy => ?_)) fun v H3 e3 ⟨p3, ys3, ev3, np3, hp3, hd3⟩ => ?_
      · have hyd := (htd.map_at hy hq).mono e3
        intro H4 e4 Qk4 Qn4 hk4 hn4
        cases q with
        | none =>
          have ey := hyd.non_eq
          subst ey
          exact lcY rfl ⟨_, rfl, rfl, _, rfl, iteT (hk4 .none rfl .non H4 (Ex.refl _) .non)⟩
        | some ab =>
          obtain ⟨pa, x1, x2, rfl, hpr, h1, h2⟩ := dt_tup2 hyd
          have g1 := h1.int_eq
          have g2 := h2.int_eq
          subst g1 g2
          exact lcY rfl ⟨_, rfl, rfl, _, rfl, iteF ⟨_, rfl, pa, _, _, _, rfl, rfl, .inl (ex_rd e4 hpr), by rfl, hk4 (.int ab.1) rfl _ H4 (Ex.refl _) (.int _)⟩⟩
      · subst ev3
        refine ⟨p3, ys3, rfl, .inl ⟨SqL.of hp3, fun l2 o2 nl2 _ => ?_⟩⟩
        refine hk _ rfl _ _ (e3.trans (Ex.new nl2)) (.tup (.inr ⟨o2, upd_same⟩) ?_)
        have e5 : l.times.filterMap (fun q => some (oiD (pickN false q))) = (rowOf false l).map oiD := by
          rw [List.filterMap_eq_map', rowOf, List.map_map]; rfl
        rw [e5] at hd3
        exact hd3.mono (Ex.new nl2)
    · subst ev
      refine ⟨p, ys, rfl, .inl ⟨SqL.of hp, fun l2 o2 nl2 _ => ?_⟩⟩
      refine q _ _ (e1.trans (Ex.new nl2)) (.tup (.inr ⟨o2, upd_same⟩) ?_)
      have e5 : L.links.filterMap (fun l => some (rowD (rowOf false l))) = (numsOf false L).map rowD := by
        rw [List.filterMap_eq_map', numsOf, List.map_map]; rfl
      rw [e5] at hd
      exact hd.mono (Ex.new nl2)
theorem sc_most_numbers : FnScope ["land", "pair", "link"] ["land"] (defScope s_most_numbers) := ⟨rfl, rfl, rfl, by decide +kernel, rfl, by decide +kernel, by decide +kernel⟩
theorem ok_most_numbers (S : Says K mg) : Fn P w K mg base 1 "most_numbers" ["land"] (spR (R_nums K true)) := by
  obtain ⟨fd, F⟩ := S.def_most_numbers
  refine ⟨⟨_, fd, S.g_most_numbers, F.kp, F.bindsN (fun _ _ _ _ _ _ us hl => match us, hl with | [_], _ => rfl), F.ok sc_most_numbers (fun vs H Q E h => ?_) (fun cdv A outer s H vs Q E hr h => ?_)⟩⟩
  · obtain ⟨_, ⟨_, _, rfl, _⟩, _⟩ := h
    rfl
  · obtain ⟨_, ⟨vl, L, rfl, hL, hz, hzt, rfl⟩, q⟩ := h
    obtain ⟨la, dx, wa, vp, vk, vt, rfl, hla, hwi, _, hk, _⟩ := hL.ex
    obtain ⟨ka, ks, rfl, hka, hkd⟩ := hk.tup_at
    have hkl := hkd.map_len
    refine ⟨_, PSs.nox ((pss_one (ps_ret (pe_callTy call_tupF (by rfl) S.f_tuple (by decide +kernel) (pa_cons (pe_lc (own := [("link", 2)]) (g := (gName 2)) (tt := tYes) (te := (tCB (rTupOf K) (tCons (tLc (iTup K (tOp (rIxT K) (tVar 2) (tC (.int 3)))) (gName 1) tYes (tIf (tTest (tOp _ (tVar 1) (tC .non))) (tC .non) (tOp (rIxT K) (tVar 1) (tC (.int 1)))) [1]) tNil))) rfl sc_most_numbers.nd (pi_tup (pe_fld (pv 0) rfl)) (blkOk_by (N := ["land", "pair", "link"]) (sc := defScope s_most_numbers) (by decide +kernel)) (fun _ _ _ _ _ => (pg_name (i := 2) sc_most_numbers.nd rfl (by first | exact Or.inl rfl | exact Or.inr rfl))) (fun _ _ _ _ _ => pts_nil) (fun _ _ _ _ _ => (pe_callTy call_tupF (by rfl) S.f_tuple (by decide +kernel) (pa_cons (pe_lc (own := [("pair", 1)]) (g := (gName 1)) (tt := tYes) (te := (tIf (tTest (tOp _ (tVar 1) (tC .non))) (tC .non) (tOp (rIxT K) (tVar 1) (tC (.int 1))))) rfl sc_most_numbers.nd (pi_tup (pe_ix ix_tup (pv 2) pe_int (fun _ _ => rfl))) (blkOk_by (N := ["land", "pair", "link"]) (sc := relS _ (defScope s_most_numbers)) (by decide +kernel)) (fun _ _ _ _ _ => (pg_name (i := 1) sc_most_numbers.nd rfl (by first | exact Or.inl rfl | exact Or.inr rfl))) (fun _ _ _ _ _ => pts_nil) (fun _ _ _ _ _ => (pe_ifExp (pt_cmpR op_isN (pv 1) pe_non (nomark _)) pe_non (pe_ix ix_tup (pv 1) pe_int (fun _ _ => rfl))))) pa_nil)))) pa_nil))))), ?_⟩
    refine r_ret (r_cb (ep_lc L.links (fun l => some (rowD (rowOf true l))) (ei_tup ((ep_ev (ev_fld (ev_var (by rfl)) hla S.cl S.na_links (fl_links _ _ _ _))).imp fun v H1 e ev => ⟨ka, ev, .inl (ex_rd e hka)⟩)) hkl (by omega) (fun l _ d h => by cases h; exact noL_row _) (fun i x l H1 e1 hl hx => ?_)) fun v H1 e1 ⟨p, ys, ev, np, hp, hd⟩ => ?_)
    · obtain ⟨b, tv, rfl, hb, ht⟩ := dt_lnk ((hkd.map_at hx hl).mono e1)
      intro H2 e2 Qk Qn hk hn
      refine lcY rfl ?_
      obtain ⟨ta, ts, rfl, hta, htd⟩ := (ht.mono e2).tup_at
      have htl := htd.map_len
      have htz := hzt l (List.mem_of_getElem? hl)
      have src : EvP (tOp (rIxT K) (tVar 1) (tC (.int 3))) [some (.ref la), some (.ref b), none] H2 (fun v H' => ∃ a, v = .ref a ∧ SqT K H' a ts) :=
        (ep_ev (ev_op (ev_var (by rfl)) ev_c (rv_ixT (.inl (ex_rd e2 hb)) (v := .ref ta) (by rfl)))).imp fun v H3 e3 ev => ⟨ta, ev, .inl (ex_rd e3 hta)⟩
      refine r_cb (ep_lc l.times (fun q => some (oiD (pickN true q))) (ei_tup src) htl (by omega) (fun q _ d h => by cases h; exact noL_oi _) (fun j y q H3 e3 hq hy => ?_)) fun v H3 e3 ⟨p3, ys3, ev3, np3, hp3, hd3⟩ => ?_
      · have hyd := (htd.map_at hy hq).mono e3
        intro H4 e4 Qk4 Qn4 hk4 hn4
        cases q with
        | none =>
          have ey := hyd.non_eq
          subst ey
          exact lcY rfl ⟨_, rfl, rfl, _, rfl, iteT (hk4 .none rfl .non H4 (Ex.refl _) .non)⟩
        | some ab =>
          obtain ⟨pa, x1, x2, rfl, hpr, h1, h2⟩ := dt_tup2 hyd
          have g1 := h1.int_eq
          have g2 := h2.int_eq
          subst g1 g2
          exact lcY rfl ⟨_, rfl, rfl, _, rfl, iteF ⟨_, rfl, pa, _, _, _, rfl, rfl, .inl (ex_rd e4 hpr), by rfl, hk4 (.int ab.2) rfl _ H4 (Ex.refl _) (.int _)⟩⟩
      · subst ev3
        refine ⟨p3, ys3, rfl, .inl ⟨SqL.of hp3, fun l2 o2 nl2 _ => ?_⟩⟩
        refine hk _ rfl _ _ (e3.trans (Ex.new nl2)) (.tup (.inr ⟨o2, upd_same⟩) ?_)
        have e5 : l.times.filterMap (fun q => some (oiD (pickN true q))) = (rowOf true l).map oiD := by
          rw [List.filterMap_eq_map', rowOf, List.map_map]; rfl
        rw [e5] at hd3
        exact hd3.mono (Ex.new nl2)
    · subst ev
      refine ⟨p, ys, rfl, .inl ⟨SqL.of hp, fun l2 o2 nl2 _ => ?_⟩⟩
      refine q _ _ (e1.trans (Ex.new nl2)) (.tup (.inr ⟨o2, upd_same⟩) ?_)
      have e5 : L.links.filterMap (fun l => some (rowD (rowOf true l))) = (numsOf true L).map rowD := by
        rw [List.filterMap_eq_map', numsOf, List.map_map]; rfl
      rw [e5] at hd
      exact hd.mono (Ex.new nl2)
def R_is_number : List V → Hp → Post → Prop := fun vs H Po => ∃ v o q, vs = [oiV o, v] ∧ Dt H v (paD q) ∧ ((o = none ∧ q = none) ∨ ∃ i a b : Int, o = some i ∧ q = some (a, b) ∧ a ≤ i ∧ i ≤ b) ∧ Po = fun v _ => v = .bl true
theorem sc_is_number : FnScope ["number", "pair"] ["number", "pair"] (defScope s_is_number) := ⟨rfl, rfl, rfl, by decide +kernel, rfl, by decide +kernel, by decide +kernel⟩
theorem ok_is_number (S : Says K mg) : Fn P w K mg base 1 "is_number" ["number", "pair"] (spR R_is_number) := by
  obtain ⟨fd, F⟩ := S.def_is_number
  refine ⟨⟨_, fd, S.g_is_number, F.kp, F.bindsN (fun _ _ _ _ _ _ us hl => match us, hl with | [_, _], _ => rfl), F.ok sc_is_number (fun vs H Q E h => ?_) (fun cdv A outer s H vs Q E hr h => ?_)⟩⟩
  · obtain ⟨_, ⟨_, _, _, rfl, _⟩, _⟩ := h
    rfl
  · obtain ⟨_, ⟨v, o, pq, rfl, hv, ho, rfl⟩, q⟩ := h
    refine ⟨_, PSs.nox ((pss_cons (ps_if (PW.pt (pw_or (pt_cmpR op_isN (pv 0) pe_non (nomark _)) (pw_or1 (pt_cmpR op_isN (pv 1) pe_non (nomark _))))) (pss_one (ps_ret (pe_and (pe_cmpR op_isN (pv 0) pe_non (nomark _)) (pe_one (pe_cmpR op_isN (pv 1) pe_non (nomark _)))))) pss_nil)
    (pss_one (ps_ret (pe_chain op_le op_le (pe_ix ix_tup (pv 1) pe_int (fun _ _ => rfl)) (pv 0) (pe_ix ix_tup (pv 1) pe_int (fun _ _ => rfl))))))), ?_⟩
    rcases ho with ⟨rfl, rfl⟩ | ⟨i, a, b, rfl, rfl, h1, h2⟩
    · have ev := hv.non_eq
      subst ev
      exact ⟨_, rfl, rfl, _, rfl, iteT (iteT ⟨_, rfl, rfl, _, rfl, iteT ⟨_, rfl, rfl, q _ H (Ex.refl _) rfl⟩⟩)⟩
    · obtain ⟨pa, x1, x2, rfl, hpr, g1, g2⟩ := dt_tup2 hv
      have g1 := g1.int_eq
      have g2 := g2.int_eq
      subst g1 g2
      refine ⟨_, rfl, rfl, _, rfl, iteF ⟨_, rfl, rfl, _, rfl, iteF ?_⟩⟩
      refine ⟨_, rfl, pa, _, _, _, rfl, rfl, .inl hpr, by rfl, _, rfl, _, _, rfl, rfl, _, rfl, ?_⟩
      rw [decide_eq_true h1]
      refine iteT ⟨_, rfl, pa, _, _, _, rfl, rfl, .inl hpr, by rfl, _, _, rfl, rfl, ?_⟩
      refine q _ H (Ex.refl _) ?_
      show V.bl (decide (i ≤ b)) = V.bl true
      rw [decide_eq_true h2]
end
end EF
set_option maxHeartbeats 4000000
namespace EF
open PySem PySem.Spec PyProof.Rows L2 Evl
/-! ### zip of two tuples of one length, in a comprehension -/
theorem walk_zipT {K : PySem.W.Frag} {a b : Addr} {xs ys : List V} {n : Nat} (h1 : xs.length = n) (h2 : ys.length = n) : Walk (RZ.ItzT K a b) n (fun H => SqT K H a xs ∧ SqT K H b ys) (YPair (fun i => xs[i]?) (fun i => ys[i]?)) where
  goes := fun i H hi ⟨g1, g2⟩ => ⟨xs, ys, xs[i]'(by omega), ys[i]'(by omega), g1, g2, List.getElem?_eq_getElem _, List.getElem?_eq_getElem _⟩
  stops := fun H ⟨g1, g2⟩ => ⟨xs, ys, g1, g2, .inl (by omega)⟩
  yields := fun i H x H' hi ⟨g1, g2⟩ ⟨T, x1, x2, e, n, eH, k1, k2⟩ => ⟨T, x1, x2, e, n, eH, k1 xs g1, k2 ys g2⟩
theorem ei_zipT {K : PySem.W.Frag} {σ : L2.St} {H : Hp} {ta : TA} {a b : Addr} {xs ys : List V} {n : Nat} (h : EvA ta σ H [.ref a, .ref b]) (h1 : SqT K H a xs) (h2 : SqT K H b ys) (l1 : xs.length = n) (l2 : ys.length = n) :
    EvI (RZ.iZipA K ta) σ H n (fun i x H' => ∃ T x1 x2, x = .ref T ∧ H' T = some (.tup [x1, x2]) ∧ xs[i]? = some x1 ∧ ys[i]? = some x2) :=
  fun H1 e R q => h H1 e _ fun H2 e2 => ⟨a, b, xs, ys, rfl, .inr ⟨ex_t (e.trans e2) h1, ex_t (e.trans e2) h2, q _ H2 e2 ⟨_, _, walk_zipT l1 l2, ⟨ex_t (e.trans e2) h1, ex_t (e.trans e2) h2⟩, fun _ _ e h => ⟨ex_t e h.1, ex_t e h.2⟩,
    fun i H3 x H4 _ _ ⟨T, x1, x2, ex, n, eH, k1, k2⟩ => by subst eH; exact ⟨Ex.new n, T, x1, x2, ex, upd_same, k1, k2⟩⟩⟩⟩
theorem DtA.bools {H : Hp} : ∀ {vs : List V} {bs : List Bool}, DtA H vs (bs.map .bool) → vs = bs.map V.bl
  | vs, [], h => by rw [h.nil_inv]; rfl
  | vs, n :: r, h => by
    obtain ⟨v, l, rfl, h1, h2⟩ := DtA.cons_inv h
    cases h1
    rw [DtA.bools h2]; rfl
theorem all_true {α : Type} : ∀ l : List α, ((l.map fun _ => true).all id) = true
  | [] => rfl
  | a :: l => by simp [all_true l]
section
variable {P : Program} {w : World} {K : PySem.W.Frag} {mg : Str → Option Value} {base : Heap}
def R_check_numbers (K : PySem.W.Frag) : List V → Hp → Post → Prop := fun vs H Po => ∃ vl L vn sd, vs = [vl, vn] ∧ LandV K H vl L ∧ LdOk L ∧ Dt H vn (numsD (numsOf sd L)) ∧ Po = fun v _ => v = .non
theorem sc_check_numbers : FnScope ["land", "numbers", "row", "link", "number", "pair"] ["land", "numbers"] (defScope s_check_numbers) := ⟨rfl, rfl, rfl, by decide +kernel, rfl, by decide +kernel, by decide +kernel⟩
theorem ok_check_numbers (S : Says K mg) : Fn P w K mg base 2 "check_numbers" ["land", "numbers"] (spR (R_check_numbers K)) := by
  have G_is_number := ok_is_number (P := P) (w := w) (base := base) S
  obtain ⟨fd, F⟩ := S.def_check_numbers
  refine ⟨⟨_, fd, S.g_check_numbers, F.kp, F.bindsN (fun _ _ _ _ _ _ us hl => match us, hl with | [_, _], _ => rfl), F.ok sc_check_numbers (fun vs H Q E h => ?_) (fun cdv A outer s H vs Q E hr h => ?_)⟩⟩
  · obtain ⟨_, ⟨_, _, _, _, rfl, _⟩, _⟩ := h
    rfl
  · obtain ⟨_, ⟨vl, L, vn, sd, rfl, hL, hk, hn, rfl⟩, q⟩ := h
    obtain ⟨la, dx, wa, vp, vk, vt, rfl, hla, hwi, _, hK, _⟩ := hL.ex
    obtain ⟨ka, ks, rfl, hka, hkd⟩ := hK.tup_at
    obtain ⟨na, ns, rfl, hna, hnd⟩ := hn.tup_at
    have hkl := hkd.map_len
    have hnl : ns.length = L.links.length := by rw [hnd.map_len, numsOf, List.length_map]
    refine ⟨_, PSs.nox ((pss_cons (ps_if (pt_cmpR op_ne (pe_callB call_len_seq (by rfl) S.f_len PySem.boot_len (pa_cons (pv 1) pa_nil)) (pe_callB call_len_seq (by rfl) S.f_len PySem.boot_len (pa_cons (pe_fld (pv 0) rfl) pa_nil)) (nomark _)) (pss_one ps_never) pss_nil)
    (pss_one (ps_for PassesOwn.never rfl (RZ.pi_zipA rfl S.f_zip (pa_cons (pv 1) (pa_cons (pe_fld (pv 0) rfl) pa_nil))) (pg_tup rfl (pgs_cons (pg_name (i := 2) sc_check_numbers.nd rfl (by first | exact Or.inl rfl | exact Or.inr rfl)) (pgs_cons (pg_name (i := 3) sc_check_numbers.nd rfl (by first | exact Or.inl rfl | exact Or.inr rfl)) pgs_nil)))
      (pss_one (ps_if (PW.pt (pw_or (pt_cmpR op_ne (pe_callB call_len_seq (by rfl) S.f_len PySem.boot_len (pa_cons (pv 2) pa_nil)) (pe_callB call_len_seq (by rfl) S.f_len PySem.boot_len (pa_cons (pe_ix ix_tup (pv 3) pe_int (fun _ _ => rfl)) pa_nil)) (nomark _)) (pw_or1 (pt_not (pt_val (pe_callB (cr_all rfl) (by rfl) S.f_all (by decide +kernel) (pa_cons (pe_lc (own := [("number", 4), ("pair", 5)]) (g := (gTup K 2 (gCons (gName 4) (gCons (gName 5) gNil)))) (tt := tYes) (te := (tCl _ E0 (tCons (tVar 4) (tCons (tVar 5) tNil)))) rfl sc_check_numbers.nd (RZ.pi_zipA rfl S.f_zip (pa_cons (pv 2) (pa_cons (pe_ix ix_tup (pv 3) pe_int (fun _ _ => rfl)) pa_nil))) (blkOk_by (N := ["land", "numbers", "row", "link", "number", "pair"]) (sc := defScope s_check_numbers) (by decide +kernel)) (fun _ _ _ _ _ => (pg_tup rfl (pgs_cons (pg_name (i := 4) sc_check_numbers.nd rfl (by first | exact Or.inl rfl | exact Or.inr rfl)) (pgs_cons (pg_name (i := 5) sc_check_numbers.nd rfl (by first | exact Or.inl rfl | exact Or.inr rfl)) pgs_nil)))) (fun _ _ _ _ _ => pts_nil) (fun _ _ _ _ _ => (pe_fn G_is_number (hr.mono (by decide)) (pa_cons (pv 4) (pa_cons (pv 5) pa_nil))))) pa_nil))))))) (pss_one ps_never) pss_nil)))))), ?_⟩
    refine ⟨_, rfl, na, ns, rfl, .inr (.inl hna), _, rfl, la, _, dx, _, _, rfl, hla, S.cl, S.na_links, fl_links _ _ _ _, ka, ks, rfl, .inr (.inl hka), rfl, _, rfl, ?_⟩
    rw [hnl, hkl]
    refine iteNS rfl ?_
    refine gn ?_
    refine ⟨_, rfl, _, rfl, la, _, dx, _, _, rfl, hla, S.cl, S.na_links, fl_links _ _ _ _, na, ka, ns, ks, rfl, .inr ⟨.inl hna, .inl hka, ?_⟩⟩
    refine RZ.for_zipT (xs := ns) (ys := ks) (by omega) (fun i σ' H' => (∃ x2 x3 x4 x5, σ' = [some (.ref la), some (.ref na), x2, x3, x4, x5]) ∧ Ex H H') ⟨⟨_, _, _, _, rfl⟩, Ex.refl _⟩ (fun i σ' H' h => ⟨.inl (ex_rd h.2 hna), .inl (ex_rd h.2 hka)⟩) (fun i x y T σ' H' hx hy h nT => ?_) (fun σ' H' h => ?_)
    · obtain ⟨⟨x2, x3, x4, x5, rfl⟩, eH⟩ := h
      have hil : i < L.links.length := by have := (List.getElem?_eq_some_iff.mp hy).1; omega
      obtain ⟨l, hl⟩ : ∃ l, L.links[i]? = some l := ⟨_, List.getElem?_eq_getElem hil⟩
      have hnum : (numsOf sd L)[i]? = some (rowOf sd l) := by simp [numsOf, hl]
      have hxd := (hnd.map_at hx hnum).mono eH
      have hyd := (hkd.map_at hy hl).mono eH
      obtain ⟨ra, rs, rfl, hra, hrd⟩ := hxd.tup_at
      obtain ⟨ba, tv, rfl, hba, htv⟩ := dt_lnk hyd
      obtain ⟨ta, ts, rfl, hta, htd⟩ := htv.tup_at
      have hrl : rs.length = l.times.length := by rw [hrd.map_len, rowOf, List.length_map]
      have htl := htd.map_len
      have e1 : Ex H' (upd H' T (.tup [.ref ra, .ref ba])) := Ex.new nT
      have hlm := List.mem_of_getElem? hl
      have hts := hk.lt l hlm
      refine ⟨T, _, rfl, .inl (.inl upd_same), rfl, _, _, rfl, _, _, rfl, rfl, ?_⟩
      -- len(row) != len(link[3])
      refine ⟨_, rfl, ra, rs, rfl, .inr (.inl (ex_rd e1 hra)), _, rfl, ba, _, _, _, rfl, rfl, .inl (ex_rd e1 hba), (by rfl : atI _ (3 : Int) = some (.ref ta)), ta, ts, rfl, .inr (.inl (ex_rd e1 hta)), rfl, _, rfl, ?_⟩
      rw [hrl, htl]
      refine iteNS rfl ?_
      -- all([..])
      have src : EvA (tCons (tVar 2) (tCons (tOp (rIxT K) (tVar 3) (tC (.int 3))) tNil)) [some (.ref la), some (.ref na), some (.ref ra), some (.ref ba), x4, x5] (upd H' T (.tup [.ref ra, .ref ba])) [.ref ra, .ref ta] :=
        ea_cons (ev_var (by rfl)) (ea_cons (ev_op (ev_var (by rfl)) ev_c (rv_ixT (.inl (ex_rd e1 hba)) (v := .ref ta) (by rfl))) ea_nil)
      refine r_cb (ep_lc l.times (fun _ => some (.bool true)) (ei_zipT src (.inl (ex_rd e1 hra)) (.inl (ex_rd e1 hta)) hrl htl) rfl (by have := hk.w1; have := hts.1; omega) (fun _ _ d h => by cases h; rfl) (fun j x q H3 e3 hq hx => ?_)) fun v H3 e3 ⟨p3, ys3, ev3, np3, hp3, hd3⟩ => ?_
      · obtain ⟨T2, x1, x2, rfl, hT2, g1, g2⟩ := hx
        have hrq : (rowOf sd l)[j]? = some (pickN sd q) := by simp [rowOf, hq]
        have d1 := dt_oi ((hrd.map_at g1 hrq).mono (e1.trans e3))
        have d2 := (htd.map_at g2 hq).mono (e1.trans e3)
        subst d1
        intro H4 e4 Qk Qn hk4 hn4
        refine ⟨T2, _, rfl, .inl (.inl (e4 _ _ hT2)), rfl, _, _, rfl, _, _, rfl, rfl, lcY rfl ?_⟩
        refine r_bind (ep_call (R := R_is_number) (ea_cons (ev_var (by rfl)) (ea_cons (ev_var (by rfl)) ea_nil)) fun H5 e5 => ⟨x2, pickN sd q, q, rfl, d2.mono (e4.trans e5), ?_, rfl⟩) fun v H5 e5 ev => ?_
        · cases q with
          | none => exact .inl ⟨rfl, rfl⟩
          | some ab =>
            obtain ⟨h1, h2, h3⟩ := hts.2 ab (List.mem_of_getElem? hq)
            refine .inr ⟨if sd then ab.2 else ab.1, ab.1, ab.2, rfl, rfl, ?_, ?_⟩ <;> split <;> omega
        · subst ev
          exact hk4 _ rfl _ H5 e5 (.bl true)
      · subst ev3
        rw [List.filterMap_eq_map'] at hd3
        have e5 : l.times.map (fun _ => PyData.bool true) = (l.times.map fun _ => true).map .bool := by simp
        rw [show l.times.map (fun _ : Option (Int × Int) => PyData.bool true) = (l.times.map fun _ => true).map .bool from e5] at hd3
        have hs := hd3.bools
        subst hs
        refine ⟨p3, _, rfl, SqL.of hp3, _, rfl, ?_⟩
        rw [all_true]
        exact iteF (A := False) ⟨⟨_, _, _, _, rfl⟩, eH.trans (e1.trans e3)⟩
    · exact gn (q _ H' h.2 rfl)
def R_least_minutes : List V → Hp → Post → Prop := fun vs H Po => ∃ v R, vs = [v] ∧ Dt H v (rwsD R) ∧ R.length < 1000 ∧ Po = NewD (lmin R) H
theorem sc_least_minutes : FnScope ["rows", "found", "place", "minute"] ["rows"] (defScope s_least_minutes) := ⟨rfl, rfl, rfl, by decide +kernel, rfl, by decide +kernel, by decide +kernel⟩
theorem ok_least_minutes (S : Says K mg) : Fn P w K mg base 1 "least_minutes" ["rows"] (spR R_least_minutes) := by
  obtain ⟨fd, F⟩ := S.def_least_minutes
  refine ⟨⟨_, fd, S.g_least_minutes, F.kp, F.bindsN (fun _ _ _ _ _ _ us hl => match us, hl with | [_], _ => rfl), F.ok sc_least_minutes (fun vs H Q E h => ?_) (fun cdv A outer s H vs Q E hr h => ?_)⟩⟩
  · obtain ⟨_, ⟨_, _, rfl, _⟩, _⟩ := h
    rfl
  · obtain ⟨_, ⟨v, R, rfl, hR, hz, rfl⟩, q⟩ := h
    obtain ⟨a, xs, rfl, ha, hd⟩ := hR.lst_at
    have hl := hd.map_len
    have hu := hu_of hr
    refine ⟨_, PSs.nox ((pss_cons (ps_set (i := 1) sc_least_minutes.nd rfl (by first | exact Or.inl rfl | exact Or.inr rfl) pe_dnewK)
    (pss_cons (ps_for PassesOwn.never rfl (pi_list (pv 0)) (pg_tup rfl (pgs_cons (pg_name (i := 2) sc_least_minutes.nd rfl (by first | exact Or.inl rfl | exact Or.inr rfl)) (pgs_cons (pg_name (i := 3) sc_least_minutes.nd rfl (by first | exact Or.inl rfl | exact Or.inr rfl)) pgs_nil)))
      (pss_one (ps_dput hu (pv 1) (pv 2) (pe_callB (call_min2 rfl) (by rfl) S.f_min (by decide +kernel) (pa_cons (pv 3) (pa_cons (pe_dget2 hu (pv 1) (pv 2) (pv 3) ⟨rfl, rfl, rfl, rfl⟩) pa_nil))) rfl)))
    (pss_one (ps_ret (pv 1)))))), ?_⟩
    refine fun p np => ?_
    have hpa : a ≠ p := ne_of_none ha np
    refine ⟨_, rfl, a, rfl, ⟨xs, SqL.of (by rw [upd_ne hpa]; exact ha)⟩, for_list (xs := xs) (fun i σ' H' => (∃ x2 x3, σ' = [some (.ref a), some (.ref p), x2, x3]) ∧ Ex H H' ∧ H' p = some (.dK (mapD ((R.take i).foldl lstep [])))) ⟨⟨_, _, rfl⟩, Ex.new np, upd_same⟩ (fun i σ' H' _ h => SqL.of (h.2.1 _ _ ha)) (fun i x σ' H' hx h => ?_) (fun σ' H' h => ?_)⟩
    · obtain ⟨⟨x2, x3, rfl⟩, eH, hp⟩ := h
      have hi : i < R.length := by have := (List.getElem?_eq_some_iff.mp hx).1; omega
      obtain ⟨r, hr1⟩ : ∃ r, R[i]? = some r := ⟨_, List.getElem?_eq_getElem hi⟩
      obtain ⟨b, rfl, hb⟩ := dt_rw ((hd.map_at hx hr1).mono eH)
      refine ⟨b, _, rfl, .inl hb, rfl, _, _, rfl, _, _, rfl, rfl, ?_⟩
      have hg := DGet.k (k := Sum.inr r.1) hp
      rw [valV_mapD] at hg
      refine ⟨_, rfl, _, rfl, p, rfl, .inl ⟨_, Rd.of hp⟩, _, rfl, _, rfl, _, hg, ?_⟩
      have e1 : ((look ((R.take i).foldl lstep []) r.1).map V.int).getD (V.int r.2) = V.int ((look ((R.take i).foldl lstep []) r.1).getD r.2) := by
        cases look ((R.take i).foldl lstep []) r.1 <;> rfl
      rw [e1]
      have hlen := lfold_len (R.take i) []
      have htk : (R.take i).length ≤ R.length := List.length_take_le' _ _
      refine ⟨_, _, rfl, _, rfl, _, rfl, p, _, rfl, DPut.k (k := Sum.inr r.1) hp (by rw [mapD_len]; simp at hlen; exact sz_lt (by omega)), ?_⟩
      refine ⟨⟨_, _, rfl⟩, Ex.mut eH np, ?_⟩
      rw [upd_same, putK_mapD, List.take_succ, hr1, List.foldl_append]
      rfl
    · obtain ⟨⟨x2, x3, rfl⟩, eH, hp⟩ := h
      rw [hl, List.take_length] at hp
      exact gn ⟨_, rfl, q _ H' eH ⟨p, rfl, np, hp⟩⟩
def R_told (K : PySem.W.Frag) : List V → Hp → Post → Prop := fun vs H Po => ∃ vl L a l, vs = [vl, .ref a] ∧ LandV K H vl L ∧ L.places.length < 1000 ∧ H a = some (.dK (mapD l)) ∧ Po = fun v H' => Dt H' v (toldD (L.places.map fun p => (p, look l p)))
theorem sc_told : FnScope ["land", "found", "place"] ["land", "found"] (defScope s_told) := ⟨rfl, rfl, rfl, by decide +kernel, rfl, by decide +kernel, by decide +kernel⟩
theorem ok_told (S : Says K mg) : Fn P w K mg base 1 "told" ["land", "found"] (spR (R_told K)) := by
  obtain ⟨fd, F⟩ := S.def_told
  refine ⟨⟨_, fd, S.g_told, F.kp, F.bindsN (fun _ _ _ _ _ _ us hl => match us, hl with | [_, _], _ => rfl), F.ok sc_told (fun vs H Q E h => ?_) (fun cdv A outer s H vs Q E hr h => ?_)⟩⟩
  · obtain ⟨_, ⟨_, _, _, _, rfl, _⟩, _⟩ := h
    rfl
  · obtain ⟨_, ⟨vl, L, a, l, rfl, hL, hz, ha, rfl⟩, q⟩ := h
    obtain ⟨la, dx, wa, vp, vk, vt, rfl, hla, hwi, hp, _, _⟩ := hL.ex
    obtain ⟨pa, ps, rfl, hpa, hpd⟩ := hp.tup_at
    have hl := hpd.map_len
    have hps := hpd.strs
    have hu := hu_of hr
    refine ⟨_, PSs.nox ((pss_one (ps_ret (pe_lc (own := [("place", 2)]) (g := (gName 2)) (tt := tYes) (te := (tTup (tCons (tVar 2) (tCons (tDGet1 (tVar 1) (tVar 2)) tNil)))) rfl sc_told.nd (pi_tup (pe_fld (pv 0) rfl)) (blkOk_by (N := ["land", "found", "place"]) (sc := defScope s_told) (by decide +kernel)) (fun _ _ _ _ _ => (pg_name (i := 2) sc_told.nd rfl (by first | exact Or.inl rfl | exact Or.inr rfl))) (fun _ _ _ _ _ => pts_nil) (fun _ _ _ _ _ => (pe_tup (pa_cons (pv 2) (pa_cons (pe_dget1 hu (pv 1) (pv 2) ⟨rfl, rfl, rfl, rfl⟩) pa_nil)))))))), ?_⟩
    refine r_ret (r_bind (ep_lc L.places (fun p => some (.tuple [.str p, oiD (look l p)])) (ei_tup ((ep_ev (ev_fld (ev_var (by rfl)) hla S.cl S.na_places (fl_places _ _ _ _))).imp fun v H1 e ev => ⟨pa, ev, .inl (ex_rd e hpa)⟩)) hl (by omega) (fun r _ d h => by cases h; simp [noL, noLs, noL_oi]) (fun i x p H1 e1 hp1 hx => ?_)) fun v H1 e1 ⟨p1, ys, ev, np1, hp1, hd⟩ => ?_)
    · have hx2 : x = .str p := by
        rw [hps, List.getElem?_map, hp1] at hx
        exact (Option.some.inj hx).symm
      subst hx2
      intro H2 e2 Qk Qn hk hn
      refine lcY rfl ?_
      have hg := DGet.k (k := Sum.inr p) (e2 _ _ (e1 _ _ ha))
      rw [valV_mapD] at hg
      refine ⟨_, rfl, _, rfl, a, rfl, .inl ⟨_, Rd.of (e2 _ _ (e1 _ _ ha))⟩, _, rfl, _, hg, by show 2 ≤ sizeLine; decide, fun t nt => ?_⟩
      refine hk _ rfl _ _ (Ex.new nt) (.tup (Rd.of upd_same) (.cons (.str p) (.cons ?_ .nil)))
      cases look l p with
      | none => exact .non
      | some j => exact .int j
    · subst ev
      refine q _ H1 e1 (.lst hp1 ?_)
      rw [List.filterMap_eq_map'] at hd
      rw [List.map_map]
      exact hd
end
end EF
set_option maxHeartbeats 4000000
namespace EF
open PySem PySem.Spec PySem.W PySem.Calls PyProof.Rows
/-! ### what stands behind the top of the class UnknownName and its __init__ -/
structure UnkOk (p : Program) (K : Frag) (C : Addr) : Prop where
  oex : L2.OexC K C
  nm : findIn K (.ref C) "name" = some none
  init : ∃ fI cda cc oc od osl doc pm an ct ccl cdd ccs vs file tf cl cld csl, findIn K (.ref C) "__init__" = some (some (.ref fI)) ∧ isFn K (.ref fI) = true ∧
    K.lookup fI = some ⟨oc, od, .func (ksFn "__init__" "UnknownName.__init__" (L2.defArgs sU_init) (L2.defBody sU_init) (L2.defScope sU_init) .none .none doc pm an (.ref cda) ct cc), osl⟩ ∧ codeIn K (.ref cda) "UnknownName.__init__" = true ∧
    K.lookup cda = some ⟨ccl, cdd, .fields vs, ccs⟩ ∧ vs[2]? = some (.str file tf) ∧ ((p.main.file : Str) == file) = true ∧ K.lookup cc = some ⟨cl, cld, .cell (some (.ref C)), csl⟩
  top_ : (p.main.scope.names.lookup ("super" : Str)).isSome = false
  self_ : mroIn K C (.ref C) = some true
  sup : ks_superIn K C C "__init__" = some (some (.builtin "ValueError.__init__"))
  ve : subIn K (.ref C) (.type "ValueError") = some true
  tp : nsIn K cStatics "thirdparty.any" = some none
/-- the bound ValueError.__init__, called -/
theorem call_mw {prog : Program} {w : World} {A : Around} {E : Value → Shared → Prop} {h : Heap} {g : Array GenState} {d : Drawn} {t : Nat} {os : OsState} {nm q : Str} {C N : Addr} {bs bm : List Value} {hdct : Bool} {sn : List Str} {sub : List Value} {ab : Bool} {col : Option Bool} {dd : Option Addr} {k0 k1 k2 k3 k5 : Option Value}
    {u e t0 : Addr} {rest : List Value} {Q : Value → Shared → Prop}
    (hC : h.get? C = some (excClassObj nm q C N bs bm hdct sn sub ab col dd k0 k1 k2 k3 k5 "ValueError.__new__")) (he : h.get? e = some (HandSPX.excO C t0)) (hu : h.get? u = some (kxs_mw "ValueError.__init__" e)) (hrest : rest.length ≤ sizeLine)
    (hq : ∀ h' t1, (∀ b o, b ≠ e → h.get? b = some o → h'.get? b = some o) → h'.get? e = some (HandSPX.excO C t1) → Q .none ⟨h', g, d, t, os⟩) :
    wpAny (model prog w) A (call (.ref u) rest) Q E ⟨h, g, d, t, os⟩ := by
  refine wpAny_call (codeAny_of_tree ?_)
  show wpAny _ A.in1 (callAny (.ref u) ⟨rest, []⟩) _ _ _
  simp only [callAny]
  refine wpAny_bind (wpAny_load hu ?_)
  simp only [kxs_mw, show (Value.type "method-wrapper" == Value.type "method" || Value.type "method-wrapper" == Value.type "builtin_function_or_method" || Value.type "method-wrapper" == Value.type "method-wrapper") = true by decide, if_true]
  refine KFB.if_so (by decide) ?_
  refine wpAny_bind (check_bound_init F.excBase_ValueError.toExcCallFacts hC he rfl ?_)
  refine wpAny_bind (wpAny_pure (wpAny_pure ?_))
  refine ⟨plainId_quiet F.excBase_ValueError.init.plain _, codeAny_builtin F.excBase_ValueError.initEntry ?_⟩
  exact exc_init_tree (cls := .ref C) (t0 := t0) (dv := none) (c2 := .none) (c3 := .none) (b4 := .bool false) he hrest fun h' k e' t' => hq h' h.objs.size k e'
theorem bindsU {s : Shared} {doc pm ct : Value} {an : Option Addr} {cda cc : Addr} (a b : Value) : BindsTo s (ksFn "__init__" "UnknownName.__init__" (L2.defArgs sU_init) (L2.defBody sU_init) (L2.defScope sU_init) .none .none doc pm an (.ref cda) ct cc) ⟨[a, b], []⟩ [("self", a), ("name", b)] :=
  .of_eq rfl

theorem cellU : ∀ x ∈ (L2.defScope sU_init).names, x.2 ≠ .cell := by decide +kernel
theorem locU1 : (L2.defScope sU_init).names.lookup ("self" : Str) = some .local := by decide +kernel
theorem locU2 : (L2.defScope sU_init).names.lookup ("name" : Str) = some .local := by decide +kernel
theorem globU : (L2.defScope sU_init).names.lookup ("super" : Str) = some .globalImplicit := by decide +kernel
theorem freeU : (L2.defScope sU_init).names.lookup ("__class__" : Str) = some .free := by decide +kernel
theorem ns1_ne {h : Heap} {dx : Addr} {m : Str → Option Value} {a : Addr} {o : Obj} (hn : h.Ns1 dx m) (ho : h.get? a = some o) (hf : ∃ vs, o.data = .fields vs) : a ≠ dx := by
  rintro rfl
  obtain ⟨oD, es, ep, h1, h2, _⟩ := hn
  rw [ho] at h1
  cases h1
  obtain ⟨vs, hf⟩ := hf
  rw [hf] at h2
  cases h2
theorem unk_raw {prog : Program} {w : World} {A : Around} {E : Value → Shared → Prop} {K : Frag} {mg : Str → Option Value} {base hp : Heap} {C : Addr} {g : Array GenState} {d : Drawn} {t : Nat} {os : OsState} (M : L2.Mod K mg base) (U : UnkOk prog K C) (hm : mg "super" = none)
    (hb : ∀ b o, base.get? b = some o → hp.get? b = some o) (r : L2.Room 1 A) {u : Value} {Q : Value → Shared → Prop}
    (hq : ∀ (h' : Heap) (e dx t1 : Addr) (tk' : Nat), (∀ b o, hp.get? b = some o → h'.get? b = some o) → hp.objs.size ≤ e → hp.objs.size ≤ dx → e ≠ dx → h'.get? e = some ({ cls := .ref C, dict := some dx, data := .fields #[.ref t1, .none, .none, .none, .bool false, .none] } : Obj) →
      h'.Ns1 dx (fun y => if y = "name" then some u else none) → Q (.ref e) ⟨h', g, d, tk', os⟩) :
    wpAny (model prog w) A (call (.ref C) [u]) Q E ⟨hp, g, d, t, os⟩ := by
  obtain ⟨nm, q, N, bs, bm, sn, sub, ab, col, dd, k0, k1, k2, k3, k5, hC, hbm⟩ := U.oex.cls
  obtain ⟨fI, cda, cc, oc, od, osl, doc, pm, an, ct, ccl, cdd, ccs, vs, file, tf, cl, cld, csl, hfi, hfn, hfo, hcd, hcda, hvs, hfile, hcell⟩ := U.init
  have hcl : clsIn K C = some { name := nm, bases := bs, mro := .ref C :: bm, ns := N, qualname := q, hasDict := true, slotNames := sn, subclasses := sub, abstract := ab, collection := col, hasDel := false } := by unfold clsIn; rw [hC] <;> rfl
  have X : K.In hp := M.kin.keeps hb
  have htf : typeIn K (.ref fI) = some (.type "function") := beq_iff_eq.mp hfn
  have ht := fun Y => HandSPX.refsVE_contains Y bm hbm
  refine wpAny_call (HandSPX.call_own F.excBase_ValueError ht (X _ _ hC) (looks_findIn X hfi) (fun self => bind_fn X self htf) (by show 1 ≤ sizeLine; rw [sizeLine_eq]; omega) ?_)
  have kk : ∀ b o, hp.get? b = some o → ((hp.push (kdv_tup [u])).push (HandSPX.excO C hp.objs.size)).get? b = some o := fun b o e => Heap.get?_push_of_some _ (Heap.get?_push_of_some _ e)
  have hget : ((hp.push (kdv_tup [u])).push (HandSPX.excO C hp.objs.size)).get? (hp.objs.size + 1) = some (HandSPX.excO C hp.objs.size) := by heap_get
  have hsz1 : ((hp.push (kdv_tup [u])).push (HandSPX.excO C hp.objs.size)).objs.size = hp.objs.size + 2 := by rw [Heap.size_push, Heap.size_push]
  have X1 : K.In ((hp.push (kdv_tup [u])).push (HandSPX.excO C hp.objs.size)) := X.keeps kk
  have hlt : (A.under (.builtin "type.__call__" ⟨.ref C :: [u], []⟩)).depth < recursionLimit := (r.make (k := 0) C [u] []).depth
  refine ks_codeAny_call_defAt (fd := ksFn "__init__" "UnknownName.__init__" (L2.defArgs sU_init) (L2.defBody sU_init) (L2.defScope sU_init) .none .none doc pm an (.ref cda) ct cc) (body := L2.defBody sU_init) (binds := [("self", .ref (hp.objs.size + 1)), ("name", u)]) hlt (X1 _ _ hfo) rfl
    ((M.nolimit.keeps hb).keeps kk) (codeRec_of X1 hcd) rfl (bindsU _ _) cellU (fun y hy => ?_) (fun h2 hns k2 => ?_)
  · rcases List.mem_cons.mp hy with rfl | hy
    · exact locU1
    · rcases List.mem_cons.mp hy with rfl | hy
      · exact locU2
      · cases hy
  have hep : hp.objs.size ≤ hp.objs.size + 1 := Nat.le_succ _
  have hkz : hp.objs.size ≤ ((hp.push (kdv_tup [u])).push (HandSPX.excO C hp.objs.size)).objs.size := by rw [hsz1]; omega
  generalize ((hp.push (kdv_tup [u])).push (HandSPX.excO C hp.objs.size)) = h1 at *
  generalize hp.objs.size + 1 = e at *
  refine ks_wpAt_execs_cons (ks_wpAt_Expr_any (ks_wpAt_MethodCall (ks_wpAt_super_base globU freeU (by decide +kernel) rfl (k2 _ _ (X1 _ _ hfo)) rfl rfl rfl (k2 _ _ (X1 _ _ hcda)) rfl hvs hfile U.top_ ?_)))
  have hbk : ∀ b o, base.get? b = some o → h2.get? b = some o := fun b o z => k2 _ _ (kk _ _ (hb _ _ z))
  have X2 : K.In h2 := M.kin.keeps hbk
  obtain ⟨mb, hmb1, hmb2⟩ := M.blt
  refine ks_loadName_global rfl globU (loadGlobal_builtin (M.glob.keeps hbk) hm (hmb1.keeps hbk) ((hmb2 "super" (by decide +kernel)).trans PyProof.Rows.Boot.super) ⟨rfl, ?_⟩)
  refine wpAny_loadName_free rfl freeU rfl ⟨_, X2 _ _ hcell, rfl⟩ ?_
  refine wpAny_loadName_local rfl locU1 hns rfl ?_
  refine ks_wpAny_isType_cls (X2 _ _ hC) rfl ⟨rfl, ?_⟩
  refine ks_wpAny_call_super (X2 _ _ hC) rfl (k2 _ _ hget) rfl (fun c z => by cases z) (looks_mroIn X2 U.self_) (fun h3 hso k3 => ?_)
  have X3 : K.In h3 := X2.keeps k3
  have he3 := k3 _ _ (k2 _ _ hget)
  have I3 : InstAt h3 e (HandSPX.excO C hp.objs.size) C none := ⟨he3, rfl, rfl, trivial⟩
  have hsup := U.sup
  unfold ks_superIn at hsup
  rw [hcl] at hsup
  refine kxs_getMethod kxs_ValueError hso (looks_opaque X3 U.tp) (l₀ := .ref C :: bm) (fun A Q E s k q => wpAny_bind ((looks_clsIn X3 hcl) A _ E s k (wpAny_pure q))) rfl X3 hsup (I3.type.andThen (looks_subIn X3 U.ve)) (ks_ne X3 I3 hcl) (by decide +kernel) ?_
  refine kxs_callWith (i := "ValueError.__init__") (x := e) rfl ?_
  refine evalArgs_plain ?_
  refine spliced_cons ?_
  refine wpAny_Constant_str (k := 0) (pos := ⟨0, 0, 0, 0⟩) ?_
  refine spliced_nil ⟨Heap.get?_push_size _ rfl, ?_⟩
  have k4 : ∀ b o, h3.get? b = some o → (h3.push (kxs_mw "ValueError.__init__" e)).get? b = some o := fun b o z => Heap.get?_push_of_some _ z
  refine call_mw (k4 _ _ (X3 _ _ hC)) (k4 _ _ he3) (Heap.get?_push_size _ rfl) (by show 1 ≤ sizeLine; rw [sizeLine_eq]; omega) (fun h5 t1 k5 he5 => ?_)
  have k25 : ∀ b o, b ≠ e → h2.get? b = some o → h5.get? b = some o := fun b o hne z => k5 _ _ hne (k4 _ _ (k3 _ _ z))
  have hes : e < h1.objs.size := Heap.lt_size hget
  have hLe : h1.objs.size ≠ e := Nat.ne_of_gt hes
  have hbe : ∀ {b o}, hp.get? b = some o → b ≠ e := fun {b o} z => by
    rintro rfl
    exact absurd (Heap.lt_size z) (Nat.not_lt.mpr hep)
  have hk5 : ∀ b o, hp.get? b = some o → h5.get? b = some o := fun b o z => k25 _ _ (hbe z) (k2 _ _ (kk _ _ z))
  have X5 : K.In h5 := M.kin.keeps fun b o z => hk5 _ _ (hb _ _ z)
  have hns5 : h5.Ns h1.objs.size (fun x => ([(("name" : Str), u), ("self", Value.ref e)] : List (Str × Value)).lookup x) := by
    obtain ⟨oL, es, ep, hL, r⟩ := hns
    exact ⟨oL, es, ep, k25 _ _ hLe hL, r⟩
  refine ks_wpAt_execs_cons (ks_wpAt_Assign_Attr ?_ rfl)
  refine wpAt_of_wpAny (wpAny_Name (wpAny_loadName_local rfl locU2 hns5 rfl ?_) (by decide +kernel))
  refine wpAny_Name (wpAny_loadName_local rfl locU1 hns5 rfl ?_) (by decide +kernel)
  refine set_plain X5 (⟨he5, rfl, rfl, trivial⟩ : InstAt h5 e (HandSPX.excO C t1) C none) U.oex.sa ?_
  refine HandSPX.exc_osa X5 he5 hcl (show HandSPX.refsVE (.ref C :: bm) = true from hbm) rfl U.nm (fun h' tk' dx k dn dne hx hn => ?_)
  have hk6 : ∀ b o, hp.get? b = some o → h'.get? b = some o := fun b o z => k _ _ (hbe z) (hk5 _ _ z)
  have z1 : h1.objs.size < h2.objs.size := by
    obtain ⟨oL, es, ep, hL, r⟩ := hns
    exact Heap.lt_size hL
  have z2 : h2.objs.size < h3.objs.size := Heap.lt_size hso
  have he3s : h3.objs.size ≠ e := Nat.ne_of_gt (Heap.lt_size he3)
  have z3 : h3.objs.size < h5.objs.size := Heap.lt_size (k5 _ _ he3s (Heap.get?_push_size _ rfl))
  have z4 : hp.objs.size ≤ dx := Nat.le_trans hkz (Nat.le_trans (Nat.le_of_lt (Nat.lt_trans z1 (Nat.lt_trans z2 z3))) dn)
  have fin := hq h' e dx t1 tk' hk6 hep z4 (Ne.symm dne) hx hn
  refine wpAt_of_wpAny (wpAny_pure ?_)
  exact ⟨rfl, fin⟩
end EF
namespace EF
open PySem PySem.Spec PyProof.Rows L2
/-- X(e): an exception of the class at C with the text's name -/
def tMkU (C : Addr) (ta : TA) : L2.St → Hp → XK → Prop := fun σ H Q => ta σ H fun vs H1 => ∃ z, vs = [.str z] ∧ ∀ d, H1 d = none → Q (.ref C) (some d) (upd H1 d (.xd [("name", .str z)]))
theorem pmk_unk {X : Cx} {x : Str} {C : Addr} {e : Expr} {ta : TA} {p pos : Pos} (U : UnkOk X.prog X.K C) (hs : X.mg "super" = none) (hr : Room 1 X.A) (hg : Gl X x) (hm : X.mg x = some (.ref C)) (ha : PA X [e] ta)
    (hdb : (x == ("__debug__" : Str)) = false := by decide) (hst : starEach [e] X.env = (false, eval e X.env) :: starEach [] X.env := by rfl) (hpl : (backTo pos (starEach [] X.env)).any (·.1) = false := by rfl) :
    PMk X (.Call (.Name x p) [e] [] pos) (tMkU C ta) := by
  intro pins s σ H Q I h
  refine wpAny_Call_Name_kw (ld_glob I hg hm ?_ hdb)
  refine PySem.W.callWith_K (h₀ := X.base) I.ok.mod.kin U.oex.kC (thn (ha.run pos pins s σ H _ I h) fun us s1 ⟨vs, H1, I1, r1, z, ev, q⟩ => ⟨I1.kIn, ?_⟩) hst hpl
  subst ev
  obtain ⟨u, rfl, ru⟩ := Vals.one r1
  show wpAny _ _ (call (.ref C) [u]) _ _ _
  obtain ⟨hp, g, dr, tk, os⟩ := s1
  refine unk_raw I1.ok.mod U hs I1.bk hr fun h' a dx t1 tk' k za zd ne ha hn => ?_
  have na : H1 a = none := I1.hok.fresh za
  have nd : H1 dx = none := I1.hok.fresh zd
  obtain ⟨G, g1, g2⟩ := restrict h' fun b => decide (b ≠ a)
  have gk : ∀ b, b ≠ a → G.get? b = h'.get? b := fun b hb => g1 b (decide_eq_true hb)
  have ge : G.get? a = none := g2 a (by simp)
  have nha : ∀ {b : Addr} {o : Obj}, hp.get? b = some o → b ≠ a := fun {b o} z => Nat.ne_of_lt (Nat.lt_of_lt_of_le (Heap.lt_size z) za)
  have kG : ∀ b o, hp.get? b = some o → G.get? b = some o := fun b o z => (gk b (nha z)).trans (k b o z)
  have hnG : G.Ns1 dx (fun y => if y = "name" then some u else none) := hn.at fun o y => (gk dx (Ne.symm ne)).trans y
  have J : Inv X pins σ (upd H1 dx (.xd [("name", .str z)])) ⟨G, g, dr, tk', os⟩ := I1.laid (t' := tk') (h' := G) kG zd ⟨_, hnG, fun f => ?_⟩
  · refine ⟨a, _, _, ⟨G, g, dr, tk', os⟩, _, .ref C, some dx, rfl, J, fun b o y => ?_, ge, ha, ⟨rfl, rfl⟩, rfl, rfl, ?_, rfl, I1.bare, raises_own U.oex.exC U.oex.tyC, q dx nd⟩
    · have hb : b ≠ a := by
        rintro rfl
        have y' : G.get? b = some o := y
        rw [ge] at y'
        cases y'
      exact (gk b hb).symm.trans y
    · rw [upd_ne ne]
      exact na
  · by_cases hf : f = "name"
    · subst hf
      rw [if_pos rfl]
      exact ru
    · rw [if_neg hf]
      have : ((f : Str) == ("name" : Str)) = false := by simpa using hf
      simp only [List.lookup, this]
      exact True.intro
end EF
set_option maxHeartbeats 4000000
namespace EF
open PySem PySem.Spec PyProof.Rows L2 Evl
/-! ### defs that may raise: how they end -/
inductive Out
  | ok (P : Post)
  | unk (z : Str)
  | wea
def Fin (K : PySem.W.Frag) : Out → Hp → VK → XK → Prop
  | .ok P, H, Q, _ => ∀ v H', Ex H H' → P v H' → Q v H'
  | .unk z, H, _, E => ∀ d H', Ex H H' → H' d = some (.xd [("name", .str z)]) → E (.ref (cUnk K)) (some d) H'
  | .wea, H, _, E => ∀ H', Ex H H' → E (.ref (cWea K)) none H'
def spO (K : PySem.W.Frag) (R : List V → Hp → Out → Prop) : Sp := fun vs H Q E => ∃ o, R vs H o ∧ Fin K o H Q E
theorem Fin.mono {K : PySem.W.Frag} {o : Out} {H H' : Hp} {Q : VK} {E : XK} (e : Ex H H') (h : Fin K o H Q E) : Fin K o H' Q E := by
  cases o with
  | ok P => exact fun v H2 e2 p => h v H2 (e.trans e2) p
  | unk z => exact fun d H2 e2 p => h d H2 (e.trans e2) p
  | wea => exact fun H2 e2 => h H2 (e.trans e2)
theorem c_callS {K : PySem.W.Frag} {R : List V → Hp → Out → Prop} {o : Out} {E : L2.St → XK} {ta : TA} {vs : List V} {σ : L2.St} {H : Hp} {Q : VK} (h : EvA ta σ H vs) (hr : ∀ H1, Ex H H1 → R vs H1 o) (k : Fin K o H Q (E σ)) : tCallS (spO K R) E ta σ H Q :=
  h H (Ex.refl H) _ fun H1 e1 => ⟨o, hr H1 e1, k.mono e1⟩
theorem c_mtS {K : PySem.W.Frag} {R : List V → Hp → Out → Prop} {o : Out} {C a dx : Addr} {m : Str} {fs : List (Str × V)} {E : L2.St → XK} {to : TE} {ta : TA} {vs : List V} {σ : L2.St} {H : Hp} {Q : VK} (ho : Ev to σ H (.ref a)) (hi : H a = some (.ins C dx fs)) (hl : fs.lookup m = none)
    (h : EvA ta σ H vs) (hr : ∀ H1, Ex H H1 → R (.ref a :: vs) H1 o) (k : Fin K o H Q (E σ)) : tMtS C m (spO K R) E to ta σ H Q :=
  ho H (Ex.refl H) _ fun H1 e1 => ⟨a, dx, fs, rfl, e1 _ _ hi, hl, h H1 e1 _ fun H2 e2 => ⟨o, hr H2 (e1.trans e2), k.mono (e1.trans e2)⟩⟩
/-- what is raised: told of an xd that was just laid -/
theorem fin_unk {K : PySem.W.Frag} {z : Str} {H H1 : Hp} {Q : VK} {E : XK} {d : Addr} (k : Fin K (.unk z) H Q E) (e : Ex H H1) (nd : H1 d = none) : E (.ref (cUnk K)) (some d) (upd H1 d (.xd [("name", .str z)])) :=
  k d _ (e.trans (Ex.new nd)) upd_same
/-! ### what a question refuses -/
def badWind (winds : List Str) (W : Wea) : Option Str := (W.find? fun r => decide (r.2 ∉ winds)).map (·.2)
def badRow (places : List Str) (R : Rws) : Option Str := (R.find? fun r => decide (r.1 ∉ places)).map (·.1)
def unkO : Option Str → Out → Out
  | some z, _ => .unk z
  | none, o => o
def oNon : Out := .ok fun v _ => v = .non
def weaGood (W : Wea) : Bool := decide ((W.map (·.1)).head? = some 0) && !((W.map (·.1)).zip (W.map (·.1)).tail).any fun q => decide (q.2 ≤ q.1)
theorem flat_strs : ∀ l : List Str, (l.map V.str).all flatV = true
  | [] => rfl
  | a :: l => by simp [flatV, flat_strs l]
theorem inV_strs (z : Str) : ∀ l : List Str, inV (.str z) (l.map V.str) = decide (z ∈ l)
  | [] => rfl
  | a :: l => by
    have ih := inV_strs z l
    unfold inV at ih ⊢
    rw [List.map_cons, List.any_cons, ih]
    by_cases e : a = z
    · subst e
      simp [eqV]
    · have e2 : ¬ z = a := fun q => e q.symm
      simp [eqV, e, e2]
/-- a loop that refuses the first item that is not as it should be -/
theorem find_at {α : Type} {p : α → Bool} {L : List α} {i : Nat} {a : α} (hi : L[i]? = some a) (hp : p a = true) (hb : ∀ j b, j < i → L[j]? = some b → p b = false) : L.find? p = some a := by
  induction L generalizing i with
  | nil => simp at hi
  | cons x L ih =>
    cases i with
    | zero => simp at hi; subst hi; simp [hp]
    | succ i =>
      have h0 := hb 0 x (by omega) rfl
      rw [List.find?_cons, h0]
      exact ih (i := i) (by simpa using hi) fun j b hj hb2 => hb (j + 1) b (by omega) (by simpa using hb2)
theorem find_no {α : Type} {p : α → Bool} {L : List α} (hb : ∀ (j : Nat) b, L[j]? = some b → p b = false) : L.find? p = none := by
  rw [List.find?_eq_none]
  intro x hx
  obtain ⟨j, hj⟩ := List.getElem?_of_mem hx
  simp [hb j x hj]
section
variable {P : Program} {w : World} {K : PySem.W.Frag} {mg : Str → Option Value} {base : Heap}
def R_check_wind (K : PySem.W.Frag) : List V → Hp → Out → Prop := fun vs H o => ∃ vl L z, vs = [vl, .str z] ∧ LandV K H vl L ∧ o = if z ∈ L.winds then oNon else .unk z
theorem scL_check_wind : FnScope ["self", "wind"] ["self", "wind"] (defScope sL_check_wind) := ⟨rfl, rfl, rfl, by decide +kernel, rfl, by decide +kernel, by decide +kernel⟩
theorem ok_check_wind (S : Says K mg) (U : UnkOk P K (cUnk K)) : Mt P w K mg base (cLand K) 2 "check_wind" ["self", "wind"] (spO K (R_check_wind K)) := by
  obtain ⟨fd, F⟩ := S.defL_check_wind
  refine ⟨S.cl, ⟨_, fd, S.m_check_wind, F.bindsN (fun _ _ _ _ _ _ us hl => match us, hl with | [_, _], _ => rfl), F.ok scL_check_wind (fun vs H Q E h => ?_) (fun cdv A outer s H vs Q E hr h => ?_)⟩⟩
  · obtain ⟨_, ⟨_, _, _, rfl, _⟩, _⟩ := h
    rfl
  · obtain ⟨o, ⟨vl, L, z, rfl, hL, rfl⟩, q⟩ := h
    obtain ⟨la, dx, wa, vp, vk, vt, rfl, hla, hwi, _, _, _⟩ := hL.ex
    refine ⟨_, ((pss_one (ps_if (pt_cmpR op_notIn_seq (pv 1) (pe_fld (pv 0) rfl) (by with_unfolding_all rfl)) (pss_one (ps_raise rfl (takes_of rfl rfl rfl rfl) (pmk_unk U S.f_super (hr.mono (by decide)) rfl S.g_UnknownName (pa_cons (pv 1) pa_nil)))) pss_nil))), ?_⟩
    refine r_if (et_test (ev_op (ev_var (by rfl)) (ev_fld (ev_var (by rfl)) hla S.cl S.na_winds (fl_winds _ _ _ _)) (rv_niT hwi.sq (by rfl) (flat_strs _)))) (fun c H1 e1 => ?_) (fun c H1 e1 => ?_)
    · rw [inV_strs] at c
      have hz : z ∉ L.winds := by simpa using c
      rw [if_neg hz] at q
      exact ⟨_, rfl, z, rfl, fun d nd => fin_unk q e1 nd⟩
    · rw [inV_strs] at c
      have hz : z ∈ L.winds := by simpa using c
      rw [if_pos hz] at q
      exact q _ H1 e1 rfl
def R_check_place (K : PySem.W.Frag) : List V → Hp → Out → Prop := fun vs H o => ∃ vl L z, vs = [vl, .str z] ∧ LandV K H vl L ∧ o = if z ∈ L.places then oNon else .unk z
theorem scL_check_place : FnScope ["self", "place"] ["self", "place"] (defScope sL_check_place) := ⟨rfl, rfl, rfl, by decide +kernel, rfl, by decide +kernel, by decide +kernel⟩
theorem ok_check_place (S : Says K mg) (U : UnkOk P K (cUnk K)) : Mt P w K mg base (cLand K) 2 "check_place" ["self", "place"] (spO K (R_check_place K)) := by
  obtain ⟨fd, F⟩ := S.defL_check_place
  refine ⟨S.cl, ⟨_, fd, S.m_check_place, F.bindsN (fun _ _ _ _ _ _ us hl => match us, hl with | [_, _], _ => rfl), F.ok scL_check_place (fun vs H Q E h => ?_) (fun cdv A outer s H vs Q E hr h => ?_)⟩⟩
  · obtain ⟨_, ⟨_, _, _, rfl, _⟩, _⟩ := h
    rfl
  · obtain ⟨o, ⟨vl, L, z, rfl, hL, rfl⟩, q⟩ := h
    obtain ⟨la, dx, wa, vp, vk, vt, rfl, hla, hwi, hp, _, _⟩ := hL.ex
    obtain ⟨pa, ps, rfl, hpa, hpd⟩ := hp.tup_at
    have hps := hpd.strs
    subst hps
    refine ⟨_, ((pss_one (ps_if (pt_cmpR op_notIn_seq (pv 1) (pe_fld (pv 0) rfl) (by with_unfolding_all rfl)) (pss_one (ps_raise rfl (takes_of rfl rfl rfl rfl) (pmk_unk U S.f_super (hr.mono (by decide)) rfl S.g_UnknownName (pa_cons (pv 1) pa_nil)))) pss_nil))), ?_⟩
    refine r_if (et_test (ev_op (ev_var (by rfl)) (ev_fld (ev_var (by rfl)) hla S.cl S.na_places (fl_places _ _ _ _)) (rv_niT (.inl hpa) (by rfl) (flat_strs _)))) (fun c H1 e1 => ?_) (fun c H1 e1 => ?_)
    · rw [inV_strs] at c
      have hz : z ∉ L.places := by simpa using c
      rw [if_neg hz] at q
      exact ⟨_, rfl, z, rfl, fun d nd => fin_unk q e1 nd⟩
    · rw [inV_strs] at c
      have hz : z ∈ L.places := by simpa using c
      rw [if_pos hz] at q
      exact q _ H1 e1 rfl
def R_check_winds (K : PySem.W.Frag) : List V → Hp → Out → Prop := fun vs H o => ∃ vl L vw W, vs = [vl, vw] ∧ LandV K H vl L ∧ Dt H vw (weaD W) ∧ o = unkO (badWind L.winds W) oNon
theorem sc_check_winds : FnScope ["land", "weather", "_", "wind"] ["land", "weather"] (defScope s_check_winds) := ⟨rfl, rfl, rfl, by decide +kernel, rfl, by decide +kernel, by decide +kernel⟩
theorem ok_check_winds (S : Says K mg) (U : UnkOk P K (cUnk K)) : Fn P w K mg base 3 "check_winds" ["land", "weather"] (spO K (R_check_winds K)) := by
  have M_check_wind := ok_check_wind (P := P) (w := w) (base := base) S U
  obtain ⟨fd, F⟩ := S.def_check_winds
  refine ⟨⟨_, fd, S.g_check_winds, F.kp, F.bindsN (fun _ _ _ _ _ _ us hl => match us, hl with | [_, _], _ => rfl), F.ok sc_check_winds (fun vs H Q E h => ?_) (fun cdv A outer s H vs Q E hr h => ?_)⟩⟩
  · obtain ⟨_, ⟨_, _, _, _, rfl, _⟩, _⟩ := h
    rfl
  · obtain ⟨o, ⟨vl, L, vw, W, rfl, hL, hW, rfl⟩, q⟩ := h
    obtain ⟨la, dx, wa, vp, vk, vt, rfl, hla, hwi, hp, _, _⟩ := hL.ex
    obtain ⟨a, xs, rfl, ha, hd⟩ := hW.lst_at
    have hl := hd.map_len
    refine ⟨_, ((pss_one (ps_for (passes_of rfl) rfl (pi_list (pv 1)) (pg_tup rfl (pgs_cons (pg_name (i := 2) sc_check_winds.nd rfl (by first | exact Or.inl rfl | exact Or.inr rfl)) (pgs_cons (pg_name (i := 3) sc_check_winds.nd rfl (by first | exact Or.inl rfl | exact Or.inr rfl)) pgs_nil)))
      (pss_one (ps_expr (pe_mtS M_check_wind (hr.mono (by decide)) (takes_of rfl rfl rfl rfl) (pv 0) (pa_cons (pv 3) pa_nil))))))), ?_⟩
    refine s_forL (ev_var (by rfl)) (SqL.of ha) (fun i σ' H' => (∃ x2 x3, σ' = [some (.ref la), some (.ref a), x2, x3]) ∧ Ex H H' ∧ ∀ j r, j < i → W[j]? = some r → r.2 ∈ L.winds) (fun H1 e1 => ⟨⟨_, _, rfl⟩, e1, fun j r hj => by omega⟩) (fun i σ' H' _ h => SqL.of (h.2.1 _ _ ha)) (fun i x σ' H' hx h => ?_) (fun σ' H' h => ?_)
    · obtain ⟨⟨x2, x3, rfl⟩, eH, hg⟩ := h
      have hi : i < W.length := by have := (List.getElem?_eq_some_iff.mp hx).1; omega
      obtain ⟨r, hr1⟩ : ∃ r, W[i]? = some r := ⟨_, List.getElem?_eq_getElem hi⟩
      obtain ⟨b, rfl, hb⟩ := dt_pr ((hd.map_at hx hr1).mono eH)
      refine ⟨b, _, rfl, .inl hb, rfl, _, _, rfl, _, _, rfl, rfl, ?_⟩
      refine c_mtS (R := R_check_wind K) (o := if r.2 ∈ L.winds then oNon else .unk r.2) (ev_var (by rfl)) (eH _ _ hla) (by rw [flds_eq]; rfl) (ea_cons (ev_var (by rfl)) ea_nil) (fun H1 e1 => ⟨_, L, r.2, rfl, hL.mono (eH.trans e1), rfl⟩) ?_
      by_cases hz : r.2 ∈ L.winds
      · rw [if_pos hz]
        intro v H1 e1 _
        refine ⟨⟨_, _, rfl⟩, eH.trans e1, fun j r2 hj hr2 => ?_⟩
        by_cases ej : j = i
        · subst ej
          rw [hr1] at hr2
          cases hr2
          exact hz
        · exact hg j r2 (by omega) hr2
      · rw [if_neg hz]
        have hb2 : badWind L.winds W = some r.2 := by
          unfold badWind
          rw [find_at hr1 (by simpa using hz) fun j b hj hb => by simpa using hg j b hj hb]
          rfl
        rw [hb2] at q
        exact q.mono eH
    · obtain ⟨_, eH, hg⟩ := h
      have hb2 : badWind L.winds W = none := by
        unfold badWind
        rw [find_no fun j b hb => by
          have := hg j b (by have := (List.getElem?_eq_some_iff.mp hb).1; omega) hb
          simpa using this]
        rfl
      rw [hb2] at q
      exact q _ H' eH rfl
end
end EF
set_option maxHeartbeats 4000000
namespace EF
open PySem PySem.Spec PyProof.Rows L2 Evl
theorem cut1 (xs : List V) : cutV xs (some 1) none = xs.drop 1 := by
  unfold cutV
  cases xs with
  | nil => rfl
  | cons x xs =>
    have e : HT.sIx (x :: xs).length 0 (some 1) = 1 := by
      unfold HT.sIx
      simp
    have e2 : HT.sIx (x :: xs).length (x :: xs).length none = (x :: xs).length := rfl
    rw [e, e2]
    apply List.take_of_length_le
    simp
theorem ei_zipL {K : PySem.W.Frag} {σ : L2.St} {H : Hp} {ta : TA} {xs ys : List V} {n : Nat} (h : ∀ H1, Ex H H1 → ∀ Q : List V → Hp → Prop, (∀ a b H2, Ex H1 H2 → SqL K H2 a xs → SqL K H2 b ys → Q [.ref a, .ref b] H2) → ta σ H1 Q) (hn : n = min xs.length ys.length) :
    EvI (RZ.iZipA K ta) σ H n (fun i x H' => ∃ T x1 x2, x = .ref T ∧ H' T = some (.tup [x1, x2]) ∧ xs[i]? = some x1 ∧ ys[i]? = some x2) :=
  fun H1 e R q => h H1 e _ fun a b H2 e2 h1 h2 => ⟨a, b, xs, ys, rfl, .inl ⟨h1, h2, q _ H2 e2 ⟨_, _, walk_zip (K := K) (a := a) (b := b) (xs := xs) (ys := ys) hn, ⟨h1, h2⟩, fun _ _ e h => ⟨ex_l e h.1, ex_l e h.2⟩,
    fun i H3 x H4 _ _ ⟨T, x1, x2, ex, n, eH, k1, k2⟩ => by subst eH; exact ⟨Ex.new n, T, x1, x2, ex, upd_same, k1, k2⟩⟩⟩⟩
theorem ev_chain {r r' : R2} {σ : L2.St} {H : Hp} {ta tb tc : TE} {x y z : V} {a b : Bool} (ha : Ev ta σ H x) (hb : Ev tb σ H y) (hc : Ev tc σ H z) (h1 : RV r x y H (.bl a)) (h2 : a = true → RV r' y z H (.bl b)) : Ev (tChain r r' ta tb tc) σ H (.bl (a && b)) := fun H1 e Q q =>
  ha H1 e _ fun H2 e2 => hb H2 (e.trans e2) _ fun H3 e3 => h1 H3 ((e.trans e2).trans e3) _ fun H4 e4 => ⟨a, rfl, by
    cases a with
    | true =>
      refine iteT (hc H4 (((e.trans e2).trans e3).trans e4) _ fun H5 e5 => h2 rfl H5 ((((e.trans e2).trans e3).trans e4).trans e5) Q fun H6 e6 => ?_)
      exact q H6 ((((e2.trans e3).trans e4).trans e5).trans e6)
    | false => exact iteF (q H4 ((e2.trans e3).trans e4))⟩
theorem bools_of {α : Type} {H : Hp} {ys : List V} {L : List α} {b : α → Bool} (h : DtA H ys (L.filterMap fun a => some (.bool (b a)))) : ys = (L.map b).map V.bl := by
  rw [List.filterMap_eq_map'] at h
  have e : (L.map fun a => PyData.bool (b a)) = (L.map b).map .bool := by rw [List.map_map]; rfl
  rw [e] at h
  exact h.bools
theorem ev_any {α : Type} {K : PySem.W.Frag} {σ : L2.St} {H : Hp} {te : TE} {L : List α} {b : α → Bool} (h : EvP te σ H (fun v H' => ∃ p ys, v = .ref p ∧ H p = none ∧ H' p = some (.lst ys) ∧ DtA H' ys (L.filterMap fun a => some (.bool (b a))))) :
    Ev (tCB (rAny K) (tCons te tNil)) σ H (.bl (L.any b)) := fun H1 e Q q => h H1 e _ fun v H2 e2 ⟨p, ys, ev, _, hp, hd⟩ => by
  have e5 := bools_of hd
  subst ev e5
  refine ⟨p, L.map b, rfl, SqL.of hp, ?_⟩
  rw [show (L.map b).any id = L.any b by simp]
  exact q H2 e2
theorem ev_all {α : Type} {K : PySem.W.Frag} {σ : L2.St} {H : Hp} {te : TE} {L : List α} {b : α → Bool} (h : EvP te σ H (fun v H' => ∃ p ys, v = .ref p ∧ H p = none ∧ H' p = some (.lst ys) ∧ DtA H' ys (L.filterMap fun a => some (.bool (b a))))) :
    Ev (tCB (rAll K) (tCons te tNil)) σ H (.bl (L.all b)) := fun H1 e Q q => h H1 e _ fun v H2 e2 ⟨p, ys, ev, _, hp, hd⟩ => by
  have e5 := bools_of hd
  subst ev e5
  refine ⟨p, L.map b, rfl, SqL.of hp, ?_⟩
  rw [show (L.map b).all id = L.all b by simp]
  exact q H2 e2
section
variable {P : Program} {w : World} {K : PySem.W.Frag} {mg : Str → Option Value} {base : Heap}
def R_check_rows (K : PySem.W.Frag) : List V → Hp → Out → Prop := fun vs H o => ∃ vl L vr R, vs = [vl, vr] ∧ LandV K H vl L ∧ Dt H vr (rwsD R) ∧ o = unkO (badRow L.places R) oNon
theorem sc_check_rows : FnScope ["land", "rows", "place", "_"] ["land", "rows"] (defScope s_check_rows) := ⟨rfl, rfl, rfl, by decide +kernel, rfl, by decide +kernel, by decide +kernel⟩
theorem ok_check_rows (S : Says K mg) (U : UnkOk P K (cUnk K)) : Fn P w K mg base 3 "check_rows" ["land", "rows"] (spO K (R_check_rows K)) := by
  have M_check_place := ok_check_place (P := P) (w := w) (base := base) S U
  obtain ⟨fd, F⟩ := S.def_check_rows
  refine ⟨⟨_, fd, S.g_check_rows, F.kp, F.bindsN (fun _ _ _ _ _ _ us hl => match us, hl with | [_, _], _ => rfl), F.ok sc_check_rows (fun vs H Q E h => ?_) (fun cdv A outer s H vs Q E hr h => ?_)⟩⟩
  · obtain ⟨_, ⟨_, _, _, _, rfl, _⟩, _⟩ := h
    rfl
  · obtain ⟨o, ⟨vl, L, vr, R, rfl, hL, hR, rfl⟩, q⟩ := h
    obtain ⟨la, dx, wa, vp, vk, vt, rfl, hla, _⟩ := hL.ex
    obtain ⟨a, xs, rfl, ha, hd⟩ := hR.lst_at
    have hl := hd.map_len
    refine ⟨_, ((pss_one (ps_for (passes_of rfl) rfl (pi_list (pv 1)) (pg_tup rfl (pgs_cons (pg_name (i := 2) sc_check_rows.nd rfl (by first | exact Or.inl rfl | exact Or.inr rfl)) (pgs_cons (pg_name (i := 3) sc_check_rows.nd rfl (by first | exact Or.inl rfl | exact Or.inr rfl)) pgs_nil)))
      (pss_one (ps_expr (pe_mtS M_check_place (hr.mono (by decide)) (takes_of rfl rfl rfl rfl) (pv 0) (pa_cons (pv 2) pa_nil))))))), ?_⟩
    refine s_forL (ev_var (by rfl)) (SqL.of ha) (fun i σ' H' => (∃ x2 x3, σ' = [some (.ref la), some (.ref a), x2, x3]) ∧ Ex H H' ∧ ∀ j r, j < i → R[j]? = some r → r.1 ∈ L.places) (fun H1 e1 => ⟨⟨_, _, rfl⟩, e1, fun j r hj => by omega⟩) (fun i σ' H' _ h => SqL.of (h.2.1 _ _ ha)) (fun i x σ' H' hx h => ?_) (fun σ' H' h => ?_)
    · obtain ⟨⟨x2, x3, rfl⟩, eH, hg⟩ := h
      have hi : i < R.length := by have := (List.getElem?_eq_some_iff.mp hx).1; omega
      obtain ⟨r, hr1⟩ : ∃ r, R[i]? = some r := ⟨_, List.getElem?_eq_getElem hi⟩
      obtain ⟨b, rfl, hb⟩ := dt_rw ((hd.map_at hx hr1).mono eH)
      refine ⟨b, _, rfl, .inl hb, rfl, _, _, rfl, _, _, rfl, rfl, ?_⟩
      refine c_mtS (R := R_check_place K) (o := if r.1 ∈ L.places then oNon else .unk r.1) (ev_var (by rfl)) (eH _ _ hla) (by rw [flds_eq]; rfl) (ea_cons (ev_var (by rfl)) ea_nil) (fun H1 e1 => ⟨_, L, r.1, rfl, hL.mono (eH.trans e1), rfl⟩) ?_
      by_cases hz : r.1 ∈ L.places
      · rw [if_pos hz]
        intro v H1 e1 _
        refine ⟨⟨_, _, rfl⟩, eH.trans e1, fun j r2 hj hr2 => ?_⟩
        by_cases ej : j = i
        · subst ej
          rw [hr1] at hr2
          cases hr2
          exact hz
        · exact hg j r2 (by omega) hr2
      · rw [if_neg hz]
        have hb2 : badRow L.places R = some r.1 := by
          unfold badRow
          rw [find_at hr1 (by simpa using hz) fun j b hj hb => by simpa using hg j b hj hb]
          rfl
        rw [hb2] at q
        exact q.mono eH
    · obtain ⟨_, eH, hg⟩ := h
      have hb2 : badRow L.places R = none := by
        unfold badRow
        rw [find_no fun j b hb => by
          have := hg j b (by have := (List.getElem?_eq_some_iff.mp hb).1; omega) hb
          simpa using this]
        rfl
      rw [hb2] at q
      exact q _ H' eH rfl
def R_check_changes : List V → Hp → Out → Prop := fun vs H o => ∃ vw W, vs = [vw] ∧ Dt H vw (weaD W) ∧ W ≠ [] ∧ W.length ≤ 40 ∧ (∀ r ∈ W, r.1 ≤ 100000) ∧ o = if weaGood W = true then oNon else .wea
theorem sc_check_changes : FnScope ["weather", "minutes", "minute", "_", "later"] ["weather"] (defScope s_check_changes) := ⟨rfl, rfl, rfl, by decide +kernel, rfl, by decide +kernel, by decide +kernel⟩
theorem ok_check_changes (S : Says K mg) : Fn P w K mg base 1 "check_changes" ["weather"] (spO K R_check_changes) := by
  obtain ⟨fd, F⟩ := S.def_check_changes
  refine ⟨⟨_, fd, S.g_check_changes, F.kp, F.bindsN (fun _ _ _ _ _ _ us hl => match us, hl with | [_], _ => rfl), F.ok sc_check_changes (fun vs H Q E h => ?_) (fun cdv A outer s H vs Q E hr h => ?_)⟩⟩
  · obtain ⟨_, ⟨_, _, rfl, _⟩, _⟩ := h
    rfl
  · obtain ⟨o, ⟨vw, W, rfl, hW, hne, hz, hm, rfl⟩, q⟩ := h
    obtain ⟨a, xs, rfl, ha, hd⟩ := hW.lst_at
    have hl := hd.map_len
    refine ⟨_, ((pss_cons (ps_setLc (i := 1) (own := [("minute", 2), ("_", 3)]) (g := (gTup K 2 (gCons (gName 2) (gCons (gName 3) gNil)))) (tt := tYes) (te := (tVar 2)) rfl sc_check_changes.nd rfl rfl (sw_true rfl rfl rfl (by decide +kernel)) (pi_list (pv 0)) (blkOk_by (N := ["weather", "minutes", "minute", "_", "later"]) (sc := defScope s_check_changes) (by decide +kernel)) (fun _ _ _ _ _ => (pg_tup rfl (pgs_cons (pg_name (i := 2) sc_check_changes.nd rfl (by first | exact Or.inl rfl | exact Or.inr rfl)) (pgs_cons (pg_name (i := 3) sc_check_changes.nd rfl (by first | exact Or.inl rfl | exact Or.inr rfl)) pgs_nil)))) (fun _ _ _ _ _ => pts_nil) (fun _ _ _ _ _ => (pv 2)))
    (pss_cons (ps_if (PW.pt (pw_or (pt_not (pt_chain op_le op_le pe_int (pe_callB call_len_seq (by rfl) S.f_len PySem.boot_len (pa_cons (pv 1) pa_nil)) (pe_gint S.i_MOST_CHANGES))) (pw_or (pt_cmpR op_ne (pe_ix ix_list (pv 1) pe_int (fun _ _ => rfl)) pe_int (nomark _)) (pw_or1 (pt_cmpR op_gt (pe_ix ix_list (pv 1) (pe_un un_neg pe_int) (fun _ _ => rfl)) (pe_gint S.i_MOST_MINUTE) (nomark _)))))) (pss_one (ps_raise rfl (takes_of rfl rfl rfl rfl) (pmk_own PySem.F.excBase_ValueError S.xW.1 S.g_InvalidWeather S.xW.2.1 (raises_own S.xW.2.2.1 S.xW.2.2.2) rfl))) pss_nil)
    (pss_one (ps_if (pt_val (pe_callB (cr_any rfl) (by rfl) S.f_any (by decide +kernel) (pa_cons (pe_lc (own := [("minute", 2), ("later", 4)]) (g := (gTup K 2 (gCons (gName 2) (gCons (gName 4) gNil)))) (tt := tYes) (te := (tOp _ (tVar 4) (tVar 2))) rfl sc_check_changes.nd (RZ.pi_zipA rfl S.f_zip (pa_cons (pv 1) (pa_cons (pe_slice sl_list (pv 1) (po_some pe_int) po_none) pa_nil))) (blkOk_by (N := ["weather", "minutes", "minute", "_", "later"]) (sc := defScope s_check_changes) (by decide +kernel)) (fun _ _ _ _ _ => (pg_tup rfl (pgs_cons (pg_name (i := 2) sc_check_changes.nd rfl (by first | exact Or.inl rfl | exact Or.inr rfl)) (pgs_cons (pg_name (i := 4) sc_check_changes.nd rfl (by first | exact Or.inl rfl | exact Or.inr rfl)) pgs_nil)))) (fun _ _ _ _ _ => pts_nil) (fun _ _ _ _ _ => (pe_cmpR op_le (pv 4) (pv 2) (nomark _)))) pa_nil))) (pss_one (ps_raise rfl (takes_of rfl rfl rfl rfl) (pmk_own PySem.F.excBase_ValueError S.xW.1 S.g_InvalidWeather S.xW.2.1 (raises_own S.xW.2.2.1 S.xW.2.2.2) rfl))) pss_nil))))), ?_⟩
    obtain ⟨⟨m0, z0⟩, W', rfl⟩ : ∃ r W', W = r :: W' := by
      cases W with
      | nil => exact absurd rfl hne
      | cons r W' => exact ⟨r, W', rfl⟩
    generalize hWW : (m0, z0) :: W' = W at *
    refine q_asgP (ep_lc W (fun r => some (.int r.1)) (ei_list ((ep_ev (ev_var (by rfl))).imp fun v H1 e ev => ⟨a, ev, SqL.of (e _ _ ha)⟩)) hl (by omega) (fun r _ d h => by cases h; rfl) (fun i x r H1 e1 hr hx => ?_)) fun v H1 e1 ⟨p, ys, ev, np, hp, hdy⟩ => ?_
    · obtain ⟨b, rfl, hb2⟩ := dt_pr ((hd.map_at hx hr).mono e1)
      intro H2 e2 Qk Qn hk hn
      refine ⟨b, _, rfl, .inl (ex_rd e2 hb2), rfl, _, _, rfl, _, _, rfl, rfl, lcY rfl ?_⟩
      exact ⟨_, rfl, hk _ rfl _ H2 (Ex.refl _) (.int _)⟩
    · rw [List.filterMap_eq_map'] at hdy
      have e2 : (W.map fun r => PyData.int r.1) = (W.map (·.1)).map .int := by rw [List.map_map]; rfl
      rw [e2] at hdy
      have hs := hdy.ints
      subst ev hs
      obtain ⟨ms, hms⟩ : ∃ ms, W.map (·.1) = ms := ⟨_, rfl⟩
      rw [hms] at hp
      have hlen : ms.length = W.length := by rw [← hms, List.length_map]
      have hm0 : ms = m0 :: W'.map (·.1) := by rw [← hms, ← hWW]; rfl
      obtain ⟨lst, hlst⟩ : ∃ l, ms.getLast? = some l := by
        cases q2 : ms.getLast? with
        | none => rw [List.getLast?_eq_none_iff] at q2; rw [q2] at hm0; cases hm0
        | some l => exact ⟨l, rfl⟩
      have hl1 : lst ≤ 100000 := by
        have hmem := List.mem_of_getLast? hlst
        rw [← hms] at hmem
        obtain ⟨r, hr1, hr2⟩ := List.mem_map.mp hmem
        rw [← hr2]
        exact hm r hr1
      have vL : ∀ {H2 : Hp}, Ex H1 H2 → SqL K H2 p (ms.map V.int) := fun e => SqL.of (e _ _ hp)
      have c1 : EvT (tNot (tTest (tChain (rI0 fun i j => .bl (decide (i ≤ j))) (rI0 fun i j => .bl (decide (i ≤ j))) (tC (.int 1)) (tCB (rLenS K) (tCons (tVar 1) tNil)) (tC (.int 40))))) [some (.ref a), some (.ref p), none, none, none] H1 false := by
        refine et_is (et_not (et_test (ev_chain (a := true) (b := true) ev_c (ev_len (ev_var (by rfl)) (vL (Ex.refl _))) ev_c ?_ fun _ => ?_))) rfl
        · rw [show V.bl true = V.bl (decide ((1 : Int) ≤ ((ms.map V.int).length : Int))) by rw [decide_eq_true]; rw [List.length_map, hlen, ← hWW]; simp; omega]
          exact rv_I0
        · rw [show V.bl true = V.bl (decide (((ms.map V.int).length : Int) ≤ (40 : Int))) by rw [decide_eq_true]; rw [List.length_map, hlen]; omega]
          exact rv_I0
      have c2 : EvT (tTest (tOp rNe (tOp (rIxL K) (tVar 1) (tC (.int 0))) (tC (.int 0)))) [some (.ref a), some (.ref p), none, none, none] H1 (decide (m0 ≠ 0)) := by
        refine et_is (et_test (ev_op (ev_op (ev_var (by rfl)) ev_c (rv_ixL (vL (Ex.refl _)) (v := .int m0) (by rw [hm0]; exact atI_nat (j := 0) rfl))) ev_c (rv_ne (by rfl)))) ?_
        by_cases z : m0 = 0
        · subst z; simp
        · have : ¬ V.int m0 = V.int 0 := fun q => z (V.int.inj q)
          simp [z, this]
      have c3 : EvT (tTest (tOp (rI0 fun i j => .bl (decide (j < i))) (tOp (rIxL K) (tVar 1) (tUn (rU fun i => .int (-i)) (tC (.int 1)))) (tC (.int 100000)))) [some (.ref a), some (.ref p), none, none, none] H1 false := by
        refine et_is (et_test (b := decide ((100000 : Int) < lst)) (ev_op (ev_op (ev_var (by rfl)) (ev_un ev_c ru_neg) (rv_ixL (vL (Ex.refl _)) (v := .int lst) ?_)) ev_c rv_I0)) (by simp; omega)
        rw [List.getLast?_eq_some_iff] at hlst
        obtain ⟨l, hl2⟩ := hlst
        rw [hl2, List.map_append]
        exact atI_last _ _
      have hg : weaGood W = (decide (m0 = 0) && !(ms.zip ms.tail).any fun q => decide (q.2 ≤ q.1)) := by
        unfold weaGood
        rw [hms, hm0]
        simp
      rw [hg] at q
      refine r_seq (r_if (et_or c1 fun _ => et_or c2 fun _ => c3) (fun c H2 e2 => ?_) (fun c H2 e2 => ?_))
      · have hz0 : ¬ m0 = 0 := by simpa using c
        rw [if_neg (by simp [hz0])] at q
        exact q H2 (e1.trans e2)
      · have hz0 : m0 = 0 := by simpa using c
        have hda : DtA H1 (ms.map V.int) (ms.map .int) := DtA.of_ints ms
        have hzl : (ms.zip ms.tail).length = min (ms.map V.int).length (ms.tail.map V.int).length := by simp
        refine gn (r_if (et_B (ev_any (L := ms.zip ms.tail) (b := fun q => decide (q.2 ≤ q.1)) (ep_lc (ms.zip ms.tail) _ (ei_zipL (xs := ms.map V.int) (ys := ms.tail.map V.int) (fun H3 e3 Q3 q3 => ?_) rfl) hzl.symm ?_ (fun r _ d h => by cases h; rfl) (fun j x r H3 e3 hr hx => ?_)))) (fun c H3 e3 => ?_) (fun c H3 e3 => ?_))
        · refine ⟨_, rfl, el_sl (K := K) (ev_var (by rfl)) (eo_some ev_c) eo_none (vL e2) H3 e3 _ fun p2 H4 np2 e4 hp2 => ?_⟩
          rw [cut1, ← List.map_drop, List.drop_one] at hp2
          exact q3 _ _ H4 e4 (vL ((e2.trans e3).trans e4)) (SqL.of hp2)
        · rw [List.length_zip]
          omega
        · obtain ⟨T, x1, x2, rfl, hT, g1, g2⟩ := hx
          rw [List.getElem?_zip_eq_some] at hr
          rw [List.getElem?_map, hr.1] at g1
          rw [List.getElem?_map, hr.2] at g2
          cases g1
          cases g2
          intro H4 e4 Qk Qn hk hn
          refine ⟨T, _, rfl, .inl (.inl (e4 _ _ hT)), rfl, _, _, rfl, _, _, rfl, rfl, lcY rfl ?_⟩
          exact ⟨_, rfl, _, rfl, _, _, rfl, rfl, hk _ rfl _ H4 (Ex.refl _) (.bl _)⟩
        · rw [if_neg (by rw [c]; simp)] at q
          exact q H3 ((e1.trans e2).trans e3)
        · rw [if_pos (by rw [c]; simp [hz0])] at q
          exact gn (q _ H3 ((e1.trans e2).trans e3) rfl)
end
end EF
set_option maxHeartbeats 4000000
namespace EF
open PySem PySem.Spec PyProof.Rows L2 Evl
theorem c_seqS {K : PySem.W.Frag} {R : List V → Hp → Out → Prop} {b : Option Str} {E : L2.St → XK} {ta : TA} {tz : TS} {D : Ends} {vs : List V} {σ : L2.St} {H : Hp} {Q : VK} (h : EvA ta σ H vs) (hr : ∀ H1, Ex H H1 → R vs H1 (unkO b oNon)) (q : ∀ z, b = some z → Fin K (.unk z) H Q (E σ)) (k : b = none → ∀ H1, Ex H H1 → tz D σ H1) :
    tSeq (tDrop (tCallS (spO K R) E ta)) tz D σ H := by
  refine c_callS (o := unkO b oNon) h hr ?_
  cases b with
  | some z => exact q z rfl
  | none => exact fun v H1 e1 _ => k rfl H1 e1
/-- what check_fire refuses -/
def refuse (L : Ld) (W : Wea) (S B : Rws) : Out := unkO (badWind L.winds W) (unkO (badRow L.places S) (unkO (badRow L.places B) (if weaGood W = true then oNon else .wea)))
def refuseAt (L : Ld) (W : Wea) (S B : Rws) (z : Str) : Out := unkO (badWind L.winds W) (unkO (badRow L.places S) (unkO (badRow L.places B) (if z ∈ L.places then (if weaGood W = true then oNon else .wea) else .unk z)))
structure WeaSm (W : Wea) : Prop where
  ne : W ≠ []
  few : W.length ≤ 40
  le : ∀ r ∈ W, r.1 ≤ 100000
structure Asked (K : PySem.W.Frag) (H : Hp) (vl vw vs vb : V) (L : Ld) (W : Wea) (S B : Rws) : Prop where
  l : LandV K H vl L
  w : Dt H vw (weaD W)
  s : Dt H vs (rwsD S)
  b : Dt H vb (rwsD B)
  ok : WeaSm W
theorem Asked.mono {K : PySem.W.Frag} {H H' : Hp} {vl vw vs vb : V} {L : Ld} {W : Wea} {S B : Rws} (e : Ex H H') (h : Asked K H vl vw vs vb L W S B) : Asked K H' vl vw vs vb L W S B := ⟨h.l.mono e, h.w.mono e, h.s.mono e, h.b.mono e, h.ok⟩
section
variable {P : Program} {w : World} {K : PySem.W.Frag} {mg : Str → Option Value} {base : Heap}
def R_check_fire (K : PySem.W.Frag) : List V → Hp → Out → Prop := fun vs H o => ∃ vl vw vs' vb L W St B, vs = [vl, vw, vs', vb] ∧ Asked K H vl vw vs' vb L W St B ∧ o = refuse L W St B
theorem sc_check_fire : FnScope ["land", "weather", "starts", "breaks"] ["land", "weather", "starts", "breaks"] (defScope s_check_fire) := ⟨rfl, rfl, rfl, by decide +kernel, rfl, by decide +kernel, by decide +kernel⟩
theorem ok_check_fire (S : Says K mg) (U : UnkOk P K (cUnk K)) : Fn P w K mg base 4 "check_fire" ["land", "weather", "starts", "breaks"] (spO K (R_check_fire K)) := by
  have G_check_winds := ok_check_winds (P := P) (w := w) (base := base) S U
  have G_check_rows := ok_check_rows (P := P) (w := w) (base := base) S U
  have G_check_changes := ok_check_changes (P := P) (w := w) (base := base) S
  obtain ⟨fd, F⟩ := S.def_check_fire
  refine ⟨⟨_, fd, S.g_check_fire, F.kp, F.bindsN (fun _ _ _ _ _ _ us hl => match us, hl with | [_, _, _, _], _ => rfl), F.ok sc_check_fire (fun vs H Q E h => ?_) (fun cdv A outer s H vs Q E hr h => ?_)⟩⟩
  · obtain ⟨_, ⟨_, _, _, _, _, _, _, _, rfl, _⟩, _⟩ := h
    rfl
  · obtain ⟨o, ⟨vl, vw, vs', vb, L, W, St, B, rfl, a, rfl⟩, q⟩ := h
    refine ⟨_, ((pss_cons (ps_expr (pe_fnS G_check_winds (hr.mono (by decide)) (takes_of rfl rfl rfl rfl) (pa_cons (pv 0) (pa_cons (pv 1) pa_nil))))
    (pss_cons (ps_expr (pe_fnS G_check_rows (hr.mono (by decide)) (takes_of rfl rfl rfl rfl) (pa_cons (pv 0) (pa_cons (pv 2) pa_nil))))
    (pss_cons (ps_expr (pe_fnS G_check_rows (hr.mono (by decide)) (takes_of rfl rfl rfl rfl) (pa_cons (pv 0) (pa_cons (pv 3) pa_nil))))
    (pss_one (ps_expr (pe_fnS G_check_changes (hr.mono (by decide)) (takes_of rfl rfl rfl rfl) (pa_cons (pv 1) pa_nil)))))))), ?_⟩
    unfold refuse at q
    refine c_seqS (b := badWind L.winds W) (ea_cons (ev_var (by rfl)) (ea_cons (ev_var (by rfl)) ea_nil)) (fun H1 e1 => ⟨vl, L, vw, W, rfl, a.l.mono e1, a.w.mono e1, rfl⟩) (fun z hz => by rw [hz] at q; exact q) (fun hz H1 e1 => ?_)
    rw [hz] at q
    replace q := Fin.mono e1 q
    replace a := a.mono e1
    refine c_seqS (b := badRow L.places St) (ea_cons (ev_var (by rfl)) (ea_cons (ev_var (by rfl)) ea_nil)) (fun H1 e1 => ⟨vl, L, vs', St, rfl, a.l.mono e1, a.s.mono e1, rfl⟩) (fun z hz => by rw [hz] at q; exact q) (fun hz H1 e1 => ?_)
    rw [hz] at q
    replace q := Fin.mono e1 q
    replace a := a.mono e1
    refine c_seqS (b := badRow L.places B) (ea_cons (ev_var (by rfl)) (ea_cons (ev_var (by rfl)) ea_nil)) (fun H1 e1 => ⟨vl, L, vb, B, rfl, a.l.mono e1, a.b.mono e1, rfl⟩) (fun z hz => by rw [hz] at q; exact q) (fun hz H1 e1 => ?_)
    rw [hz] at q
    replace q := Fin.mono e1 q
    replace a := a.mono e1
    refine c_callS (o := if weaGood W = true then oNon else .wea) (ea_cons (ev_var (by rfl)) ea_nil) (fun H1 e1 => ⟨vw, W, rfl, a.w.mono e1, a.ok.ne, a.ok.few, a.ok.le, rfl⟩) ?_
    change Fin K (if weaGood W = true then oNon else .wea) _ Q E at q
    by_cases c : weaGood W = true
    · rw [if_pos c] at q ⊢
      exact fun v H2 e2 _ => q _ H2 e2 rfl
    · rw [if_neg c] at q ⊢
      exact q
def R_check_fire_at (K : PySem.W.Frag) : List V → Hp → Out → Prop := fun vs H o => ∃ vl vw vs' vb z L W St B, vs = [vl, vw, vs', vb, .str z] ∧ Asked K H vl vw vs' vb L W St B ∧ o = refuseAt L W St B z
theorem sc_check_fire_at : FnScope ["land", "weather", "starts", "breaks", "place"] ["land", "weather", "starts", "breaks", "place"] (defScope s_check_fire_at) := ⟨rfl, rfl, rfl, by decide +kernel, rfl, by decide +kernel, by decide +kernel⟩
theorem ok_check_fire_at (S : Says K mg) (U : UnkOk P K (cUnk K)) : Fn P w K mg base 4 "check_fire_at" ["land", "weather", "starts", "breaks", "place"] (spO K (R_check_fire_at K)) := by
  have G_check_winds := ok_check_winds (P := P) (w := w) (base := base) S U
  have G_check_rows := ok_check_rows (P := P) (w := w) (base := base) S U
  have M_check_place := ok_check_place (P := P) (w := w) (base := base) S U
  have G_check_changes := ok_check_changes (P := P) (w := w) (base := base) S
  obtain ⟨fd, F⟩ := S.def_check_fire_at
  refine ⟨⟨_, fd, S.g_check_fire_at, F.kp, F.bindsN (fun _ _ _ _ _ _ us hl => match us, hl with | [_, _, _, _, _], _ => rfl), F.ok sc_check_fire_at (fun vs H Q E h => ?_) (fun cdv A outer s H vs Q E hr h => ?_)⟩⟩
  · obtain ⟨_, ⟨_, _, _, _, _, _, _, _, _, rfl, _⟩, _⟩ := h
    rfl
  · obtain ⟨o, ⟨vl, vw, vs', vb, z, L, W, St, B, rfl, a, rfl⟩, q⟩ := h
    refine ⟨_, ((pss_cons (ps_expr (pe_fnS G_check_winds (hr.mono (by decide)) (takes_of rfl rfl rfl rfl) (pa_cons (pv 0) (pa_cons (pv 1) pa_nil))))
    (pss_cons (ps_expr (pe_fnS G_check_rows (hr.mono (by decide)) (takes_of rfl rfl rfl rfl) (pa_cons (pv 0) (pa_cons (pv 2) pa_nil))))
    (pss_cons (ps_expr (pe_fnS G_check_rows (hr.mono (by decide)) (takes_of rfl rfl rfl rfl) (pa_cons (pv 0) (pa_cons (pv 3) pa_nil))))
    (pss_cons (ps_expr (pe_mtS M_check_place (hr.mono (by decide)) (takes_of rfl rfl rfl rfl) (pv 0) (pa_cons (pv 4) pa_nil)))
    (pss_one (ps_expr (pe_fnS G_check_changes (hr.mono (by decide)) (takes_of rfl rfl rfl rfl) (pa_cons (pv 1) pa_nil))))))))), ?_⟩
    unfold refuseAt at q
    refine c_seqS (b := badWind L.winds W) (ea_cons (ev_var (by rfl)) (ea_cons (ev_var (by rfl)) ea_nil)) (fun H1 e1 => ⟨vl, L, vw, W, rfl, a.l.mono e1, a.w.mono e1, rfl⟩) (fun z hz => by rw [hz] at q; exact q) (fun hz H1 e1 => ?_)
    rw [hz] at q
    replace q := Fin.mono e1 q
    replace a := a.mono e1
    refine c_seqS (b := badRow L.places St) (ea_cons (ev_var (by rfl)) (ea_cons (ev_var (by rfl)) ea_nil)) (fun H1 e1 => ⟨vl, L, vs', St, rfl, a.l.mono e1, a.s.mono e1, rfl⟩) (fun z hz => by rw [hz] at q; exact q) (fun hz H1 e1 => ?_)
    rw [hz] at q
    replace q := Fin.mono e1 q
    replace a := a.mono e1
    refine c_seqS (b := badRow L.places B) (ea_cons (ev_var (by rfl)) (ea_cons (ev_var (by rfl)) ea_nil)) (fun H1 e1 => ⟨vl, L, vb, B, rfl, a.l.mono e1, a.b.mono e1, rfl⟩) (fun z hz => by rw [hz] at q; exact q) (fun hz H1 e1 => ?_)
    rw [hz] at q
    replace q := Fin.mono e1 q
    replace a := a.mono e1
    change Fin K (if z ∈ L.places then (if weaGood W = true then oNon else .wea) else .unk z) _ Q E at q
    obtain ⟨la, dx, wa, vp, vk, vt, rfl, hla, _⟩ := a.l.ex
    refine c_mtS (R := R_check_place K) (o := if z ∈ L.places then oNon else .unk z) (ev_var (by rfl)) hla (by rw [flds_eq]; rfl) (ea_cons (ev_var (by rfl)) ea_nil) (fun H1 e1 => ⟨_, L, z, rfl, a.l.mono e1, rfl⟩) ?_
    by_cases hz : z ∈ L.places
    · rw [if_pos hz] at q ⊢
      intro v H1 e1 _
      refine gn ?_
      refine c_callS (o := if weaGood W = true then oNon else .wea) (ea_cons (ev_var (by rfl)) ea_nil) (fun H2 e2 => ⟨vw, W, rfl, a.w.mono (e1.trans e2), a.ok.ne, a.ok.few, a.ok.le, rfl⟩) ?_
      replace q := Fin.mono e1 q
      by_cases c : weaGood W = true
      · rw [if_pos c] at q ⊢
        exact fun v H2 e2 _ => q _ H2 e2 rfl
      · rw [if_neg c] at q ⊢
        exact q
    · rw [if_neg hz] at q ⊢
      exact q
end
end EF
set_option maxHeartbeats 4000000
namespace EF
open PySem PySem.Spec PyProof.Rows L2 Evl
/-! ### when a link is through -/
theorem through_iff {winds : List Str} {W : Wea} {row : List (Option Int)} {m e : Int} : through winds W row m = some e ↔ (∃ s, s ∈ chance W m ∧ ∃ n, numAt winds W row s = some n ∧ s + n = e) ∧ ∀ s n, s ∈ chance W m → numAt winds W row s = some n → e ≤ s + n := by
  unfold through
  rw [List.min?_eq_some_iff]
  constructor
  · rintro ⟨h1, h2⟩
    obtain ⟨s, hs, h⟩ := List.mem_filterMap.mp h1
    obtain ⟨n, hn, hsn⟩ := Option.map_eq_some_iff.mp h
    refine ⟨⟨s, hs, n, hn, hsn⟩, fun s' n' hs' hn' => h2 _ (List.mem_filterMap.mpr ⟨s', hs', by rw [hn']; rfl⟩)⟩
  · rintro ⟨⟨s, hs, n, hn, hsn⟩, h2⟩
    refine ⟨List.mem_filterMap.mpr ⟨s, hs, by rw [hn]; exact congrArg some hsn⟩, fun b hb => ?_⟩
    obtain ⟨s', hs', h⟩ := List.mem_filterMap.mp hb
    obtain ⟨n', hn', hsn'⟩ := Option.map_eq_some_iff.mp h
    rw [← hsn']
    exact h2 s' n' hs' hn'
theorem through_some {winds : List Str} {W : Wea} {row : List (Option Int)} {m s n : Int} (hs : s ∈ chance W m) (hn : numAt winds W row s = some n) : ∃ e, through winds W row m = some e ∧ e ≤ s + n := by
  have hm : s + n ∈ (chance W m).filterMap fun s => (numAt winds W row s).map (s + ·) := List.mem_filterMap.mpr ⟨s, hs, by rw [hn]; rfl⟩
  cases h : through winds W row m with
  | none =>
    unfold through at h
    rw [List.min?_eq_none_iff] at h
    rw [h] at hm
    cases hm
  | some e => exact ⟨e, rfl, (through_iff.mp h).2 s n hs hn⟩
theorem chance_ge {W : Wea} {m s : Int} (h : s ∈ chance W m) : m ≤ s := by
  unfold chance at h
  rcases List.mem_cons.mp h with h | h
  · omega
  · obtain ⟨r, hr, e⟩ := List.mem_map.mp h
    have := of_decide_eq_true (List.mem_filter.mp hr).2
    omega
theorem num_mem {winds : List Str} {W : Wea} {row : List (Option Int)} {s n : Int} (h : numAt winds W row s = some n) : some n ∈ row := by
  unfold numAt at h
  obtain ⟨z, hz, h⟩ := Option.bind_eq_some_iff.mp h
  rw [List.getD_eq_getElem?_getD] at h
  cases q : row[winds.idxOf z]? with
  | none => rw [q] at h; cases h
  | some o =>
    rw [q] at h
    have h' : o = some n := h
    rw [← h']
    exact List.mem_of_getElem? q
theorem through_gt {winds : List Str} {W : Wea} {row : List (Option Int)} {m e : Int} (hr : ∀ i : Int, some i ∈ row → 1 ≤ i) (h : through winds W row m = some e) : m < e := by
  obtain ⟨⟨s, hs, n, hn, e1⟩, _⟩ := through_iff.mp h
  have := chance_ge hs
  have := hr n (num_mem hn)
  omega
/-- whoever sets out earlier is not through later -/
theorem through_mono {winds : List Str} {W : Wea} {row : List (Option Int)} {m m' e' : Int} (asc : W.Pairwise fun a b => a.1 < b.1) (hm : m ≤ m') (h : through winds W row m' = some e') : ∃ e, through winds W row m = some e ∧ e ≤ e' := by
  obtain ⟨⟨s, hs, n, hn, e1⟩, _⟩ := through_iff.mp h
  unfold chance at hs
  rcases List.mem_cons.mp hs with hs | hs
  · subst hs
    have hn2 := hn
    unfold numAt at hn2
    obtain ⟨z, hz, hn2⟩ := Option.bind_eq_some_iff.mp hn2
    have hz' := hz
    unfold blow at hz'
    rw [List.getLast?_map] at hz'
    obtain ⟨w0, hw0, hw1⟩ := Option.map_eq_some_iff.mp hz'
    rw [List.getLast?_eq_some_iff] at hw0
    obtain ⟨l, hl⟩ := hw0
    have hmem : w0 ∈ W.filter fun r => decide (r.1 ≤ s) := by rw [hl]; simp
    have hws : w0.1 ≤ s := of_decide_eq_true (List.mem_filter.mp hmem).2
    have hp := List.Pairwise.filter (fun r => decide (r.1 ≤ s)) asc
    rw [hl, List.pairwise_append] at hp
    have key : ∀ t, w0.1 ≤ t → t ≤ s → blow W t = blow W s := fun t h1 h2 => by
      unfold blow
      congr 2
      apply List.filter_congr
      intro r hr
      by_cases c : r.1 ≤ s
      · have hrm : r ∈ W.filter fun r => decide (r.1 ≤ s) := List.mem_filter.mpr ⟨hr, decide_eq_true c⟩
        rw [hl] at hrm
        have : r.1 ≤ w0.1 := by
          rcases List.mem_append.mp hrm with q | q
          · exact Int.le_of_lt (hp.2.2 r q w0 (by simp))
          · rw [List.mem_singleton.mp q]; exact Int.le_refl _
        rw [decide_eq_true c, decide_eq_true (by omega)]
      · rw [decide_eq_false c, decide_eq_false (by omega)]
    have num : ∀ t, w0.1 ≤ t → t ≤ s → numAt winds W row t = some n := fun t h1 h2 => by
      rw [← hn]
      unfold numAt
      rw [key t h1 h2]
    by_cases c : w0.1 ≤ m
    · obtain ⟨e, he, hle⟩ := through_some (m := m) (s := m) (by unfold chance; simp) (num m c hm)
      exact ⟨e, he, by omega⟩
    · have hc : w0.1 ∈ chance W m := by
        unfold chance
        refine List.mem_cons_of_mem _ (List.mem_map.mpr ⟨w0, List.mem_filter.mpr ⟨(List.mem_filter.mp hmem).1, decide_eq_true (by omega)⟩, rfl⟩)
      obtain ⟨e, he, hle⟩ := through_some hc (num w0.1 (Int.le_refl _) hws)
      exact ⟨e, he, by omega⟩
  · obtain ⟨r, hr, er⟩ := List.mem_map.mp hs
    obtain ⟨hr1, hr2⟩ := List.mem_filter.mp hr
    have := of_decide_eq_true hr2
    have hc : s ∈ chance W m := by
      unfold chance
      exact List.mem_cons_of_mem _ (List.mem_map.mpr ⟨r, List.mem_filter.mpr ⟨hr1, decide_eq_true (by omega)⟩, er⟩)
    obtain ⟨e, he, hle⟩ := through_some hc hn
    exact ⟨e, he, by omega⟩
/-! ### the fire -/
def okB (B : Rws) (p : Str) (m : Int) : Bool := match look (lmin B) p with
  | none => true
  | some b => decide (m < b)
theorem okB_le {B : Rws} {p : Str} {m n : Int} (h : okB B p n = true) (hm : m ≤ n) : okB B p m = true := by
  unfold okB at h ⊢
  cases q : look (lmin B) p with
  | none => rfl
  | some b =>
    rw [q] at h
    have := of_decide_eq_true h
    exact decide_eq_true (by omega)
def pass (L : Ld) (W : Wea) (sd : Bool) (l : Lnk) (m : Int) : Option Int := through L.winds W (rowOf sd l) m
structure IsFire (L : Ld) (W : Wea) (S B : Rws) (sd : Bool) (f : Str → Option Int) : Prop where
  pos : ∀ p n, f p = some n → 0 ≤ n
  src : ∀ p m, look (lmin S) p = some m → okB B p m = true → ∃ n, f p = some n ∧ n ≤ m
  lnk : ∀ l ∈ L.links, ∀ m e, f l.one = some m → pass L W sd l m = some e → okB B l.other e = true → ∃ n, f l.other = some n ∧ n ≤ e
  sup : ∀ p n, f p = some n → okB B p n = true ∧ (look (lmin S) p = some n ∨ ∃ l ∈ L.links, l.other = p ∧ ∃ m, f l.one = some m ∧ pass L W sd l m = some n)
/-- links whose numbers are minutes -/
def LkOk (L : Ld) : Prop := ∀ l ∈ L.links, ∀ q : Int × Int, some q ∈ l.times → 1 ≤ q.1 ∧ q.1 ≤ q.2
theorem row_pos {sd : Bool} {l : Lnk} (h : ∀ q : Int × Int, some q ∈ l.times → 1 ≤ q.1 ∧ q.1 ≤ q.2) : ∀ i : Int, some i ∈ rowOf sd l → 1 ≤ i := fun i hi => by
  unfold rowOf at hi
  obtain ⟨q, hq, e⟩ := List.mem_map.mp hi
  cases q with
  | none => cases e
  | some ab =>
    have := h ab hq
    have e' : (if sd then ab.2 else ab.1) = i := Option.some.inj e
    rw [← e']
    split <;> omega
theorem pass_gt {L : Ld} {W : Wea} {sd : Bool} {l : Lnk} {m e : Int} (hk : LkOk L) (hl : l ∈ L.links) (h : pass L W sd l m = some e) : m < e := through_gt (row_pos (hk l hl)) h
theorem fire_le {L : Ld} {W : Wea} {S B : Rws} {sd : Bool} {f g : Str → Option Int} (asc : W.Pairwise fun a b => a.1 < b.1) (hk : LkOk L) (F : IsFire L W S B sd f) (G : IsFire L W S B sd g) :
    ∀ (k : Nat) (p : Str) (n : Int), n.toNat < k → f p = some n → ∃ n', g p = some n' ∧ n' ≤ n
  | 0, _, _, hk', _ => by omega
  | k + 1, p, n, hlt, hf => by
    obtain ⟨ho, h | ⟨l, hl, e, m, hm, hp⟩⟩ := F.sup p n hf
    · exact G.src p n h ho
    · have hgt := pass_gt hk hl hp
      have hm0 := F.pos _ _ hm
      obtain ⟨m', hm', hle⟩ := fire_le asc hk F G k l.one m (by omega) hm
      obtain ⟨n', hn', hle'⟩ := through_mono asc hle hp
      subst e
      obtain ⟨u, hu, hue⟩ := G.lnk l hl m' n' hm' hn' (okB_le ho hle')
      exact ⟨u, hu, by omega⟩
theorem fire_one {L : Ld} {W : Wea} {S B : Rws} {sd : Bool} {f g : Str → Option Int} (asc : W.Pairwise fun a b => a.1 < b.1) (hk : LkOk L) (F : IsFire L W S B sd f) (G : IsFire L W S B sd g) : f = g := by
  funext p
  cases hf : f p with
  | none =>
    cases hg : g p with
    | none => rfl
    | some n =>
      obtain ⟨n', h, _⟩ := fire_le asc hk G F _ p n (Nat.lt_succ_self _) hg
      rw [hf] at h
      cases h
  | some n =>
    obtain ⟨n', hg, hle⟩ := fire_le asc hk F G _ p n (Nat.lt_succ_self _) hf
    obtain ⟨n2, hf2, hle2⟩ := fire_le asc hk G F _ p n' (Nat.lt_succ_self _) hg
    rw [hf] at hf2
    have := Option.some.inj hf2
    rw [hg]
    congr 1
    omega
/-- the minutes of the fire -/
noncomputable def fire (L : Ld) (W : Wea) (S B : Rws) (sd : Bool) : Str → Option Int := open Classical in if h : ∃ f, IsFire L W S B sd f then Classical.choose h else fun _ => none
theorem fire_eq {L : Ld} {W : Wea} {S B : Rws} {sd : Bool} {f : Str → Option Int} (asc : W.Pairwise fun a b => a.1 < b.1) (hk : LkOk L) (F : IsFire L W S B sd f) : fire L W S B sd = f := by
  unfold fire
  rw [dif_pos ⟨f, F⟩]
  exact fire_one asc hk (Classical.choose_spec (⟨f, F⟩ : ∃ f, IsFire L W S B sd f)) F
end EF
set_option maxHeartbeats 4000000
namespace EF
open PySem PySem.Spec PyProof.Rows L2 Evl
/-! ### dicts: keys -/
def KN (l : Rws) : Prop := (l.map (·.1)).Nodup
theorem look_mem {l : Rws} {s : Str} {m : Int} (h : look l s = some m) : (s, m) ∈ l := by
  unfold look at h
  obtain ⟨q, hq, e⟩ := Option.map_eq_some_iff.mp h
  have h1 := List.mem_of_find?_eq_some hq
  have h2 := List.find?_some hq
  have h3 : q.1 = s := of_decide_eq_true h2
  rw [← h3, ← e]
  exact h1
theorem look_none {l : Rws} {s : Str} : look l s = none ↔ ∀ q ∈ l, q.1 ≠ s := by
  unfold look
  rw [Option.map_eq_none_iff, List.find?_eq_none]
  simp
theorem mem_look {l : Rws} (hk : KN l) {s : Str} {m : Int} (h : (s, m) ∈ l) : look l s = some m := by
  induction l with
  | nil => cases h
  | cons q l ih =>
    unfold KN at hk
    rw [List.map_cons, List.nodup_cons] at hk
    rcases List.mem_cons.mp h with e | h
    · subst e
      simp [look]
    · have ne : ¬ q.1 = s := by
        intro e
        exact hk.1 (List.mem_map.mpr ⟨_, h, e.symm⟩)
      have := ih hk.2 h
      unfold look at this ⊢
      rw [List.find?_cons, decide_eq_false ne]
      exact this
theorem any_look {l : Rws} {s : Str} : (l.any fun q => decide (q.1 = s)) = (look l s).isSome := by
  cases h : look l s with
  | none =>
    rw [look_none] at h
    simp only [Option.isSome_none]
    rw [List.any_eq_false]
    intro q hq
    simp [h q hq]
  | some m =>
    have := look_mem h
    simp only [Option.isSome_some]
    rw [List.any_eq_true]
    exact ⟨_, this, by simp⟩
theorem put_keys {l : Rws} {s : Str} {m : Int} : (putS l s m).map (·.1) = if (look l s).isSome then l.map (·.1) else l.map (·.1) ++ [s] := by
  unfold putS
  rw [any_look]
  split
  · rw [List.map_map]
    apply List.map_congr_left
    intro q _
    by_cases e : q.1 = s <;> simp [e]
  · simp
theorem KN.put {l : Rws} (h : KN l) (s : Str) (m : Int) : KN (putS l s m) := by
  unfold KN
  rw [put_keys]
  split
  · exact h
  · rename_i c
    rw [List.nodup_append]
    refine ⟨h, by simp, fun a ha b hb e => ?_⟩
    rw [List.mem_singleton] at hb
    subst e hb
    obtain ⟨q, hq, e⟩ := List.mem_map.mp ha
    have : look l a = none := by
      cases z : look l a with
      | none => rfl
      | some i => rw [z] at c; simp at c
    exact look_none.mp this q hq e
theorem KN.drop {l : Rws} (h : KN l) (s : Str) : KN (dropS l s) := by
  unfold KN dropS
  exact List.Sublist.nodup (List.Sublist.map _ List.filter_sublist) h
theorem look_drop (l : Rws) (s t : Str) : look (dropS l s) t = if t = s then none else look l t := by
  by_cases e : t = s
  · subst e
    rw [if_pos rfl, look_none]
    intro q hq
    have := (List.mem_filter.mp hq).2
    simpa using this
  · rw [if_neg e]
    unfold look dropS
    rw [List.find?_filter]
    congr 2
    funext q
    by_cases c : q.1 = t
    · have : ¬ q.1 = s := fun z => e (c.symm.trans z)
      simp [c, e]
    · simp [c]
theorem drop_len (l : Rws) (s : Str) : (dropS l s).length ≤ l.length := List.length_filter_le _ _
/-- the least of each place -/
theorem lstep_kn {d : Rws} (h : KN d) (q : Str × Int) : KN (lstep d q) := h.put _ _
theorem lfold_kn : ∀ (R d : Rws), KN d → KN (R.foldl lstep d)
  | [], _, h => h
  | q :: R, d, h => lfold_kn R _ (lstep_kn h q)
theorem lmin_kn (R : Rws) : KN (lmin R) := lfold_kn R [] (by simp [KN])
theorem lfold_mem : ∀ (R d : Rws) (p : Str) (m : Int), look (R.foldl lstep d) p = some m → look d p = some m ∨ (p, m) ∈ R
  | [], d, p, m, h => .inl h
  | q :: R, d, p, m, h => by
    rcases lfold_mem R (lstep d q) p m h with h | h
    · unfold lstep at h
      rw [look_put] at h
      by_cases e : p = q.1
      · rw [if_pos e] at h
        have h' := Option.some.inj h
        subst e
        cases z : look d q.1 with
        | none =>
          rw [z] at h'
          simp at h'
          right
          rw [← h']
          exact List.mem_cons_self
        | some k =>
          rw [z] at h'
          simp only [Option.getD_some] at h'
          split at h'
          · left; rw [h']
          · right; rw [← h']; exact List.mem_cons_self
      · rw [if_neg e] at h
        exact .inl h
    · exact .inr (List.mem_cons_of_mem _ h)
theorem lmin_mem {R : Rws} {p : Str} {m : Int} (h : look (lmin R) p = some m) : (p, m) ∈ R := by
  rcases lfold_mem R [] p m h with h | h
  · simp [look] at h
  · exact h
/-! ### the program's way to the fire -/
def startStep (B : Rws) (d : Rws) (q : Str × Int) : Rws := if okB B q.1 q.2 = true then putS d q.1 q.2 else d
def start0 (S B : Rws) : Rws := (lmin S).foldl (startStep B) []
theorem start_fold (B : Rws) : ∀ (l d : Rws), KN l → KN d → (∀ q ∈ l, look d q.1 = none) → KN (l.foldl (startStep B) d) ∧ ∀ p t, look (l.foldl (startStep B) d) p = some t ↔ look d p = some t ∨ ((p, t) ∈ l ∧ okB B p t = true)
  | [], d, _, hd, _ => ⟨hd, fun p t => by simp⟩
  | q :: l, d, hl, hd, hn => by
    unfold KN at hl
    rw [List.map_cons, List.nodup_cons] at hl
    have hq := hn q List.mem_cons_self
    have hd2 : KN (startStep B d q) := by
      unfold startStep
      split
      · exact hd.put _ _
      · exact hd
    have hn2 : ∀ r ∈ l, look (startStep B d q) r.1 = none := fun r hr => by
      have ne : ¬ r.1 = q.1 := fun e => hl.1 (List.mem_map.mpr ⟨r, hr, e⟩)
      unfold startStep
      split
      · rw [look_put, if_neg ne]
        exact hn r (List.mem_cons_of_mem _ hr)
      · exact hn r (List.mem_cons_of_mem _ hr)
    obtain ⟨h1, h2⟩ := start_fold B l (startStep B d q) hl.2 hd2 hn2
    refine ⟨h1, fun p t => ?_⟩
    rw [List.foldl_cons, h2]
    have e : look (startStep B d q) p = some t ↔ look d p = some t ∨ ((p, t) = q ∧ okB B p t = true) := by
      unfold startStep
      by_cases c : okB B q.1 q.2 = true
      · rw [if_pos c, look_put]
        by_cases e : p = q.1
        · subst e
          rw [if_pos rfl, hq]
          constructor
          · intro h
            have := Option.some.inj h
            subst this
            exact .inr ⟨rfl, c⟩
          · rintro (h | ⟨h, _⟩)
            · cases h
            · rw [← h]
        · rw [if_neg e]
          constructor
          · exact .inl
          · rintro (h | ⟨h, _⟩)
            · exact h
            · rw [← h] at e; exact absurd rfl e
      · rw [if_neg c]
        constructor
        · exact .inl
        · rintro (h | ⟨h, hc⟩)
          · exact h
          · rw [← h] at c; exact absurd hc c
    rw [e]
    constructor
    · rintro ((h | ⟨h, hc⟩) | ⟨h, hc⟩)
      · exact .inl h
      · exact .inr ⟨by rw [h]; exact List.mem_cons_self, hc⟩
      · exact .inr ⟨List.mem_cons_of_mem _ h, hc⟩
    · rintro (h | ⟨h, hc⟩)
      · exact .inl (.inl h)
      · rcases List.mem_cons.mp h with h | h
        · exact .inl (.inr ⟨h, hc⟩)
        · exact .inr ⟨h, hc⟩
theorem start0_kn (S B : Rws) : KN (start0 S B) := (start_fold B (lmin S) [] (lmin_kn S) (by simp [KN]) (fun _ _ => by simp [look])).1
theorem start0_iff {S B : Rws} {p : Str} {t : Int} : look (start0 S B) p = some t ↔ look (lmin S) p = some t ∧ okB B p t = true := by
  rw [start0, (start_fold B (lmin S) [] (lmin_kn S) (by simp [KN]) (fun _ _ => by simp [look])).2]
  constructor
  · rintro (h | ⟨h, hc⟩)
    · simp [look] at h
    · exact ⟨mem_look (lmin_kn S) h, hc⟩
  · rintro ⟨h, hc⟩
    exact .inr ⟨look_mem h, hc⟩
/-- the fire runs along a link from a place that was just found -/
def relax (L : Ld) (W : Wea) (B : Rws) (sd : Bool) (fd : Rws) (place : Str) (minute : Int) (wt : Rws) (l : Lnk) : Rws :=
  match (if l.one = place ∧ look fd l.other = none then pass L W sd l minute else none) with
  | none => wt
  | some e => if okB B l.other e = true then putS wt l.other (if (look wt l.other).getD e < e then (look wt l.other).getD e else e) else wt
section
variable {L : Ld} {W : Wea} {S B : Rws} {sd : Bool} {fd : Rws} {place : Str} {minute : Int}
theorem relax_kn {wt : Rws} (h : KN wt) (l : Lnk) : KN (relax L W B sd fd place minute wt l) := by
  unfold relax
  split
  · exact h
  · split
    · exact h.put _ _
    · exact h
theorem relax_len (wt : Rws) (l : Lnk) : (relax L W B sd fd place minute wt l).length ≤ wt.length + 1 := by
  unfold relax
  split
  · omega
  · split
    · exact putS_len _ _ _
    · omega
theorem relax_keep {wt : Rws} {p : Str} {u : Int} (l : Lnk) (h : look wt p = some u) : ∃ u', look (relax L W B sd fd place minute wt l) p = some u' ∧ u' ≤ u := by
  unfold relax
  split
  · exact ⟨u, h, Int.le_refl _⟩
  · split
    · rename_i e _ _
      rw [look_put]
      by_cases c : p = l.other
      · subst c
        rw [if_pos rfl, h]
        refine ⟨_, rfl, ?_⟩
        simp only [Option.getD_some]
        split <;> omega
      · rw [if_neg c]
        exact ⟨u, h, Int.le_refl _⟩
    · exact ⟨u, h, Int.le_refl _⟩
theorem relax_from {wt : Rws} {p : Str} {u : Int} (l : Lnk) (h : look (relax L W B sd fd place minute wt l) p = some u) : look wt p = some u ∨ (l.one = place ∧ l.other = p ∧ pass L W sd l minute = some u ∧ okB B p u = true ∧ look fd p = none) := by
  unfold relax at h
  split at h
  · exact .inl h
  · rename_i e he
    split at he
    · rename_i hc
      split at h
      · rename_i ho
        rw [look_put] at h
        by_cases c : p = l.other
        · subst c
          rw [if_pos rfl] at h
          have h' := Option.some.inj h
          cases z : look wt l.other with
          | none =>
            rw [z] at h'
            simp at h'
            subst h'
            exact .inr ⟨hc.1, rfl, he, ho, hc.2⟩
          | some k =>
            rw [z] at h'
            simp only [Option.getD_some] at h'
            split at h'
            · left; rw [h']
            · subst h'
              exact .inr ⟨hc.1, rfl, he, ho, hc.2⟩
        · rw [if_neg c] at h
          exact .inl h
      · exact .inl h
    · cases he
theorem relax_to {wt : Rws} {e : Int} (l : Lnk) (h1 : l.one = place) (h2 : look fd l.other = none) (h3 : pass L W sd l minute = some e) (h4 : okB B l.other e = true) : ∃ u, look (relax L W B sd fd place minute wt l) l.other = some u ∧ u ≤ e := by
  unfold relax
  rw [if_pos ⟨h1, h2⟩, h3]
  show ∃ u, look (if okB B l.other e = true then _ else _) _ = some u ∧ u ≤ e
  rw [if_pos h4, look_put, if_pos rfl]
  refine ⟨_, rfl, ?_⟩
  split <;> omega
theorem relaxs : ∀ (ls : List Lnk) (wt : Rws), KN wt → KN (ls.foldl (relax L W B sd fd place minute) wt) ∧ (ls.foldl (relax L W B sd fd place minute) wt).length ≤ wt.length + ls.length ∧
    (∀ p u, look wt p = some u → ∃ u', look (ls.foldl (relax L W B sd fd place minute) wt) p = some u' ∧ u' ≤ u) ∧
    (∀ p u, look (ls.foldl (relax L W B sd fd place minute) wt) p = some u → look wt p = some u ∨ ∃ l ∈ ls, l.one = place ∧ l.other = p ∧ pass L W sd l minute = some u ∧ okB B p u = true ∧ look fd p = none) ∧
    (∀ l ∈ ls, l.one = place → look fd l.other = none → ∀ e, pass L W sd l minute = some e → okB B l.other e = true → ∃ u, look (ls.foldl (relax L W B sd fd place minute) wt) l.other = some u ∧ u ≤ e)
  | [], wt, h => ⟨h, by simp, fun p u q => ⟨u, q, Int.le_refl _⟩, fun p u q => .inl q, fun l hl => by cases hl⟩
  | l :: ls, wt, h => by
    obtain ⟨k1, k2, k3, k4, k5⟩ := relaxs ls (relax L W B sd fd place minute wt l) (relax_kn h l)
    have hl := relax_len (L := L) (W := W) (B := B) (sd := sd) (fd := fd) (place := place) (minute := minute) wt l
    refine ⟨k1, by simp only [List.foldl_cons, List.length_cons] at k2 ⊢; omega, fun p u q => ?_, fun p u q => ?_, fun l2 hl2 h1 h2 e h3 h4 => ?_⟩
    · obtain ⟨u1, q1, le1⟩ := relax_keep l q
      obtain ⟨u2, q2, le2⟩ := k3 p u1 q1
      exact ⟨u2, q2, by omega⟩
    · rcases k4 p u q with q | ⟨l2, hl2, r⟩
      · rcases relax_from l q with q | r
        · exact .inl q
        · exact .inr ⟨l, List.mem_cons_self, r⟩
      · exact .inr ⟨l2, List.mem_cons_of_mem _ hl2, r⟩
    · rcases List.mem_cons.mp hl2 with e2 | hl2
      · subst e2
        obtain ⟨u1, q1, le1⟩ := relax_to (wt := wt) l2 h1 h2 h3 h4
        obtain ⟨u2, q2, le2⟩ := k3 _ u1 q1
        exact ⟨u2, q2, by omega⟩
      · exact k5 l2 hl2 h1 h2 e h3 h4
end
/-- what holds at each turn -/
structure DI (L : Ld) (W : Wea) (S B : Rws) (sd : Bool) (wt fd : Rws) : Prop where
  wk : KN wt
  f : ∀ p t, look fd p = some t → 0 ≤ t ∧ okB B p t = true ∧ p ∈ L.places ∧ (look (lmin S) p = some t ∨ ∃ l ∈ L.links, l.other = p ∧ ∃ m, look fd l.one = some m ∧ pass L W sd l m = some t)
  w : ∀ p t, look wt p = some t → 0 ≤ t ∧ okB B p t = true ∧ p ∈ L.places ∧ (look (lmin S) p = some t ∨ ∃ l ∈ L.links, l.other = p ∧ ∃ m, look fd l.one = some m ∧ pass L W sd l m = some t)
  ord : ∀ p t q u, look fd p = some t → look wt q = some u → t ≤ u
  dis : ∀ p t, look fd p = some t → look wt p = none
  src : ∀ p m, look (lmin S) p = some m → okB B p m = true → (∃ t, look fd p = some t ∧ t ≤ m) ∨ ∃ t, look wt p = some t ∧ t ≤ m
  lnk : ∀ l ∈ L.links, ∀ m e, look fd l.one = some m → pass L W sd l m = some e → okB B l.other e = true → (∃ t, look fd l.other = some t ∧ t ≤ e) ∨ ∃ t, look wt l.other = some t ∧ t ≤ e
/-- what a question must be like -/
structure QOk (L : Ld) (W : Wea) (S : Rws) : Prop where
  asc : W.Pairwise fun a b => a.1 < b.1
  lk : LkOk L
  le : ∀ l ∈ L.links, l.other ∈ L.places
  s : ∀ q ∈ S, q.1 ∈ L.places ∧ 0 ≤ q.2
section
variable {L : Ld} {W : Wea} {S B : Rws} {sd : Bool} {wt fd : Rws}
theorem DI.start (h : QOk L W S) : DI L W S B sd (start0 S B) [] where
  wk := start0_kn S B
  f := fun p t q => by simp [look] at q
  w := fun p t q => by
    obtain ⟨q1, q2⟩ := start0_iff.mp q
    obtain ⟨h1, h2⟩ := h.s _ (lmin_mem q1)
    exact ⟨h2, q2, h1, .inl q1⟩
  ord := fun p t q u x => by simp [look] at x
  dis := fun p t x => by simp [look] at x
  src := fun p m q1 q2 => .inr ⟨m, start0_iff.mpr ⟨q1, q2⟩, Int.le_refl _⟩
  lnk := fun l _ m e x => by simp [look] at x
theorem DI.fire (h : DI L W S B sd wt fd) (e : ∀ p, look wt p = none) : IsFire L W S B sd (look fd) where
  pos := fun p n q => (h.f p n q).1
  src := fun p m q1 q2 => by
    rcases h.src p m q1 q2 with r | ⟨t, ht, _⟩
    · exact r
    · rw [e p] at ht; cases ht
  lnk := fun l hl m e' q1 q2 q3 => by
    rcases h.lnk l hl m e' q1 q2 q3 with r | ⟨t, ht, _⟩
    · exact r
    · rw [e l.other] at ht; cases ht
  sup := fun p n q => ⟨(h.f p n q).2.1, (h.f p n q).2.2.2⟩
theorem DI.step (hq : QOk L W S) (h : DI L W S B sd wt fd) {place : Str} {minute : Int} (hp : look wt place = some minute) (hm : ∀ q u, look wt q = some u → minute ≤ u) :
    DI L W S B sd (L.links.foldl (relax L W B sd (putS fd place minute) place minute) (dropS wt place)) (putS fd place minute) := by
  obtain ⟨k1, k2, k3, k4, k5⟩ := relaxs (L := L) (W := W) (B := B) (sd := sd) (fd := putS fd place minute) (place := place) (minute := minute) L.links (dropS wt place) (h.wk.drop place)
  obtain ⟨p0, p1, p2, p3⟩ := h.w place minute hp
  have hfp : look fd place = none := by
    cases z : look fd place with
    | none => rfl
    | some t =>
      have := h.dis place t z
      rw [hp] at this
      cases this
  have up : ∀ q t, look fd q = some t → look (putS fd place minute) q = some t := fun q t z => by
    rw [look_put, if_neg (fun e => by rw [e, hfp] at z; cases z)]
    exact z
  have me : look (putS fd place minute) place = some minute := by rw [look_put, if_pos rfl]
  have sup : ∀ p t, (look (lmin S) p = some t ∨ ∃ l ∈ L.links, l.other = p ∧ ∃ m, look fd l.one = some m ∧ pass L W sd l m = some t) → (look (lmin S) p = some t ∨ ∃ l ∈ L.links, l.other = p ∧ ∃ m, look (putS fd place minute) l.one = some m ∧ pass L W sd l m = some t) := fun p t z => by
    rcases z with z | ⟨l, hl, e, m, h1, h2⟩
    · exact .inl z
    · exact .inr ⟨l, hl, e, m, up _ _ h1, h2⟩
  have fle : ∀ q t, look (putS fd place minute) q = some t → t ≤ minute := fun q t z => by
    rw [look_put] at z
    split at z
    · have := Option.some.inj z; omega
    · exact h.ord q t place minute z hp
  have wold : ∀ q u, look (dropS wt place) q = some u → q ≠ place ∧ look wt q = some u := fun q u z => by
    rw [look_drop] at z
    split at z
    · cases z
    · rename_i c; exact ⟨c, z⟩
  have wge : ∀ q u, look (L.links.foldl (relax L W B sd (putS fd place minute) place minute) (dropS wt place)) q = some u → minute ≤ u ∧ look (putS fd place minute) q = none := fun q u z => by
    rcases k4 q u z with z | ⟨l, hl, r1, r2, r3, r4, r5⟩
    · obtain ⟨c, z⟩ := wold q u z
      refine ⟨hm q u z, ?_⟩
      rw [look_put, if_neg c]
      cases y : look fd q with
      | none => rfl
      | some t =>
        have := h.dis q t y
        rw [z] at this
        cases this
    · have := pass_gt hq.lk hl r3
      exact ⟨by omega, r5⟩
  have keepw : ∀ p m, ((∃ t, look fd p = some t ∧ t ≤ m) ∨ ∃ t, look wt p = some t ∧ t ≤ m) → (∃ t, look (putS fd place minute) p = some t ∧ t ≤ m) ∨ ∃ t, look (L.links.foldl (relax L W B sd (putS fd place minute) place minute) (dropS wt place)) p = some t ∧ t ≤ m := fun p m z => by
    rcases z with ⟨t, z, le⟩ | ⟨t, z, le⟩
    · exact .inl ⟨t, up _ _ z, le⟩
    · by_cases c : p = place
      · subst c
        rw [hp] at z
        cases z
        exact .inl ⟨minute, me, le⟩
      · have : look (dropS wt place) p = some t := by rw [look_drop, if_neg c]; exact z
        obtain ⟨u, hu, hle⟩ := k3 p t this
        exact .inr ⟨u, hu, by omega⟩
  refine ⟨k1, fun p t z => ?_, fun p t z => ?_, fun p t q u z1 z2 => ?_, fun p t z => ?_, fun p m z1 z2 => keepw p m (h.src p m z1 z2), fun l hl m e z1 z2 z3 => ?_⟩
  · rw [look_put] at z
    split at z
    · rename_i c
      subst c
      have := Option.some.inj z
      subst this
      exact ⟨p0, p1, p2, sup _ _ p3⟩
    · obtain ⟨a0, a1, a2, a3⟩ := h.f p t z
      exact ⟨a0, a1, a2, sup _ _ a3⟩
  · rcases k4 p t z with z | ⟨l, hl, r1, r2, r3, r4, r5⟩
    · obtain ⟨c, z⟩ := wold p t z
      obtain ⟨a0, a1, a2, a3⟩ := h.w p t z
      exact ⟨a0, a1, a2, sup _ _ a3⟩
    · have hgt := pass_gt hq.lk hl r3
      refine ⟨by omega, r4, by rw [← r2]; exact hq.le l hl, .inr ⟨l, hl, r2, minute, by rw [r1]; exact me, r3⟩⟩
  · have := fle p t z1
    have := (wge q u z2).1
    omega
  · cases y : look (L.links.foldl (relax L W B sd (putS fd place minute) place minute) (dropS wt place)) p with
    | none => rfl
    | some u =>
      have := (wge p u y).2
      rw [z] at this
      cases this
  · rw [look_put] at z1
    split at z1
    · rename_i c
      have := Option.some.inj z1
      subst this
      have hgt := pass_gt hq.lk hl z2
      cases y : look (putS fd place minute) l.other with
      | none => exact .inr (k5 l hl c y e z2 z3)
      | some t =>
        have := fle _ _ y
        exact .inl ⟨t, rfl, by omega⟩
    · exact keepw _ _ (h.lnk l hl m e z1 z2 z3)
/-- the places that are not found yet -/
def cntF (L : Ld) (fd : Rws) : Nat := (L.places.filter fun p => (look fd p).isNone).length
theorem filter_lt {α : Type} {p q : α → Bool} : ∀ {l : List α} {a : α}, a ∈ l → p a = false → q a = true → (∀ b, p b = true → q b = true) → (l.filter p).length < (l.filter q).length
  | [], _, h, _, _, _ => by cases h
  | x :: l, a, h, h1, h2, h3 => by
    have mono : (l.filter p).length ≤ (l.filter q).length := by
      clear h
      induction l with
      | nil => simp
      | cons y l ih =>
        by_cases c : p y = true
        · simp [c, h3 y c]; exact ih
        · by_cases d : q y = true
          · simp [c, d]; omega
          · simp [c, d]; exact ih
    rcases List.mem_cons.mp h with e | h
    · subst e
      simp [h1, h2]
      omega
    · have ih := filter_lt h h1 h2 h3
      by_cases c : p x = true
      · simp [c, h3 x c]; exact ih
      · by_cases d : q x = true
        · simp [c, d]; omega
        · simp [c, d]; exact ih
theorem cntF_put {place : Str} {minute : Int} (h1 : place ∈ L.places) (h2 : look fd place = none) : cntF L (putS fd place minute) < cntF L fd := by
  unfold cntF
  refine filter_lt h1 (by rw [look_put, if_pos rfl]; rfl) (by rw [h2]; rfl) fun b hb => ?_
  rw [look_put] at hb
  split at hb
  · cases hb
  · exact hb
theorem DI.less (h : DI L W S B sd wt fd) {place : Str} {minute : Int} (hp : look wt place = some minute) : cntF L (putS fd place minute) < cntF L fd := by
  refine cntF_put (h.w place minute hp).2.2.1 ?_
  cases z : look fd place with
  | none => rfl
  | some t =>
    have := h.dis place t z
    rw [hp] at this
    cases this
theorem least_of : ∀ (l : Rws), l ≠ [] → ∃ q ∈ l, ∀ r ∈ l, q.2 ≤ r.2
  | [], h => absurd rfl h
  | [q], _ => ⟨q, by simp, by simp⟩
  | q :: r :: l, _ => by
    obtain ⟨x, hx, hle⟩ := least_of (r :: l) (by simp)
    by_cases c : q.2 ≤ x.2
    · exact ⟨q, by simp, fun y hy => by
        rcases List.mem_cons.mp hy with e | hy
        · rw [e]; exact Int.le_refl _
        · have := hle y hy; omega⟩
    · exact ⟨x, List.mem_cons_of_mem _ hx, fun y hy => by
        rcases List.mem_cons.mp hy with e | hy
        · rw [e]; omega
        · exact hle y hy⟩
theorem DI.ends (hq : QOk L W S) : ∀ (k : Nat) (wt fd : Rws), DI L W S B sd wt fd → cntF L fd < k → ∃ f, IsFire L W S B sd f
  | 0, _, _, _, h => by omega
  | k + 1, wt, fd, h, hk => by
    by_cases e : wt = []
    · subst e
      exact ⟨_, h.fire fun p => by simp [look]⟩
    · obtain ⟨⟨p, m⟩, hm, hle⟩ := least_of wt e
      have hp := mem_look h.wk hm
      have := h.less hp
      exact DI.ends hq k _ _ (h.step hq hp fun q u z => hle _ (look_mem z)) (by omega)
theorem fire_is (hq : QOk L W S) : IsFire L W S B sd (fire L W S B sd) := by
  have h := DI.ends (B := B) (sd := sd) hq _ _ _ (DI.start hq) (Nat.lt_succ_self _)
  unfold fire
  rw [dif_pos h]
  exact Classical.choose_spec h
theorem fire_is_eq (hq : QOk L W S) {f : Str → Option Int} (F : IsFire L W S B sd f) : f = fire L W S B sd := (fire_eq hq.asc hq.lk F).symm
end
end EF
set_option maxHeartbeats 4000000
namespace EF
open PySem PySem.Spec PyProof.Rows L2 Evl
/-! ### the law's way to the fire -/
def lessB : Option Int → Int → Bool
  | none, _ => true
  | some u, m => decide (m < u)
def bput (d : Rws) (p : Str) (m : Int) : Rws := if lessB (look d p) m = true then putS d p m else d
def sstep (B : Rws) (d : Rws) (q : Str × Int) : Rws := if okB B q.1 q.2 = true then bput d q.1 q.2 else d
def rstep (L : Ld) (W : Wea) (B : Rws) (sd : Bool) (d : Rws) (l : Lnk) : Rws := match look d l.one with
  | none => d
  | some m => match pass L W sd l m with
    | none => d
    | some e => if okB B l.other e = true then bput d l.other e else d
def lawStart (S B : Rws) : Rws := S.foldl (sstep B) []
def lawRound (L : Ld) (W : Wea) (B : Rws) (sd : Bool) (d : Rws) : Rws := L.links.foldl (rstep L W B sd) d
def lawN (L : Ld) (W : Wea) (B : Rws) (sd : Bool) : Nat → Rws → Rws
  | 0, d => d
  | k + 1, d => lawRound L W B sd (lawN L W B sd k d)
theorem bput_len (d : Rws) (p : Str) (m : Int) : (bput d p m).length ≤ d.length + 1 := by
  unfold bput
  split
  · exact putS_len _ _ _
  · omega
theorem bput_keep {d : Rws} {q : Str} {t : Int} (p : Str) (m : Int) (h : look d q = some t) : ∃ t', look (bput d p m) q = some t' ∧ t' ≤ t := by
  unfold bput
  split
  · rename_i c
    rw [look_put]
    by_cases e : q = p
    · subst e
      rw [h] at c
      have : m < t := of_decide_eq_true c
      rw [if_pos rfl]
      exact ⟨m, rfl, by omega⟩
    · rw [if_neg e]
      exact ⟨t, h, Int.le_refl _⟩
  · exact ⟨t, h, Int.le_refl _⟩
theorem bput_from {d : Rws} {p q : Str} {m t : Int} (h : look (bput d p m) q = some t) : look d q = some t ∨ (q = p ∧ t = m) := by
  unfold bput at h
  split at h
  · rw [look_put] at h
    by_cases e : q = p
    · rw [if_pos e] at h
      exact .inr ⟨e, (Option.some.inj h).symm⟩
    · rw [if_neg e] at h
      exact .inl h
  · exact .inl h
theorem bput_to (d : Rws) (p : Str) (m : Int) : ∃ t, look (bput d p m) p = some t ∧ t ≤ m := by
  unfold bput
  split
  · rw [look_put, if_pos rfl]
    exact ⟨m, rfl, Int.le_refl _⟩
  · rename_i c
    cases q : look d p with
    | none => rw [q] at c; exact absurd rfl c
    | some u =>
      rw [q] at c
      have : ¬ m < u := fun z => c (decide_eq_true z)
      exact ⟨u, rfl, by omega⟩
section
variable {L : Ld} {W : Wea} {S B : Rws} {sd : Bool}
theorem sstep_keep {d : Rws} {p : Str} {t : Int} (q : Str × Int) (h : look d p = some t) : ∃ t', look (sstep B d q) p = some t' ∧ t' ≤ t := by
  unfold sstep
  split
  · exact bput_keep _ _ h
  · exact ⟨t, h, Int.le_refl _⟩
theorem sfold_keep : ∀ (R d : Rws) {p : Str} {t : Int}, look d p = some t → ∃ t', look (R.foldl (sstep B) d) p = some t' ∧ t' ≤ t
  | [], d, p, t, h => ⟨t, h, Int.le_refl _⟩
  | q :: R, d, p, t, h => by
    obtain ⟨t1, h1, l1⟩ := sstep_keep (B := B) q h
    obtain ⟨t2, h2, l2⟩ := sfold_keep R _ h1
    exact ⟨t2, h2, by omega⟩
theorem sfold_from : ∀ (R d : Rws) {p : Str} {t : Int}, look (R.foldl (sstep B) d) p = some t → look d p = some t ∨ ((p, t) ∈ R ∧ okB B p t = true)
  | [], d, p, t, h => .inl h
  | q :: R, d, p, t, h => by
    rcases sfold_from R (sstep B d q) h with h | ⟨h, c⟩
    · unfold sstep at h
      split at h
      · rename_i c
        rcases bput_from h with h | ⟨e1, e2⟩
        · exact .inl h
        · subst e1 e2
          exact .inr ⟨List.mem_cons_self, c⟩
      · exact .inl h
    · exact .inr ⟨List.mem_cons_of_mem _ h, c⟩
theorem sfold_to : ∀ (R d : Rws) {p : Str} {m : Int}, (p, m) ∈ R → okB B p m = true → ∃ t, look (R.foldl (sstep B) d) p = some t ∧ t ≤ m
  | [], d, p, m, h, _ => by cases h
  | q :: R, d, p, m, h, c => by
    rcases List.mem_cons.mp h with e | h
    · subst e
      have : sstep B d (p, m) = bput d p m := by unfold sstep; rw [if_pos c]
      obtain ⟨t, h1, l1⟩ := bput_to d p m
      rw [List.foldl_cons, this]
      obtain ⟨t2, h2, l2⟩ := sfold_keep (B := B) R _ h1
      exact ⟨t2, h2, by omega⟩
    · exact sfold_to R _ h c
theorem lfold_keep : ∀ (R d : Rws) {p : Str} {t : Int}, look d p = some t → ∃ t', look (R.foldl lstep d) p = some t' ∧ t' ≤ t
  | [], d, p, t, h => ⟨t, h, Int.le_refl _⟩
  | q :: R, d, p, t, h => by
    have : ∃ t', look (lstep d q) p = some t' ∧ t' ≤ t := by
      unfold lstep
      rw [look_put]
      by_cases e : p = q.1
      · subst e
        rw [if_pos rfl, h]
        refine ⟨_, rfl, ?_⟩
        simp only [Option.getD_some]
        split <;> omega
      · rw [if_neg e]
        exact ⟨t, h, Int.le_refl _⟩
    obtain ⟨t1, h1, l1⟩ := this
    obtain ⟨t2, h2, l2⟩ := lfold_keep R _ h1
    exact ⟨t2, h2, by omega⟩
theorem lfold_to : ∀ (R d : Rws) {p : Str} {m : Int}, (p, m) ∈ R → ∃ t, look (R.foldl lstep d) p = some t ∧ t ≤ m
  | [], d, p, m, h => by cases h
  | q :: R, d, p, m, h => by
    rcases List.mem_cons.mp h with e | h
    · subst e
      have : ∃ t', look (lstep d (p, m)) p = some t' ∧ t' ≤ m := by
        unfold lstep
        rw [look_put, if_pos rfl]
        refine ⟨_, rfl, ?_⟩
        simp only
        split <;> omega
      obtain ⟨t1, h1, l1⟩ := this
      obtain ⟨t2, h2, l2⟩ := lfold_keep R _ h1
      exact ⟨t2, h2, by omega⟩
    · exact lfold_to R _ h
/-- nothing is told to burn before it does; what starts is told -/
structure LI (L : Ld) (W : Wea) (S B : Rws) (sd : Bool) (F : Str → Option Int) (d : Rws) : Prop where
  j : ∀ p t, look d p = some t → ∃ n, F p = some n ∧ n ≤ t
  s : ∀ p m, look (lmin S) p = some m → okB B p m = true → ∃ t, look d p = some t ∧ t ≤ m
theorem LI.start {F : Str → Option Int} (hF : IsFire L W S B sd F) : LI L W S B sd F (lawStart S B) where
  j := fun p t h => by
    rcases sfold_from S [] h with h | ⟨h, c⟩
    · simp [look] at h
    · obtain ⟨m, hm, le⟩ := lfold_to S [] h
      obtain ⟨n, hn, le2⟩ := hF.src p m hm (okB_le c le)
      exact ⟨n, hn, by omega⟩
  s := fun p m h c => sfold_to S [] (lmin_mem h) c
theorem LI.settled {F : Str → Option Int} {d : Rws} (h : LI L W S B sd F d) {p : Str} {n : Int} (hn : F p = some n) (hd : ∃ t, look d p = some t ∧ t ≤ n) : look d p = F p := by
  obtain ⟨t, ht, le⟩ := hd
  obtain ⟨n', hn', le'⟩ := h.j p t ht
  rw [hn] at hn'
  have := Option.some.inj hn'
  rw [ht, hn]
  congr 1
  omega
theorem LI.bput {F : Str → Option Int} {d : Rws} (h : LI L W S B sd F d) {p : Str} {m : Int} (hp : ∃ n, F p = some n ∧ n ≤ m) : LI L W S B sd F (bput d p m) where
  j := fun q t hq => by
    rcases bput_from hq with hq | ⟨e1, e2⟩
    · exact h.j q t hq
    · rw [e1, e2]; exact hp
  s := fun q k h1 h2 => by
    obtain ⟨t, ht, le⟩ := h.s q k h1 h2
    obtain ⟨t', ht', le'⟩ := bput_keep p m ht
    exact ⟨t', ht', by omega⟩
theorem rstep_len (d : Rws) (l : Lnk) : (rstep L W B sd d l).length ≤ d.length + 1 := by
  unfold rstep
  split
  · omega
  · split
    · omega
    · split
      · exact bput_len _ _ _
      · omega
theorem rstep_keep {d : Rws} {p : Str} {t : Int} (l : Lnk) (h : look d p = some t) : ∃ t', look (rstep L W B sd d l) p = some t' ∧ t' ≤ t := by
  unfold rstep
  split
  · exact ⟨t, h, Int.le_refl _⟩
  · split
    · exact ⟨t, h, Int.le_refl _⟩
    · split
      · exact bput_keep _ _ h
      · exact ⟨t, h, Int.le_refl _⟩
theorem LI.rstep (hq : QOk L W S) {F : Str → Option Int} (hF : IsFire L W S B sd F) {d : Rws} (h : LI L W S B sd F d) {l : Lnk} (hl : l ∈ L.links) : LI L W S B sd F (rstep L W B sd d l) := by
  unfold EF.rstep
  split
  · exact h
  · rename_i m hm
    split
    · exact h
    · rename_i e he
      split
      · rename_i c
        obtain ⟨n, hn, le⟩ := h.j _ _ hm
        obtain ⟨e', he', le'⟩ := through_mono hq.asc le he
        obtain ⟨u, hu, le2⟩ := hF.lnk l hl n e' hn he' (okB_le c le')
        exact h.bput ⟨u, hu, by omega⟩
      · exact h
theorem rfold_len : ∀ (ls : List Lnk) (d : Rws), (ls.foldl (EF.rstep L W B sd) d).length ≤ d.length + ls.length
  | [], d => by simp
  | l :: ls, d => by
    have h1 := rfold_len ls (EF.rstep L W B sd d l)
    have h2 := rstep_len (L := L) (W := W) (B := B) (sd := sd) d l
    simp only [List.foldl_cons, List.length_cons]
    omega
theorem rfold_keep : ∀ (ls : List Lnk) (d : Rws) {p : Str} {t : Int}, look d p = some t → ∃ t', look (ls.foldl (EF.rstep L W B sd) d) p = some t' ∧ t' ≤ t
  | [], d, p, t, h => ⟨t, h, Int.le_refl _⟩
  | l :: ls, d, p, t, h => by
    obtain ⟨t1, h1, l1⟩ := rstep_keep (L := L) (W := W) (B := B) (sd := sd) l h
    obtain ⟨t2, h2, l2⟩ := rfold_keep ls _ h1
    exact ⟨t2, h2, by omega⟩
theorem LI.rfold (hq : QOk L W S) {F : Str → Option Int} (hF : IsFire L W S B sd F) : ∀ (ls : List Lnk) (d : Rws), (∀ l ∈ ls, l ∈ L.links) → LI L W S B sd F d → LI L W S B sd F (ls.foldl (EF.rstep L W B sd) d)
  | [], d, _, h => h
  | l :: ls, d, hs, h => LI.rfold hq hF ls _ (fun x hx => hs x (List.mem_cons_of_mem _ hx)) (h.rstep hq hF (hs l List.mem_cons_self))
/-- a link whose place is settled settles its other end -/
theorem rfold_to (hq : QOk L W S) {F : Str → Option Int} (hF : IsFire L W S B sd F) {l : Lnk} {m n : Int} (h1 : F l.one = some m) (h2 : pass L W sd l m = some n) (h3 : F l.other = some n) : ∀ (ls : List Lnk) (d : Rws), (∀ l ∈ ls, l ∈ L.links) → LI L W S B sd F d → l ∈ ls → look d l.one = some m → ∃ t, look (ls.foldl (EF.rstep L W B sd) d) l.other = some t ∧ t ≤ n
  | [], d, _, _, h, _ => by cases h
  | x :: ls, d, hs, hd, h, ho => by
    have hs2 : ∀ y ∈ ls, y ∈ L.links := fun y hy => hs y (List.mem_cons_of_mem _ hy)
    have hd2 := hd.rstep hq hF (hs x List.mem_cons_self)
    rcases List.mem_cons.mp h with e | h
    · subst e
      have hb : EF.rstep L W B sd d l = EF.bput d l.other n := by
        unfold EF.rstep
        rw [ho]
        show (match pass L W sd l m with | none => d | some e => if okB B l.other e = true then EF.bput d l.other e else d) = _
        rw [h2]
        show (if okB B l.other n = true then EF.bput d l.other n else d) = _
        rw [if_pos (hF.sup _ _ h3).1]
      obtain ⟨t, ht, le⟩ := bput_to d l.other n
      rw [List.foldl_cons, hb]
      obtain ⟨t2, ht2, le2⟩ := rfold_keep (L := L) (W := W) (B := B) (sd := sd) ls _ ht
      exact ⟨t2, ht2, by omega⟩
    · refine rfold_to hq hF h1 h2 h3 ls _ hs2 hd2 h ?_
      have := hd2.settled h1 (by
        obtain ⟨t, ht, le⟩ := rstep_keep (L := L) (W := W) (B := B) (sd := sd) x ho
        exact ⟨t, ht, le⟩)
      rw [this, h1]
/-- places that are not told rightly yet -/
def unset (L : Ld) (F : Str → Option Int) (d : Rws) : Nat := (L.places.filter fun p => decide (look d p ≠ F p)).length
theorem least_un {F : Str → Option Int} : ∀ (l : List Str), (∀ p ∈ l, ∃ n, F p = some n) → l ≠ [] → ∃ p ∈ l, ∃ n, F p = some n ∧ ∀ q ∈ l, ∀ k, F q = some k → n ≤ k
  | [], _, h => absurd rfl h
  | [p], h, _ => by
    obtain ⟨n, hn⟩ := h p (by simp)
    refine ⟨p, by simp, n, hn, fun q hq k hk => ?_⟩
    rw [List.mem_singleton.mp hq, hn] at hk
    have := Option.some.inj hk
    omega
  | p :: r :: l, h, _ => by
    obtain ⟨x, hx, n, hn, hle⟩ := least_un (r :: l) (fun q hq => h q (List.mem_cons_of_mem _ hq)) (by simp)
    obtain ⟨m, hm⟩ := h p (by simp)
    by_cases c : m ≤ n
    · refine ⟨p, by simp, m, hm, fun q hq k hk => ?_⟩
      rcases List.mem_cons.mp hq with e | hq
      · rw [e, hm] at hk
        have := Option.some.inj hk
        omega
      · have := hle q hq k hk; omega
    · refine ⟨x, List.mem_cons_of_mem _ hx, n, hn, fun q hq k hk => ?_⟩
      rcases List.mem_cons.mp hq with e | hq
      · rw [e, hm] at hk
        have := Option.some.inj hk
        omega
      · exact hle q hq k hk
theorem unset_less (hq : QOk L W S) (hle : ∀ l ∈ L.links, l.one ∈ L.places) {F : Str → Option Int} (hF : IsFire L W S B sd F) {d : Rws} (h : LI L W S B sd F d) (hu : unset L F d ≠ 0) : unset L F (lawRound L W B sd d) < unset L F d := by
  have hU : (L.places.filter fun p => decide (look d p ≠ F p)) ≠ [] := fun e => hu (by unfold unset; rw [e]; rfl)
  have hsm : ∀ p ∈ (L.places.filter fun p => decide (look d p ≠ F p)), ∃ n, F p = some n := fun p hp => by
    have hne : look d p ≠ F p := of_decide_eq_true (List.mem_filter.mp hp).2
    cases q : F p with
    | some n => exact ⟨n, rfl⟩
    | none =>
      rw [q] at hne
      cases z : look d p with
      | none => exact absurd z hne
      | some t =>
        obtain ⟨n, hn, _⟩ := h.j p t z
        rw [q] at hn
        cases hn
  obtain ⟨p, hp, n, hn, hmin⟩ := least_un _ hsm hU
  obtain ⟨hp1, hp2⟩ := List.mem_filter.mp hp
  have hne : look d p ≠ F p := of_decide_eq_true hp2
  have hR : LI L W S B sd F (lawRound L W B sd d) := LI.rfold hq hF L.links d (fun _ x => x) h
  have settles : look (lawRound L W B sd d) p = F p := by
    obtain ⟨ho, hs | ⟨l, hl, e, m, hm, hpass⟩⟩ := hF.sup p n hn
    · exact absurd (h.settled hn (h.s p n hs ho)) hne
    · subst e
      have hgt := pass_gt hq.lk hl hpass
      have hone : look d l.one = F l.one := by
        by_cases c : look d l.one = F l.one
        · exact c
        · have := hmin l.one (List.mem_filter.mpr ⟨hle l hl, decide_eq_true c⟩) m hm
          omega
      rw [hm] at hone
      exact hR.settled hn (rfold_to hq hF hm hpass hn L.links d (fun _ x => x) h hl hone)
  refine filter_lt hp1 (by rw [settles]; simp) (decide_eq_true hne) fun q hq2 => ?_
  have hq3 : look (lawRound L W B sd d) q ≠ F q := of_decide_eq_true hq2
  refine decide_eq_true fun e => hq3 ?_
  cases z : F q with
  | none =>
    cases y : look (lawRound L W B sd d) q with
    | none => rfl
    | some t =>
      obtain ⟨n', hn', _⟩ := hR.j q t y
      rw [z] at hn'
      cases hn'
  | some k =>
    rw [z] at e
    obtain ⟨t, ht, le⟩ := rfold_keep (L := L) (W := W) (B := B) (sd := sd) L.links d e
    have := hR.settled z ⟨t, ht, le⟩
    rw [z] at this
    exact this
theorem lawN_ok (hq : QOk L W S) (hle : ∀ l ∈ L.links, l.one ∈ L.places) {F : Str → Option Int} (hF : IsFire L W S B sd F) : ∀ (k : Nat), LI L W S B sd F (lawN L W B sd k (lawStart S B)) ∧ unset L F (lawN L W B sd k (lawStart S B)) ≤ L.places.length - k
  | 0 => ⟨LI.start hF, by unfold unset; exact List.length_filter_le _ _⟩
  | k + 1 => by
    obtain ⟨h1, h2⟩ := lawN_ok hq hle hF k
    refine ⟨LI.rfold hq hF L.links _ (fun _ x => x) h1, ?_⟩
    by_cases c : unset L F (lawN L W B sd k (lawStart S B)) = 0
    · have : unset L F (lawRound L W B sd (lawN L W B sd k (lawStart S B))) = 0 := by
        -- what is told rightly stays so
        have hR := LI.rfold hq hF L.links _ (fun _ x => x) h1
        unfold unset at c ⊢
        rw [List.length_eq_zero_iff, List.filter_eq_nil_iff] at c ⊢
        intro p hp hne
        have hne' := of_decide_eq_true hne
        have hc := c p hp
        have hc' : look (lawN L W B sd k (lawStart S B)) p = F p := by simpa using hc
        apply hne'
        cases z : F p with
        | none =>
          cases y : look (lawRound L W B sd (lawN L W B sd k (lawStart S B))) p with
          | none => rfl
          | some t =>
            obtain ⟨n', hn', _⟩ := hR.j p t y
            rw [z] at hn'
            cases hn'
        | some n =>
          rw [z] at hc'
          obtain ⟨t, ht, le⟩ := rfold_keep (L := L) (W := W) (B := B) (sd := sd) L.links _ hc'
          have := hR.settled z ⟨t, ht, le⟩
          rw [z] at this
          exact this
      show unset L F (lawRound L W B sd (lawN L W B sd k (lawStart S B))) ≤ _
      omega
    · have := unset_less hq hle hF h1 c
      show unset L F (lawRound L W B sd (lawN L W B sd k (lawStart S B))) ≤ _
      omega
theorem fire_in (hq : QOk L W S) {F : Str → Option Int} (hF : IsFire L W S B sd F) {p : Str} {n : Int} (h : F p = some n) : p ∈ L.places := by
  obtain ⟨_, hs | ⟨l, hl, e, _⟩⟩ := hF.sup p n h
  · exact (hq.s _ (lmin_mem hs)).1
  · rw [← e]; exact hq.le l hl
/-- the law's rounds reach the fire -/
theorem law_fire (hq : QOk L W S) (hle : ∀ l ∈ L.links, l.one ∈ L.places) {k : Nat} (hk : L.places.length ≤ k) : look (lawN L W B sd k (lawStart S B)) = fire L W S B sd := by
  have hF := fire_is (B := B) (sd := sd) hq
  obtain ⟨h1, h2⟩ := lawN_ok hq hle hF k
  funext p
  by_cases c : p ∈ L.places
  · have h0 : unset L (fire L W S B sd) (lawN L W B sd k (lawStart S B)) = 0 := by omega
    unfold unset at h0
    rw [List.length_eq_zero_iff, List.filter_eq_nil_iff] at h0
    simpa using h0 p c
  · have hn : fire L W S B sd p = none := by
      cases z : fire L W S B sd p with
      | none => rfl
      | some n => exact absurd (fire_in hq hF z) c
    rw [hn]
    cases y : look (lawN L W B sd k (lawStart S B)) p with
    | none => rfl
    | some t =>
      obtain ⟨n, hn', _⟩ := h1.j p t y
      rw [hn] at hn'
      cases hn'
end
end EF
set_option maxHeartbeats 4000000
namespace EF
open PySem PySem.Spec PyProof.Rows L2 Evl
theorem ei_items {σ : L2.St} {H : Hp} {td : TE} {d : Addr} {o : Obj} {kvs : List (Key × V)} (h : Ev td σ H (.ref d)) (hd : H d = some (.frz o (.dK kvs))) :
    EvI (iItems td) σ H kvs.length (fun i x H' => ∃ T k v, x = .ref T ∧ H' T = some (.tup [kV k, v]) ∧ kvs[i]? = some (k, v)) :=
  fun H1 e R q => h H1 e _ fun H2 e2 => ⟨d, o, kvs, rfl, e2 _ _ (e _ _ hd), q _ H2 e2 ⟨_, _, walk_items, e2 _ _ (e _ _ hd), fun _ _ e h => e _ _ h, fun i H3 x H4 _ _ ⟨T, x1, x2, ex, n, eH, k1, k2⟩ => by
    subst eH
    have k1 : (kvs[i]?).map (fun kv => kV kv.1) = some x1 := k1
    have k2 : (kvs[i]?).map Prod.snd = some x2 := k2
    cases z : kvs[i]? with
    | none => rw [z] at k1; cases k1
    | some kv =>
      rw [z] at k1 k2
      cases k1
      cases k2
      exact ⟨Ex.new n, T, kv.1, kv.2, ex, upd_same, z⟩⟩⟩
theorem unlock_ex {H H' : Hp} {d : Addr} {u o : HO} (h : H d = some u) (e : Ex (upd H d o) H') : Ex H (upd H' d u) := fun x v hx => by
  by_cases c : x = d
  · subst c
    rw [upd_same, ← h, hx]
  · rw [upd_ne c]
    exact e _ _ (by rw [upd_ne c]; exact hx)
section
variable {σ : L2.St} {H : Hp} {tk td tm : TE} {b : Addr} {l : Rws} {p : Str}
theorem ev_dnotin (h : Ev tk σ H (.str p)) (hd : Ev td σ H (.ref b)) (hb : H b = some (.dK (mapD l))) : Ev (tDNotIn tk td) σ H (.bl (!(look l p).isSome)) := fun H1 e Q q => h H1 e _ fun H2 e2 => hd H2 (e.trans e2) _ fun H3 e3 => by
  have hg := DGet.k (k := Sum.inr p) (((e.trans e2).trans e3) _ _ hb)
  rw [valV_mapD] at hg
  refine ⟨b, _, rfl, hg, ?_⟩
  rw [show ((look l p).map V.int).isSome = (look l p).isSome by cases look l p <;> rfl]
  exact q H3 (e2.trans e3)
theorem ev_din (h : Ev tk σ H (.str p)) (hd : Ev td σ H (.ref b)) (hb : H b = some (.dK (mapD l))) : Ev (tDIn tk td) σ H (.bl (look l p).isSome) := fun H1 e Q q => h H1 e _ fun H2 e2 => hd H2 (e.trans e2) _ fun H3 e3 => by
  have hg := DGet.k (k := Sum.inr p) (((e.trans e2).trans e3) _ _ hb)
  rw [valV_mapD] at hg
  refine ⟨b, _, rfl, hg, ?_⟩
  rw [show ((look l p).map V.int).isSome = (look l p).isSome by cases look l p <;> rfl]
  exact q H3 (e2.trans e3)
theorem ev_dget {m : Int} (h : Ev tk σ H (.str p)) (hd : Ev td σ H (.ref b)) (hb : H b = some (.dK (mapD l))) (hm : look l p = some m) : Ev (tDGet td tk) σ H (.int m) := fun H1 e Q q => hd H1 e _ fun H2 e2 => h H2 (e.trans e2) _ fun H3 e3 => by
  have hg := DGet.k (k := Sum.inr p) (((e.trans e2).trans e3) _ _ hb)
  rw [valV_mapD, hm] at hg
  exact ⟨b, _, rfl, hg, q H3 (e2.trans e3)⟩
theorem et_okB {B : Rws} {m : Int} (h : Ev tk σ H (.str p)) (hd : Ev td σ H (.ref b)) (hm : Ev tm σ H (.int m)) (hb : H b = some (.dK (mapD (lmin B)))) :
    EvT (tOr (tB (tDNotIn tk td)) (tTest (tOp (rI0 fun i j => .bl (decide (i < j))) tm (tDGet td tk)))) σ H (okB B p m) := by
  unfold okB
  cases z : look (lmin B) p with
  | none =>
    refine et_is (et_or (b := false) (et_B (ev_dnotin h hd hb)) fun c => ?_) (by rw [z]; rfl)
    rw [z] at c
    cases c
  | some k =>
    refine et_is (et_or (et_B (ev_dnotin h hd hb)) fun c => et_test (ev_op hm (ev_dget h hd hb z) rv_I0)) (by rw [z]; rfl)
end
theorem startStep_len (B : Rws) (d : Rws) (q : Str × Int) : (startStep B d q).length ≤ d.length + 1 := by
  unfold startStep
  split
  · exact putS_len _ _ _
  · omega
theorem startFold_len (B : Rws) : ∀ (R d : Rws), (R.foldl (startStep B) d).length ≤ d.length + R.length
  | [], d => by simp
  | q :: R, d => by
    have h1 := startFold_len B R (startStep B d q)
    have h2 := startStep_len B d q
    simp only [List.foldl_cons, List.length_cons]
    omega
theorem mapD_at {l : Rws} {i : Nat} {k : Key} {v : V} (h : (mapD l)[i]? = some (k, v)) : ∃ r, l[i]? = some r ∧ k = Sum.inr r.1 ∧ v = .int r.2 := by
  unfold mapD at h
  rw [List.getElem?_map] at h
  cases z : l[i]? with
  | none => rw [z] at h; cases h
  | some r =>
    rw [z] at h
    cases h
    exact ⟨r, rfl, rfl, rfl⟩
theorem ep_lock {t : TE} {σ : L2.St} {H : Hp} {d : Addr} {u : HO} {P : Post} (hd : H d = some u) (mu : Mut (some u)) (h : ∀ H1, Ex H H1 → ∀ od, EvP t σ (upd H1 d (.frz od u)) (fun v H' => P v (upd H' d u))) : EvP (tLockE t) σ H P := fun H1 e Q q =>
  ⟨d, u, e _ _ hd, mu, fun od => h H1 e od _ (Ex.refl _) _ fun v H2 e2 p => ⟨e2 _ _ upd_same, q v _ (unlock_ex (e _ _ hd) e2) p⟩⟩
theorem ep_if {tc : TT} {ta tb : TE} {σ : L2.St} {H : Hp} {b : Bool} {P : Post} (hc : EvT tc σ H b) (h1 : b = true → EvP ta σ H P) (h2 : b = false → EvP tb σ H P) : EvP (tIf tc ta tb) σ H P := fun H1 e Q q => hc H1 e _ fun H2 e2 => by
  cases b with
  | true => exact iteT (h1 rfl H2 (e.trans e2) Q fun v H3 e3 p => q v H3 (e2.trans e3) p)
  | false => exact iteF (h2 rfl H2 (e.trans e2) Q fun v H3 e3 p => q v H3 (e2.trans e3) p)
theorem dict_new {l : Rws} {K : PySem.W.Frag} {H : Hp} {p : Addr} (h : H p = some (.dK (mapD l))) : TruV K (.ref p) H (!l.isEmpty) := by
  refine .inr (.inr ⟨mapD l, h, ?_⟩)
  cases l <;> rfl
theorem rv_notN {x : V} {H : Hp} : RV (fun x y H Q => y = .non ∧ Q (.bl (!decide (x = .non))) H) x .non H (.bl (!decide (x = .non))) := fun H1 _ _ q => ⟨rfl, q H1 (Ex.refl H1)⟩
theorem rv_isN {x : V} {H : Hp} : RV (fun x y H Q => y = .non ∧ Q (.bl (decide (x = .non))) H) x .non H (.bl (decide (x = .non))) := fun H1 _ _ q => ⟨rfl, q H1 (Ex.refl H1)⟩
/-- a question that can be asked -/
structure Good (L : Ld) (W : Wea) (S B : Rws) : Prop where
  lk : LdOk L
  w : WeaOk L.winds W
  s : ∀ q ∈ S, q.1 ∈ L.places ∧ 0 ≤ q.2
  sl : S.length < 1000
  bl : B.length < 1000
theorem Good.lko {L : Ld} {W : Wea} {S B : Rws} (g : Good L W S B) : LkOk L := fun l hl q hq => ⟨((g.lk.lt l hl).2 q hq).1, ((g.lk.lt l hl).2 q hq).2.1⟩
theorem Good.q {L : Ld} {W : Wea} {S B : Rws} (g : Good L W S B) : QOk L W S := ⟨g.w.asc, g.lko, fun l hl => (g.lk.le l hl).2.1, g.s⟩
section
variable {P : Program} {w : World} {K : PySem.W.Frag} {mg : Str → Option Value} {base : Heap}
def R_spread (K : PySem.W.Frag) : List V → Hp → Post → Prop := fun vs H Po => ∃ vl L vw W vs' St vb B vn sd, vs = [vl, vw, vs', vb, vn] ∧ LandV K H vl L ∧ Dt H vw (weaD W) ∧ Dt H vs' (rwsD St) ∧ Dt H vb (rwsD B) ∧ Dt H vn (numsD (numsOf sd L)) ∧ Good L W St B ∧
  Po = fun v H' => ∃ p l, v = .ref p ∧ H' p = some (.dK (mapD l)) ∧ look l = fire L W St B sd
theorem sc_spread : FnScope ["land", "weather", "starts", "breaks", "numbers", "broken", "waiting", "place", "minute", "found", "link", "row", "end"] ["land", "weather", "starts", "breaks", "numbers"] (defScope s_spread) := ⟨rfl, rfl, rfl, by decide +kernel, rfl, by decide +kernel, by decide +kernel⟩
theorem ok_spread (S : Says K mg) : Fn P w K mg base 3 "spread" ["land", "weather", "starts", "breaks", "numbers"] (spR (R_spread K)) := by
  have G_least_minutes := ok_least_minutes (P := P) (w := w) (base := base) S
  have G_caught := ok_caught (P := P) (w := w) (base := base) S
  obtain ⟨fd, F⟩ := S.def_spread
  refine ⟨⟨_, fd, S.g_spread, F.kp, F.bindsN (fun _ _ _ _ _ _ us hl => match us, hl with | [_, _, _, _, _], _ => rfl), F.ok sc_spread (fun vs H Q E h => ?_) (fun cdv A outer s H vs Q E hr h => ?_)⟩⟩
  · obtain ⟨_, ⟨_, _, _, _, _, _, _, _, _, _, rfl, _⟩, _⟩ := h
    rfl
  · obtain ⟨_, ⟨vl, L, vw, W, vs', St, vb, B, vn, sd, rfl, hL, hW, hS, hB, hN, g, rfl⟩, q⟩ := h
    have hu := hu_of hr
    have hu65 := hu65_of hr
    refine ⟨_, PSs.nox ((pss_cons (ps_set (i := 5) sc_spread.nd rfl (by first | exact Or.inl rfl | exact Or.inr rfl) (pe_fn G_least_minutes (hr.mono (by decide)) (pa_cons (pv 3) pa_nil)))
    (pss_cons (ps_set (i := 6) sc_spread.nd rfl (by first | exact Or.inl rfl | exact Or.inr rfl) pe_dnewK)
    (pss_cons (ps_for PassesOwn.never rfl (pi_items (pe_frz (pe_fn G_least_minutes (hr.mono (by decide)) (pa_cons (pv 2) pa_nil)))) (pg_tup rfl (pgs_cons (pg_name (i := 7) sc_spread.nd rfl (by first | exact Or.inl rfl | exact Or.inr rfl)) (pgs_cons (pg_name (i := 8) sc_spread.nd rfl (by first | exact Or.inl rfl | exact Or.inr rfl)) pgs_nil)))
      (pss_one (ps_if (PW.pt (pw_or (pt_cmp (pc_dnotin hu (pv 7) (pv 5)) (by rfl)) (pw_or1 (pt_cmpR op_lt (pv 8) (pe_dget hu (pv 5) (pv 7) (fun _ _ => rfl)) (nomark _))))) (pss_one (ps_dput hu (pv 6) (pv 7) (pv 8) rfl)) pss_nil)))
    (pss_cons (ps_set (i := 9) sc_spread.nd rfl (by first | exact Or.inl rfl | exact Or.inr rfl) pe_dnewK)
    (pss_cons (ps_while PassesOwn.never (pt_truth (pv 6) (by intro _; rfl))
      (pss_cons (ps_asg (pe_callB (call_minP rfl hu65) (by rfl) S.f_min (by decide +kernel) (pa_cons (pe_lock (pe_lc (own := [("place", 7), ("minute", 8)]) (g := (gTup K 2 (gCons (gName 7) (gCons (gName 8) gNil)))) (tt := tYes) (te := (tTup (tCons (tVar 8) (tCons (tVar 7) tNil)))) rfl sc_spread.nd (pi_items (pv 6)) (blkOk_by (N := ["land", "weather", "starts", "breaks", "numbers", "broken", "waiting", "place", "minute", "found", "link", "row", "end"]) (sc := defScope s_spread) (by decide +kernel)) (fun _ _ _ _ _ => (pg_tup rfl (pgs_cons (pg_name (i := 7) sc_spread.nd rfl (by first | exact Or.inl rfl | exact Or.inr rfl)) (pgs_cons (pg_name (i := 8) sc_spread.nd rfl (by first | exact Or.inl rfl | exact Or.inr rfl)) pgs_nil)))) (fun _ _ _ _ _ => pts_nil) (fun _ _ _ _ _ => (pe_tup (pa_cons (pv 8) (pa_cons (pv 7) pa_nil)))))) pa_nil)) (pg_tup rfl (pgs_cons (pg_name (i := 8) sc_spread.nd rfl (by first | exact Or.inl rfl | exact Or.inr rfl)) (pgs_cons (pg_name (i := 7) sc_spread.nd rfl (by first | exact Or.inl rfl | exact Or.inr rfl)) pgs_nil))))
    (pss_cons (ps_expr (pe_dpop1 (pv 6) (pv 7) ⟨rfl, rfl, rfl, rfl⟩))
    (pss_cons (ps_dput hu (pv 9) (pv 7) (pv 8) rfl)
    (pss_one (ps_for PassesOwn.never rfl (RZ.pi_zipA rfl S.f_zip (pa_cons (pe_fld (pv 0) rfl) (pa_cons (pv 4) pa_nil))) (pg_tup rfl (pgs_cons (pg_name (i := 10) sc_spread.nd rfl (by first | exact Or.inl rfl | exact Or.inr rfl)) (pgs_cons (pg_name (i := 11) sc_spread.nd rfl (by first | exact Or.inl rfl | exact Or.inr rfl)) pgs_nil)))
      (pss_cons (ps_set (i := 12) sc_spread.nd rfl (by first | exact Or.inl rfl | exact Or.inr rfl) (pe_ifExp (PW.pt (pw_and (pt_cmpR op_eq (pe_ix ix_tup (pv 10) pe_int (fun _ _ => rfl)) (pv 7) (nomark _)) (pw_and1 (pt_cmp (pc_dnotin hu (pe_ix ix_tup (pv 10) pe_int (fun _ _ => rfl)) (pv 9)) (by rfl))))) (pe_fn G_caught (hr.mono (by decide)) (pa_cons (pv 0) (pa_cons (pv 1) (pa_cons (pv 11) (pa_cons (pv 8) pa_nil))))) pe_non))
    (pss_one (ps_if (PW.pt (pw_and (pt_cmpR op_notN (pv 12) pe_non (nomark _)) (pw_and1 (PW.pt (pw_or (pt_cmp (pc_dnotin hu (pe_ix ix_tup (pv 10) pe_int (fun _ _ => rfl)) (pv 5)) (by rfl)) (pw_or1 (pt_cmpR op_lt (pv 12) (pe_dget hu (pv 5) (pe_ix ix_tup (pv 10) pe_int (fun _ _ => rfl)) (fun _ _ => rfl)) (nomark _)))))))) (pss_one (ps_dput hu (pv 6) (pe_ix ix_tup (pv 10) pe_int (fun _ _ => rfl)) (pe_callB (call_min2 rfl) (by rfl) S.f_min (by decide +kernel) (pa_cons (pv 12) (pa_cons (pe_dget2 hu (pv 6) (pe_ix ix_tup (pv 10) pe_int (fun _ _ => rfl)) (pv 12) ⟨rfl, rfl, rfl, rfl⟩) pa_nil))) rfl)) pss_nil)))))))))
    (pss_one (ps_ret (pv 9))))))))), ?_⟩
    obtain ⟨la, dx, wa, vp, vk, vt, rfl, hla, hwi, hp, hK, _⟩ := hL.ex
    obtain ⟨ka, ks, rfl, hka, hkd⟩ := hK.tup_at
    obtain ⟨na, ns, rfl, hna, hnd⟩ := hN.tup_at
    have hkl := hkd.map_len
    have hnl : ns.length = L.links.length := by rw [hnd.map_len, numsOf, List.length_map]
    -- broken = least_minutes(breaks)
    refine q_asgP (ep_callF (NewD (lmin B)) (ea_cons (ev_var (by rfl)) ea_nil) (fun H1 e1 => ⟨vb, B, rfl, hB.mono e1, g.bl, rfl⟩) (P := NewD (lmin B) H) fun H1 e1 v H2 e2 ⟨p, ev, n, hp⟩ => ⟨p, ev, fresh_back e1 n, hp⟩) fun v H1 e1 ⟨bp, ev, nb, hb⟩ => ?_
    subst ev
    -- waiting = {}
    refine fun wp nw => ?_
    have e2 : Ex H (upd H1 wp (.dK [])) := e1.trans (Ex.new nw)
    have nwH : H wp = none := fresh_back e1 nw
    have hbw : bp ≠ wp := ne_of_none hb nw
    -- for place, minute in least_minutes(starts).items()
    have hW2 : upd H1 wp (.dK []) bp = some (.dK (mapD (lmin B))) := by rw [upd_ne hbw]; exact hb
    refine (ep_callF (NewD (lmin St)) (ea_cons (ev_var (by rfl)) ea_nil) (fun H3 e3 => ⟨vs', St, rfl, hS.mono (e2.trans e3), g.sl, rfl⟩) (P := NewD (lmin St) (upd H1 wp (.dK []))) fun H3 e3 v H4 e4 ⟨p, ev, n, hp⟩ => ⟨p, ev, fresh_back e3 n, hp⟩) _ (Ex.refl _) _ fun v H3 e3 ⟨sp, ev, nsp, hsp⟩ => ?_
    subst ev
    refine ⟨sp, _, rfl, hsp, trivial, fun od => ⟨sp, od, mapD (lmin St), rfl, upd_same, ?_⟩⟩
    have hspw : wp ≠ sp := ne_of_none upd_same nsp
    have hspb : bp ≠ sp := ne_of_none hW2 nsp
    have nspH : H sp = none := fresh_back e2 nsp
    refine for_it walk_items (fun i σ' H' => (∃ x7 x8, σ' = [some (.ref la), some vw, some vs', some vb, some (.ref na), some (.ref bp), some (.ref wp), x7, x8, none, none, none, none]) ∧ Ex H H' ∧ H' bp = some (.dK (mapD (lmin B))) ∧ H' sp = some (.frz od (.dK (mapD (lmin St)))) ∧ H' wp = some (.dK (mapD (((lmin St).take i).foldl (startStep B) [])))) ?_ (fun i σ' H' _ h => h.2.2.2.1) ?_ ?_
    · refine ⟨⟨_, _, rfl⟩, Ex.mut (e2.trans e3) nspH, ?_, upd_same, ?_⟩
      · rw [upd_ne hspb]; exact e3 _ _ hW2
      · rw [upd_ne hspw]; exact e3 _ _ upd_same
    · intro i x σ' H4 H5 hi h hY
      obtain ⟨⟨x7, x8, rfl⟩, eH, hbp, hsp2, hwp⟩ := h
      obtain ⟨T, x1, x2, rfl, nT, rfl, k1, k2⟩ := hY
      have hi' : i < (lmin St).length := by rw [← mapD_len]; exact hi
      obtain ⟨r, hr1⟩ : ∃ r, (lmin St)[i]? = some r := ⟨_, List.getElem?_eq_getElem hi'⟩
      have k0 : (mapD (lmin St))[i]? = some (Sum.inr r.1, V.int r.2) := by unfold mapD; rw [List.getElem?_map, hr1]; rfl
      have k1 : ((mapD (lmin St))[i]?).map (fun kv => kV kv.1) = some x1 := k1
      have k2 : ((mapD (lmin St))[i]?).map Prod.snd = some x2 := k2
      rw [k0] at k1 k2
      cases k1
      cases k2
      have eT := Ex.new (o := .tup [kV (Sum.inr r.1), V.int r.2]) nT
      refine ⟨T, _, rfl, .inl (.inl upd_same), rfl, _, _, rfl, _, _, rfl, rfl, ?_⟩
      have htake : ((lmin St).take (i + 1)).foldl (startStep B) [] = startStep B (((lmin St).take i).foldl (startStep B) []) r := by
        rw [List.take_succ, hr1, List.foldl_append]; rfl
      have hlen := startFold_len B ((lmin St).take i) []
      have htk : ((lmin St).take i).length ≤ (lmin St).length := List.length_take_le' _ _
      have hlm : (lmin St).length ≤ St.length := by have := lfold_len St []; simp at this; exact this
      have hsl := g.sl
      refine r_if (et_okB (p := r.1) (m := r.2) (B := B) (ev_var (by rfl)) (ev_var (by rfl)) (ev_var (by rfl)) (eT _ _ hbp)) (fun c H6 e6 => ?_) (fun c H6 e6 => ?_)
      · refine ⟨_, rfl, _, rfl, _, rfl, wp, _, rfl, DPut.k (k := Sum.inr r.1) (e6 _ _ (eT _ _ hwp)) (by rw [mapD_len]; simp at hlen; exact sz_lt (by omega)), ?_⟩
        refine ⟨⟨_, _, rfl⟩, Ex.mut ((eH.trans eT).trans e6) nwH, ?_, ?_, ?_⟩
        · rw [upd_ne hbw]; exact e6 _ _ (eT _ _ hbp)
        · rw [upd_ne (Ne.symm hspw)]; exact e6 _ _ (eT _ _ hsp2)
        · rw [upd_same, putK_mapD, htake]
          unfold startStep
          rw [if_pos c]
      · refine ⟨⟨_, _, rfl⟩, (eH.trans eT).trans e6, e6 _ _ (eT _ _ hbp), e6 _ _ (eT _ _ hsp2), ?_⟩
        rw [htake]
        unfold startStep
        rw [if_neg (by rw [c]; decide)]
        exact e6 _ _ (eT _ _ hwp)
    · rintro σ' H4 ⟨⟨x7, x8, rfl⟩, eH, hbp, -, hwp⟩
      refine gn ?_
      rw [mapD_len, List.take_length] at hwp
      -- found = {}
      refine fun fp nf => ?_
      have nfH : H fp = none := fresh_back eH nf
      have hwf : wp ≠ fp := ne_of_none hwp nf
      have hbf : bp ≠ fp := ne_of_none hbp nf
      have hpl := g.lk.p1.2
      have hll := g.lk.l1
      have hsl := g.sl
      have hcnt : ∀ fd, cntF L fd ≤ 24 := fun fd => Nat.le_trans (List.length_filter_le _ _) hpl
      refine gn ?_
      refine r_seq ?_
      refine s_while (fun m σ' H' => ∃ x7 x8 x10 x11 x12 wt fd, σ' = [some (.ref la), some vw, some vs', some vb, some (.ref na), some (.ref bp), some (.ref wp), x7, x8, some (.ref fp), x10, x11, x12] ∧ Ex H H' ∧ H' bp = some (.dK (mapD (lmin B))) ∧ H' wp = some (.dK (mapD wt)) ∧ H' fp = some (.dK (mapD fd)) ∧
        DI L W St B sd wt fd ∧ m = cntF L fd ∧ wt.length ≤ St.length + 60 * (24 - m) ∧ fd.length ≤ 24 - m) (cntF L []) ?_ ?_
      · refine ⟨_, _, _, _, _, start0 St B, [], rfl, Ex.mut eH nfH, ?_, ?_, upd_same, DI.start g.q, rfl, ?_, by simp⟩
        · rw [upd_ne hbf]; exact hbp
        · rw [upd_ne hwf]; exact hwp
        · have h1 := startFold_len B (lmin St) []
          have h2 := lfold_len St []
          have h3 : (lmin St).length ≤ St.length := by simpa [lmin] using h2
          have h4 : (start0 St B).length ≤ (lmin St).length := by simpa [start0] using h1
          omega
      · rintro m σ' H5 ⟨x7, x8, x10, x11, x12, wt, fd, rfl, eH5, hbp5, hwp5, hfp5, di, rfl, hwl, hfl⟩
        refine ⟨!wt.isEmpty, fun H6 e6 Q6 q6 => ⟨_, rfl, _, dict_new (e6 _ _ hwp5), q6 H6 (Ex.refl _)⟩, fun c H6 e6 => ?_, fun c H6 e6 => ?_⟩
        · have hne : wt ≠ [] := fun z => by rw [z] at c; cases c
          refine ⟨fun σ2 H2 => ∃ m', m' < cntF L fd ∧ ∃ x7 x8 x10 x11 x12 wt fd, σ2 = [some (.ref la), some vw, some vs', some vb, some (.ref na), some (.ref bp), some (.ref wp), x7, x8, some (.ref fp), x10, x11, x12] ∧ Ex H H2 ∧ H2 bp = some (.dK (mapD (lmin B))) ∧ H2 wp = some (.dK (mapD wt)) ∧ H2 fp = some (.dK (mapD fd)) ∧
            DI L W St B sd wt fd ∧ m' = cntF L fd ∧ wt.length ≤ St.length + 60 * (24 - m') ∧ fd.length ≤ 24 - m', fun σ2 H2 h => h, ?_⟩
          replace hbp5 := e6 _ _ hbp5
          replace hwp5 := e6 _ _ hwp5
          replace hfp5 := e6 _ _ hfp5
          replace eH5 := eH5.trans e6
          clear e6
          have hwl5 : wt.length < 100000 := by omega
          refine r_seq (r_asg (r_cb (P := fun v H' => ∃ p ys, v = .ref p ∧ H' p = some (.lst ys) ∧ DtA H' ys ((wt.map fun q => (q.2, q.1)).map prD)) (ep_lock hwp5 trivial fun H7 e7 od => (ep_lc wt (fun q => some (prD (q.2, q.1))) (ei_items (ev_var (by rfl)) upd_same) (mapD_len wt) hwl5 (fun r _ d h => by cases h; exact noL_pr _) (fun i x r H8 e8 hr hx => ?_)).imp fun v H8 e8 ⟨p, ys, ev, np, hp, hd⟩ => ?_) fun v H7 e7 ⟨p, ys, ev, hp, hd⟩ => ?_))
          · obtain ⟨T, k, v, rfl, hT, hk⟩ := hx
            obtain ⟨r', hr', rfl, rfl⟩ := mapD_at hk
            rw [hr] at hr'
            cases hr'
            intro H9 e9 Qk Qn hk9 hn9
            refine ⟨T, _, rfl, .inl (.inl (e9 _ _ hT)), rfl, _, _, rfl, _, _, rfl, rfl, lcY rfl ?_⟩
            exact ⟨_, rfl, _, rfl, by show 2 ≤ sizeLine; decide, fun t nt => hk9 _ rfl _ _ (Ex.new nt) (of_pr (.inl upd_same))⟩
          · have hpw : p ≠ wp := fun z => by rw [z, upd_same] at np; cases np
            refine ⟨p, ys, ev, by rw [upd_ne hpw]; exact hp, ?_⟩
            rw [List.filterMap_eq_map'] at hd
            have e9 : wt.map (fun q => prD (q.2, q.1)) = (wt.map fun q => (q.2, q.1)).map prD := by rw [List.map_map]; rfl
            rw [e9] at hd
            refine DtA.upd ?_ ?_ hd
            · rw [e8 _ _ upd_same]; trivial
            · rw [noLs_all]
              intro x hx
              obtain ⟨y, _, rfl⟩ := List.mem_map.mp hx
              exact noL_pr y
          · subst ev
            refine ⟨p, ys, _, rfl, SqL.of hp, hd.dp, by simpa using hne, fun i x r hx hr hmin => ?_⟩
            have hxd := hd.map_at hx hr
            rw [List.getElem?_map] at hr
            obtain ⟨⟨place, minute⟩, hr0, hr1⟩ := Option.map_eq_some_iff.mp hr
            have hr1 : (minute, place) = r := hr1
            subst hr1
            obtain ⟨T, rfl, hT⟩ := dt_pr hxd
            have hwm : (place, minute) ∈ wt := List.mem_of_getElem? hr0
            have hlook := mem_look di.wk hwm
            have hminw : ∀ q u, look wt q = some u → minute ≤ u := fun q u z => hmin (u, q) (List.mem_map.mpr ⟨(q, u), look_mem z, rfl⟩)
            refine ⟨T, _, rfl, .inl hT, rfl, _, _, rfl, _, _, rfl, rfl, ?_⟩
            replace hbp5 := e7 _ _ hbp5
            replace hwp5 := e7 _ _ hwp5
            replace hfp5 := e7 _ _ hfp5
            replace eH5 := eH5.trans e7
            -- waiting.pop(place); found[place] = minute
            refine gn ⟨_, rfl, wp, rfl, .inl ⟨_, Rd.of hwp5⟩, _, rfl, mapD wt, Sum.inr place, .int minute, hwp5, rfl, by rw [valV_mapD, hlook]; rfl, ?_⟩
            rw [dropK_mapD]
            have hfp6 : (upd H7 wp (.dK (mapD (dropS wt place)))) fp = some (.dK (mapD fd)) := by rw [upd_ne (Ne.symm hwf)]; exact hfp5
            refine gn ⟨_, rfl, _, rfl, _, rfl, fp, _, rfl, DPut.k (k := Sum.inr place) hfp6 (by rw [mapD_len]; exact sz_lt (by omega)), ?_⟩
            rw [putK_mapD fd place minute]
            refine gn ?_
            obtain ⟨H8, hH8⟩ : ∃ H8, upd (upd H7 wp (.dK (mapD (dropS wt place)))) fp (.dK (mapD (putS fd place minute))) = H8 := ⟨_, rfl⟩
            rw [hH8]
            have eH8 : Ex H H8 := by rw [← hH8]; exact Ex.mut (Ex.mut eH5 nwH) nfH
            have hbp8 : H8 bp = some (.dK (mapD (lmin B))) := by rw [← hH8, upd_ne hbf, upd_ne hbw]; exact hbp5
            have hwp8 : H8 wp = some (.dK (mapD (dropS wt place))) := by rw [← hH8, upd_ne hwf, upd_same]
            have hfp8 : H8 fp = some (.dK (mapD (putS fd place minute))) := by rw [← hH8, upd_same]
            have hLk : LdOk L := g.lk
            have hmin0 := (di.w place minute hlook).1
            refine ⟨_, rfl, la, _, dx, _, _, rfl, eH8 _ _ hla, S.cl, S.na_links, fl_links _ _ _ _, _, rfl, ka, na, ks, ns, rfl, .inr ⟨.inl (ex_rd eH8 hka), .inl (ex_rd eH8 hna), ?_⟩⟩
            refine RZ.for_zipT (xs := ks) (ys := ns) (by omega) (fun i σ' H' => (∃ x10 x11 x12, σ' = [some (.ref la), some vw, some vs', some vb, some (.ref na), some (.ref bp), some (.ref wp), some (.str place), some (.int minute), some (.ref fp), x10, x11, x12]) ∧ Ex H H' ∧ H' bp = some (.dK (mapD (lmin B))) ∧ H' fp = some (.dK (mapD (putS fd place minute))) ∧
              H' wp = some (.dK (mapD ((L.links.take i).foldl (relax L W B sd (putS fd place minute) place minute) (dropS wt place))))) ⟨⟨_, _, _, rfl⟩, eH8, hbp8, hfp8, by simpa using hwp8⟩ (fun i σ' H' h => ⟨.inl (ex_rd h.2.1 hka), .inl (ex_rd h.2.1 hna)⟩) (fun i x y T2 σ' H9 hx hy h nT => ?_) (fun σ' H9 h => ?_)
            · obtain ⟨⟨x10, x11, x12, rfl⟩, eH9, hbp9, hfp9, hwp9⟩ := h
              have hil : i < L.links.length := by have := (List.getElem?_eq_some_iff.mp hx).1; omega
              obtain ⟨l, hl⟩ : ∃ l, L.links[i]? = some l := ⟨_, List.getElem?_eq_getElem hil⟩
              have hlm := List.mem_of_getElem? hl
              have hnum : (numsOf sd L)[i]? = some (rowOf sd l) := by simp [numsOf, hl]
              have eT := Ex.new (o := .tup [x, y]) nT
              have hxd := ((hkd.map_at hx hl).mono eH9).mono eT
              have hyd := ((hnd.map_at hy hnum).mono eH9).mono eT
              obtain ⟨ba, tv, rfl, hba, htv⟩ := dt_lnk hxd
              replace hbp9 := eT _ _ hbp9
              replace hfp9 := eT _ _ hfp9
              replace hwp9 := eT _ _ hwp9
              replace eH9 := eH9.trans eT
              refine ⟨T2, _, rfl, .inl (.inl upd_same), rfl, _, _, rfl, _, _, rfl, rfl, ?_⟩
              clear eT
              generalize upd _ T2 _ = H10 at *
              have ixo : ∀ {H' : Hp}, Ex H10 H' → RV (rIxT K) (.ref ba) (.int 1) H' (.str l.one) := fun e => rv_ixT (.inl (ex_rd e hba)) (by rfl)
              have ixt : ∀ {H' : Hp}, Ex H10 H' → RV (rIxT K) (.ref ba) (.int 2) H' (.str l.other) := fun e => rv_ixT (.inl (ex_rd e hba)) (by rfl)
              have hrow : (rowOf sd l).length = L.winds.length := by rw [rowOf, List.length_map]; exact (hLk.lt l hlm).1
              refine q_asgP (P := fun v _ => v = oiV (if l.one = place ∧ look (putS fd place minute) l.other = none then pass L W sd l minute else none)) (ep_if (et_and (et_test (ev_op (ev_op (ev_var (by rfl)) ev_c (ixo (Ex.refl _))) (ev_var (by rfl)) (rv_eq (by rfl)))) fun _ => et_B (ev_dnotin (ev_op (ev_var (by rfl)) ev_c (ixt (Ex.refl _))) (ev_var (by rfl)) hfp9)) (fun c => ?_) (fun c => ?_)) fun v H11 e11 ev => ?_
              · have hc : l.one = place ∧ look (putS fd place minute) l.other = none := by
                  simp only [Bool.and_eq_true, decide_eq_true_eq, V.str.injEq, Bool.not_eq_true', Option.isSome_eq_false_iff, Option.isNone_iff_eq_none] at c
                  exact c
                rw [if_pos hc]
                exact ep_call (R := R_caught K) (ea_cons (ev_var (by rfl)) (ea_cons (ev_var (by rfl)) (ea_cons (ev_var (by rfl)) (ea_cons (ev_var (by rfl)) ea_nil)))) fun H12 e12 => ⟨_, L, vw, W, y, rowOf sd l, minute, rfl, hL.mono (eH9.trans e12), hW.mono (eH9.trans e12), g.w, hyd.mono e12, hrow, hmin0, rfl⟩
              · have hc : ¬ (l.one = place ∧ look (putS fd place minute) l.other = none) := by
                  intro z
                  rw [z.1, z.2] at c
                  simp at c
                rw [if_neg hc]
                exact ep_ev ev_c
              · subst ev
                have htake : (L.links.take (i + 1)).foldl (relax L W B sd (putS fd place minute) place minute) (dropS wt place) = relax L W B sd (putS fd place minute) place minute ((L.links.take i).foldl (relax L W B sd (putS fd place minute) place minute) (dropS wt place)) l := by
                  rw [List.take_succ, hl, List.foldl_append]; rfl
                have hrl := (relaxs (L := L) (W := W) (B := B) (sd := sd) (fd := putS fd place minute) (place := place) (minute := minute) (L.links.take i) (dropS wt place) (di.wk.drop place)).2.1
                have hdl := drop_len wt place
                have htk : (L.links.take i).length ≤ L.links.length := List.length_take_le' _ _
                generalize (L.links.take i).foldl (relax L W B sd (putS fd place minute) place minute) (dropS wt place) = wt' at *
                cases hz : (if l.one = place ∧ look (putS fd place minute) l.other = none then pass L W sd l minute else none) with
                | none =>
                  refine r_if (c := false) (et_is (et_and (a := false) (b := false) (et_test (ev_op (ev_var (by rfl)) ev_c rv_notN)) (fun c => by cases c)) rfl) (fun c => by cases c) fun _ H12 e12 => ?_
                  refine ⟨⟨_, _, _, rfl⟩, eH9.trans (e11.trans e12), e12 _ _ (e11 _ _ hbp9), e12 _ _ (e11 _ _ hfp9), ?_⟩
                  rw [htake]
                  unfold relax
                  rw [hz]
                  exact e12 _ _ (e11 _ _ hwp9)
                | some e =>
                  refine r_if (c := okB B l.other e) (et_is (et_and (a := true) (et_test (ev_op (ev_var (by rfl)) ev_c rv_notN)) (fun c => et_okB (p := l.other) (m := e) (B := B) (ev_op (ev_var (by rfl)) ev_c (ixt e11)) (ev_var (by rfl)) (ev_var (by rfl)) (e11 _ _ hbp9))) (by simp)) (fun c H12 e12 => ?_) fun c H12 e12 => ?_
                  · have hg := DGet.k (k := Sum.inr l.other) (e12 _ _ (e11 _ _ hwp9))
                    rw [valV_mapD] at hg
                    have e1 : ((look wt' l.other).map V.int).getD (V.int e) = V.int ((look wt' l.other).getD e) := by
                      cases look wt' l.other <;> rfl
                    refine ⟨_, rfl, _, rfl, wp, rfl, .inl ⟨_, Rd.of (e12 _ _ (e11 _ _ hwp9))⟩, _, rfl, ba, _, 2, .str l.other, rfl, rfl, .inl (ex_rd (e11.trans e12) hba), (by rfl), _, rfl, _, hg, ?_⟩
                    refine ⟨e, (look wt' l.other).getD e, by rw [← e1]; rfl, ?_⟩
                    refine ⟨_, rfl, _, rfl, ba, _, 2, .str l.other, rfl, rfl, .inl (ex_rd (e11.trans e12) hba), (by rfl), wp, _, rfl, DPut.k (k := Sum.inr l.other) (e12 _ _ (e11 _ _ hwp9)) (by rw [mapD_len]; exact sz_lt (by omega)), ?_⟩
                    refine ⟨⟨_, _, _, rfl⟩, Ex.mut (eH9.trans (e11.trans e12)) nwH, ?_, ?_, ?_⟩
                    · rw [upd_ne hbw]; exact e12 _ _ (e11 _ _ hbp9)
                    · rw [upd_ne (Ne.symm hwf)]; exact e12 _ _ (e11 _ _ hfp9)
                    · rw [upd_same, putK_mapD, htake]
                      unfold relax
                      rw [hz]
                      show _ = some (HO.dK (mapD (if okB B l.other e = true then _ else _)))
                      rw [if_pos c]
                  · refine ⟨⟨_, _, _, rfl⟩, eH9.trans (e11.trans e12), e12 _ _ (e11 _ _ hbp9), e12 _ _ (e11 _ _ hfp9), ?_⟩
                    rw [htake]
                    unfold relax
                    rw [hz]
                    show _ = some (HO.dK (mapD (if okB B l.other e = true then _ else _)))
                    rw [if_neg (by rw [c]; decide)]
                    exact e12 _ _ (e11 _ _ hwp9)
            · obtain ⟨⟨x10, x11, x12, rfl⟩, eH9, hbp9, hfp9, hwp9⟩ := h
              rw [hkl, List.take_length] at hwp9
              have hless := di.less hlook
              have hrl := (relaxs (L := L) (W := W) (B := B) (sd := sd) (fd := putS fd place minute) (place := place) (minute := minute) L.links (dropS wt place) (di.wk.drop place)).2.1
              have hdl := drop_len wt place
              have hpl2 := putS_len fd place minute
              have hc24 := hcnt fd
              refine gn ⟨_, hless, _, _, _, _, _, _, _, rfl, eH9, hbp9, hwp9, hfp9, di.step g.q hlook hminw, rfl, ?_, ?_⟩
              · omega
              · omega
        · have hwe : wt = [] := by
            cases wt with
            | nil => rfl
            | cons a l => cases c
          refine gn ⟨_, rfl, q _ H6 (eH5.trans e6) ⟨fp, fd, rfl, e6 _ _ hfp5, ?_⟩⟩
          exact fire_is_eq g.q (di.fire fun p => by rw [hwe]; simp [look])
end
end EF
set_option maxHeartbeats 4000000
namespace EF
open PySem PySem.Spec PyProof.Rows L2 Evl
/-! ### arguments told by a word -/
def EvAP (ta : TA) (σ : L2.St) (H : Hp) (PA : List V → Hp → Prop) : Prop := ∀ H1, Ex H H1 → ∀ Q : List V → Hp → Prop, (∀ vs H2, Ex H1 H2 → PA vs H2 → Q vs H2) → ta σ H1 Q
section
variable {K : PySem.W.Frag} {σ : L2.St} {H : Hp} {te : TE} {ta : TA} {P : Post} {PA : List V → Hp → Prop} {v : V} {o : Out} {Q : VK} {E : L2.St → XK}
theorem eap_nil : EvAP tNil σ H (fun vs _ => vs = []) := fun H1 _ Q q => q [] H1 (Ex.refl _) rfl
theorem eap_v (h : Ev te σ H v) (hr : EvAP ta σ H PA) : EvAP (tCons te ta) σ H (fun vs H' => ∃ r, vs = v :: r ∧ PA r H') := fun H1 e Q q => h H1 e _ fun H2 e2 => hr H2 (e.trans e2) _ fun vs H3 e3 p => q _ H3 (e2.trans e3) ⟨vs, rfl, p⟩
theorem eap_p (h : EvP te σ H P) (hr : EvAP ta σ H PA) (m : ∀ v H1 H2, Ex H1 H2 → P v H1 → P v H2) : EvAP (tCons te ta) σ H (fun vs H' => ∃ v r, vs = v :: r ∧ P v H' ∧ PA r H') := fun H1 e Q q => h H1 e _ fun v H2 e2 p => hr H2 (e.trans e2) _ fun vs H3 e3 p3 => q _ H3 (e2.trans e3) ⟨v, vs, rfl, m _ _ _ e3 p, p3⟩
theorem ep_callP {R : List V → Hp → Post → Prop} {E : XK} (h : EvAP ta σ H PA) (hr : ∀ vs H1, Ex H H1 → PA vs H1 → R vs H1 P) : EvP (tCl (spR R) E ta) σ H P :=
  fun H1 e Q q => h H1 e _ fun vs H2 e2 pa => ⟨P, hr vs H2 (e.trans e2) pa, fun v H3 e3 p => q v H3 (e2.trans e3) p⟩
theorem c_callSP {R : List V → Hp → Out → Prop} (h : EvAP ta σ H PA) (hr : ∀ vs H1, Ex H H1 → PA vs H1 → R vs H1 o) (k : Fin K o H Q (E σ)) : tCallS (spO K R) E ta σ H Q :=
  h H (Ex.refl H) _ fun vs H1 e1 pa => ⟨o, hr vs H1 e1 pa, k.mono e1⟩
theorem ep_callS {R : List V → Hp → Out → Prop} (h : EvAP ta σ H PA) (hr : ∀ vs H1, Ex H H1 → PA vs H1 → R vs H1 (.ok P)) : EvP (tCallS (spO K R) E ta) σ H P :=
  fun H1 e Q q => h H1 e _ fun vs H2 e2 pa => ⟨.ok P, hr vs H2 (e.trans e2) pa, fun v H3 e3 p => q v H3 (e2.trans e3) p⟩
theorem ea_eap {vs : List V} (h : EvA ta σ H vs) : EvAP ta σ H (fun us _ => us = vs) := fun H1 e Q q => h H1 e _ fun H2 e2 => q _ H2 e2 rfl
end
/-! ### the gate that every question goes through -/
def gate (L : Ld) (W : Wea) (S B : Rws) (o : Out) : Out := unkO (badWind L.winds W) (unkO (badRow L.places S) (unkO (badRow L.places B) (if weaGood W = true then o else .wea)))
structure Open (L : Ld) (W : Wea) (S B : Rws) : Prop where
  w : ∀ r ∈ W, r.2 ∈ L.winds
  s : ∀ r ∈ S, r.1 ∈ L.places
  b : ∀ r ∈ B, r.1 ∈ L.places
  g : weaGood W = true
theorem badWind_none {winds : List Str} {W : Wea} : badWind winds W = none ↔ ∀ r ∈ W, r.2 ∈ winds := by
  unfold badWind
  rw [Option.map_eq_none_iff, List.find?_eq_none]
  simp
theorem badRow_none {places : List Str} {R : Rws} : badRow places R = none ↔ ∀ r ∈ R, r.1 ∈ places := by
  unfold badRow
  rw [Option.map_eq_none_iff, List.find?_eq_none]
  simp
theorem gate_open {L : Ld} {W : Wea} {S B : Rws} (h : Open L W S B) (o : Out) : gate L W S B o = o := by
  unfold gate
  rw [badWind_none.mpr h.w, badRow_none.mpr h.s, badRow_none.mpr h.b, if_pos h.g]
  rfl
theorem gate_split (L : Ld) (W : Wea) (S B : Rws) : Open L W S B ∨ (∃ z, ∀ o, gate L W S B o = .unk z) ∨ ∀ o, gate L W S B o = .wea := by
  cases h1 : badWind L.winds W with
  | some z => exact .inr (.inl ⟨z, fun o => by unfold gate; rw [h1]; rfl⟩)
  | none =>
    cases h2 : badRow L.places S with
    | some z => exact .inr (.inl ⟨z, fun o => by unfold gate; rw [h1, h2]; rfl⟩)
    | none =>
      cases h3 : badRow L.places B with
      | some z => exact .inr (.inl ⟨z, fun o => by unfold gate; rw [h1, h2, h3]; rfl⟩)
      | none =>
        by_cases c : weaGood W = true
        · exact .inl ⟨badWind_none.mp h1, badRow_none.mp h2, badRow_none.mp h3, c⟩
        · exact .inr (.inr fun o => by unfold gate; rw [h1, h2, h3, if_neg c]; rfl)
theorem asc_of : ∀ (l : List Int), ((l.zip l.tail).any fun q => decide (q.2 ≤ q.1)) = false → l.Pairwise (· < ·)
  | [], _ => .nil
  | [a], _ => by simp
  | a :: b :: l, h => by
    have h' : (decide (b ≤ a) || (((b :: l).zip (b :: l).tail).any fun q => decide (q.2 ≤ q.1))) = false := h
    rw [Bool.or_eq_false_iff] at h'
    have ih := asc_of (b :: l) h'.2
    have hab : a < b := by have := of_decide_eq_false h'.1; omega
    refine List.Pairwise.cons (fun x hx => ?_) ih
    rcases List.mem_cons.mp hx with e | hx
    · rw [e]; exact hab
    · rw [List.pairwise_cons] at ih
      have := ih.1 x hx
      omega
theorem weaOk_of {winds : List Str} {W : Wea} (h : weaGood W = true) (hm : ∀ r ∈ W, r.2 ∈ winds) (hf : W.length ≤ 40) : WeaOk winds W := by
  unfold weaGood at h
  rw [Bool.and_eq_true] at h
  obtain ⟨h1, h2⟩ := h
  have h1 := of_decide_eq_true h1
  have h2 : (((W.map (·.1)).zip (W.map (·.1)).tail).any fun q => decide (q.2 ≤ q.1)) = false := by simpa using h2
  refine ⟨?_, ?_, hm, hf⟩
  · cases W with
    | nil => cases h1
    | cons r W =>
      have : r.1 = 0 := Option.some.inj h1
      exact ⟨r.2, W, by rw [← this]⟩
  · have := asc_of _ h2
    rw [List.pairwise_map] at this
    exact this
/-- a question, and that it may be answered if nothing is refused -/
structure Ask (K : PySem.W.Frag) (H : Hp) (vl vw vs vb : V) (L : Ld) (W : Wea) (S B : Rws) : Prop where
  a : Asked K H vl vw vs vb L W S B
  lk : LdOk L
  s0 : ∀ q ∈ S, 0 ≤ q.2
  sl : S.length < 1000
  bl : B.length < 1000
theorem Ask.mono {K : PySem.W.Frag} {H H' : Hp} {vl vw vs vb : V} {L : Ld} {W : Wea} {S B : Rws} (e : Ex H H') (h : Ask K H vl vw vs vb L W S B) : Ask K H' vl vw vs vb L W S B := ⟨h.a.mono e, h.lk, h.s0, h.sl, h.bl⟩
theorem Ask.good {K : PySem.W.Frag} {H : Hp} {vl vw vs vb : V} {L : Ld} {W : Wea} {S B : Rws} (h : Ask K H vl vw vs vb L W S B) (o : Open L W S B) : Good L W S B := ⟨h.lk, weaOk_of o.g o.w h.a.ok.few, fun q hq => ⟨o.s q hq, h.s0 q hq⟩, h.sl, h.bl⟩
def toldOf (L : Ld) (f : Str → Option Int) : List (Str × Option Int) := L.places.map fun p => (p, f p)
noncomputable def fireD (L : Ld) (W : Wea) (S B : Rws) (sd : Bool) : PyData := toldD (toldOf L (fire L W S B sd))
noncomputable def bothD (L : Ld) (W : Wea) (S B : Rws) : PyData := .tuple [fireD L W S B false, fireD L W S B true]
def oD (d : PyData) : Out := .ok fun v H' => Dt H' v d
section
variable {P : Program} {w : World} {K : PySem.W.Frag} {mg : Str → Option Value} {base : Heap}
def R_burning (K : PySem.W.Frag) : List V → Hp → Out → Prop := fun vs H o => ∃ vl vw vs' vb vn L W St B sd, vs = [vl, vw, vs', vb, vn] ∧ Ask K H vl vw vs' vb L W St B ∧ Dt H vn (numsD (numsOf sd L)) ∧ o = gate L W St B (oD (fireD L W St B sd))
theorem sc_burning : FnScope ["land", "weather", "starts", "breaks", "numbers"] ["land", "weather", "starts", "breaks", "numbers"] (defScope s_burning) := ⟨rfl, rfl, rfl, by decide +kernel, rfl, by decide +kernel, by decide +kernel⟩
theorem ok_burning (S : Says K mg) (U : UnkOk P K (cUnk K)) : Fn P w K mg base 5 "burning" ["land", "weather", "starts", "breaks", "numbers"] (spO K (R_burning K)) := by
  have G_check_fire := ok_check_fire (P := P) (w := w) (base := base) S U
  have G_check_numbers := ok_check_numbers (P := P) (w := w) (base := base) S
  have G_spread := ok_spread (P := P) (w := w) (base := base) S
  have G_told := ok_told (P := P) (w := w) (base := base) S
  obtain ⟨fd, F⟩ := S.def_burning
  refine ⟨⟨_, fd, S.g_burning, F.kp, F.bindsN (fun _ _ _ _ _ _ us hl => match us, hl with | [_, _, _, _, _], _ => rfl), F.ok sc_burning (fun vs H Q E h => ?_) (fun cdv A outer s H vs Q E hr h => ?_)⟩⟩
  · obtain ⟨_, ⟨_, _, _, _, _, _, _, _, _, _, rfl, _⟩, _⟩ := h
    rfl
  · obtain ⟨o, ⟨vl, vw, vs', vb, vn, L, W, St, B, sd, rfl, a, hn, rfl⟩, q⟩ := h
    refine ⟨_, ((pss_cons (ps_expr (pe_fnS G_check_fire (hr.mono (by decide)) (takes_of rfl rfl rfl rfl) (pa_cons (pv 0) (pa_cons (pv 1) (pa_cons (pv 2) (pa_cons (pv 3) pa_nil))))))
    (pss_cons (ps_expr (pe_fn G_check_numbers (hr.mono (by decide)) (pa_cons (pv 0) (pa_cons (pv 4) pa_nil))))
    (pss_one (ps_ret (pe_fn G_told (hr.mono (by decide)) (pa_cons (pv 0) (pa_cons (pe_fn G_spread (hr.mono (by decide)) (pa_cons (pv 0) (pa_cons (pv 1) (pa_cons (pv 2) (pa_cons (pv 3) (pa_cons (pv 4) pa_nil)))))) pa_nil)))))))), ?_⟩
    have A4 : EvA (tCons (tVar 0) (tCons (tVar 1) (tCons (tVar 2) (tCons (tVar 3) tNil)))) [some vl, some vw, some vs', some vb, some vn] H [vl, vw, vs', vb] := ea_cons (ev_var (by rfl)) (ea_cons (ev_var (by rfl)) (ea_cons (ev_var (by rfl)) (ea_cons (ev_var (by rfl)) ea_nil)))
    refine r_seq (c_callS (R := R_check_fire K) (o := gate L W St B oNon) A4 (fun H1 e1 => ⟨vl, vw, vs', vb, L, W, St, B, rfl, a.a.mono e1, rfl⟩) ?_)
    rcases gate_split L W St B with ho | ⟨z, hz⟩ | hz
    · rw [gate_open ho] at q ⊢
      intro v H1 e1 _
      have g := a.good ho
      refine gn ?_
      refine q_dropP (ep_call (R := R_check_numbers K) (ea_cons (ev_var (by rfl)) (ea_cons (ev_var (by rfl)) ea_nil)) fun H2 e2 => ⟨vl, L, vn, sd, rfl, a.a.l.mono (e1.trans e2), g.lk, hn.mono (e1.trans e2), rfl⟩) fun v H2 e2 _ => ?_
      refine s_retP (P := fun v H' => Dt H' v (fireD L W St B sd)) (ep_callP (PA := fun vs H' => ∃ p l, vs = [vl, .ref p] ∧ H' p = some (.dK (mapD l)) ∧ look l = fire L W St B sd) ?_ fun vs H3 e3 ⟨p, l, ev, hp, hl⟩ => ?_) fun v H3 e3 hv => q v H3 ((e1.trans e2).trans e3) hv
      · refine fun H3 e3 Q3 q3 => eap_v (v := vl) (ev_var (by rfl)) (eap_p (P := fun v H' => ∃ p l, v = .ref p ∧ H' p = some (.dK (mapD l)) ∧ look l = fire L W St B sd) (ep_call (R := R_spread K) (ea_cons (ev_var (by rfl)) (ea_cons (ev_var (by rfl)) (ea_cons (ev_var (by rfl)) (ea_cons (ev_var (by rfl)) (ea_cons (ev_var (by rfl)) ea_nil))))) fun H4 e4 => ?_) eap_nil (fun v H1 H2 e ⟨p, l, h1, h2, h3⟩ => ⟨p, l, h1, e _ _ h2, h3⟩)) H3 e3 _ fun vs H4 e4 ⟨r, ev, v, r', er, ⟨p, l, h1, h2, h3⟩, er'⟩ => q3 vs H4 e4 ⟨p, l, by rw [ev, er, er', h1], h2, h3⟩
        exact ⟨vl, L, vw, W, vs', St, vb, B, vn, sd, rfl, a.a.l.mono ((e1.trans e2).trans e4), a.a.w.mono ((e1.trans e2).trans e4), a.a.s.mono ((e1.trans e2).trans e4), a.a.b.mono ((e1.trans e2).trans e4), hn.mono ((e1.trans e2).trans e4), g, rfl⟩
      · subst ev
        refine ⟨vl, L, p, l, rfl, a.a.l.mono ((e1.trans e2).trans e3), by have := g.lk.p1.2; omega, hp, ?_⟩
        rw [hl]
        rfl
    · rw [hz] at q ⊢
      exact q
    · rw [hz] at q ⊢
      exact q
end
end EF
set_option maxHeartbeats 4000000
namespace EF
open PySem PySem.Spec PyProof.Rows L2 Evl
section
variable {P : Program} {w : World} {K : PySem.W.Frag} {mg : Str → Option Value} {base : Heap}
def R_fast (K : PySem.W.Frag) (sd : Bool) : List V → Hp → Out → Prop := fun vs H o => ∃ vl vw vs' vb L W St B, vs = [vl, vw, vs', vb] ∧ Ask K H vl vw vs' vb L W St B ∧ o = gate L W St B (oD (fireD L W St B sd))
theorem lk_len {L : Ld} (h : LdOk L) : L.links.length < 1000 ∧ ∀ l ∈ L.links, l.times.length < 1000 :=
  ⟨by have := h.l1; omega, fun l hl => by have := (h.lt l hl).1; have := h.w1.2; omega⟩
theorem sc_fastest : FnScope ["land", "weather", "starts", "breaks"] ["land", "weather", "starts", "breaks"] (defScope s_fastest) := ⟨rfl, rfl, rfl, by decide +kernel, rfl, by decide +kernel, by decide +kernel⟩
theorem ok_fastest (S : Says K mg) (U : UnkOk P K (cUnk K)) : Fn P w K mg base 6 "fastest" ["land", "weather", "starts", "breaks"] (spO K (R_fast K false)) := by
  have G_burning := ok_burning (P := P) (w := w) (base := base) S U
  have G_least_numbers := ok_least_numbers (P := P) (w := w) (base := base) S
  obtain ⟨fd, F⟩ := S.def_fastest
  refine ⟨⟨_, fd, S.g_fastest, F.kp, F.bindsN (fun _ _ _ _ _ _ us hl => match us, hl with | [_, _, _, _], _ => rfl), F.ok sc_fastest (fun vs H Q E h => ?_) (fun cdv A outer s H vs Q E hr h => ?_)⟩⟩
  · obtain ⟨_, ⟨_, _, _, _, _, _, _, _, rfl, _⟩, _⟩ := h
    rfl
  · obtain ⟨o, ⟨vl, vw, vs', vb, L, W, St, B, rfl, a, rfl⟩, q⟩ := h
    refine ⟨_, ((pss_one (ps_ret (pe_fnS G_burning (hr.mono (by decide)) (takes_of rfl rfl rfl rfl) (pa_cons (pv 0) (pa_cons (pv 1) (pa_cons (pv 2) (pa_cons (pv 3) (pa_cons (pe_fn G_least_numbers (hr.mono (by decide)) (pa_cons (pv 0) pa_nil)) pa_nil))))))))), ?_⟩
    refine r_ret (c_callSP (R := R_burning K) (o := gate L W St B (oD (fireD L W St B false))) (eap_v (v := vl) (ev_var (by rfl)) (eap_v (v := vw) (ev_var (by rfl)) (eap_v (v := vs') (ev_var (by rfl)) (eap_v (v := vb) (ev_var (by rfl)) (eap_p (P := fun v H' => Dt H' v (numsD (numsOf false L))) (ep_call (R := R_nums K false) (ea_cons (ev_var (by rfl)) ea_nil) fun H1 e1 => ⟨vl, L, rfl, a.a.l.mono e1, (lk_len a.lk).1, (lk_len a.lk).2, rfl⟩) eap_nil fun v H1 H2 e h => h.mono e))))) ?_ q)
    rintro vs H1 e1 ⟨r1, rfl, r2, rfl, r3, rfl, r4, rfl, v, r5, rfl, hv, rfl⟩
    exact ⟨vl, vw, vs', vb, v, L, W, St, B, false, rfl, a.mono e1, hv, rfl⟩
theorem sc_slowest : FnScope ["land", "weather", "starts", "breaks"] ["land", "weather", "starts", "breaks"] (defScope s_slowest) := ⟨rfl, rfl, rfl, by decide +kernel, rfl, by decide +kernel, by decide +kernel⟩
theorem ok_slowest (S : Says K mg) (U : UnkOk P K (cUnk K)) : Fn P w K mg base 6 "slowest" ["land", "weather", "starts", "breaks"] (spO K (R_fast K true)) := by
  have G_burning := ok_burning (P := P) (w := w) (base := base) S U
  have G_most_numbers := ok_most_numbers (P := P) (w := w) (base := base) S
  obtain ⟨fd, F⟩ := S.def_slowest
  refine ⟨⟨_, fd, S.g_slowest, F.kp, F.bindsN (fun _ _ _ _ _ _ us hl => match us, hl with | [_, _, _, _], _ => rfl), F.ok sc_slowest (fun vs H Q E h => ?_) (fun cdv A outer s H vs Q E hr h => ?_)⟩⟩
  · obtain ⟨_, ⟨_, _, _, _, _, _, _, _, rfl, _⟩, _⟩ := h
    rfl
  · obtain ⟨o, ⟨vl, vw, vs', vb, L, W, St, B, rfl, a, rfl⟩, q⟩ := h
    refine ⟨_, ((pss_one (ps_ret (pe_fnS G_burning (hr.mono (by decide)) (takes_of rfl rfl rfl rfl) (pa_cons (pv 0) (pa_cons (pv 1) (pa_cons (pv 2) (pa_cons (pv 3) (pa_cons (pe_fn G_most_numbers (hr.mono (by decide)) (pa_cons (pv 0) pa_nil)) pa_nil))))))))), ?_⟩
    refine r_ret (c_callSP (R := R_burning K) (o := gate L W St B (oD (fireD L W St B true))) (eap_v (v := vl) (ev_var (by rfl)) (eap_v (v := vw) (ev_var (by rfl)) (eap_v (v := vs') (ev_var (by rfl)) (eap_v (v := vb) (ev_var (by rfl)) (eap_p (P := fun v H' => Dt H' v (numsD (numsOf true L))) (ep_call (R := R_nums K true) (ea_cons (ev_var (by rfl)) ea_nil) fun H1 e1 => ⟨vl, L, rfl, a.a.l.mono e1, (lk_len a.lk).1, (lk_len a.lk).2, rfl⟩) eap_nil fun v H1 H2 e h => h.mono e))))) ?_ q)
    rintro vs H1 e1 ⟨r1, rfl, r2, rfl, r3, rfl, r4, rfl, v, r5, rfl, hv, rfl⟩
    exact ⟨vl, vw, vs', vb, v, L, W, St, B, true, rfl, a.mono e1, hv, rfl⟩
def R_both (K : PySem.W.Frag) : List V → Hp → Out → Prop := fun vs H o => ∃ vl vw vs' vb L W St B, vs = [vl, vw, vs', vb] ∧ Ask K H vl vw vs' vb L W St B ∧ o = gate L W St B (oD (bothD L W St B))
theorem sc_both_fires : FnScope ["land", "weather", "starts", "breaks"] ["land", "weather", "starts", "breaks"] (defScope s_both_fires) := ⟨rfl, rfl, rfl, by decide +kernel, rfl, by decide +kernel, by decide +kernel⟩
theorem ok_both_fires (S : Says K mg) (U : UnkOk P K (cUnk K)) : Fn P w K mg base 7 "both_fires" ["land", "weather", "starts", "breaks"] (spO K (R_both K)) := by
  have G_fastest := ok_fastest (P := P) (w := w) (base := base) S U
  have G_slowest := ok_slowest (P := P) (w := w) (base := base) S U
  obtain ⟨fd, F⟩ := S.def_both_fires
  refine ⟨⟨_, fd, S.g_both_fires, F.kp, F.bindsN (fun _ _ _ _ _ _ us hl => match us, hl with | [_, _, _, _], _ => rfl), F.ok sc_both_fires (fun vs H Q E h => ?_) (fun cdv A outer s H vs Q E hr h => ?_)⟩⟩
  · obtain ⟨_, ⟨_, _, _, _, _, _, _, _, rfl, _⟩, _⟩ := h
    rfl
  · obtain ⟨o, ⟨vl, vw, vs', vb, L, W, St, B, rfl, a, rfl⟩, q⟩ := h
    refine ⟨_, ((pss_one (ps_ret (pe_tup (pa_cons (pe_fnS G_fastest (hr.mono (by decide)) (takes_of rfl rfl rfl rfl) (pa_cons (pv 0) (pa_cons (pv 1) (pa_cons (pv 2) (pa_cons (pv 3) pa_nil))))) (pa_cons (pe_fnS G_slowest (hr.mono (by decide)) (takes_of rfl rfl rfl rfl) (pa_cons (pv 0) (pa_cons (pv 1) (pa_cons (pv 2) (pa_cons (pv 3) pa_nil))))) pa_nil)))))), ?_⟩
    have A4 : EvA (tCons (tVar 0) (tCons (tVar 1) (tCons (tVar 2) (tCons (tVar 3) tNil)))) [some vl, some vw, some vs', some vb] H [vl, vw, vs', vb] := ea_cons (ev_var (by rfl)) (ea_cons (ev_var (by rfl)) (ea_cons (ev_var (by rfl)) (ea_cons (ev_var (by rfl)) ea_nil)))
    refine c_callS (R := R_fast K false) (o := gate L W St B (oD (fireD L W St B false))) A4 (fun H1 e1 => ⟨vl, vw, vs', vb, L, W, St, B, rfl, a.mono e1, rfl⟩) ?_
    rcases gate_split L W St B with ho | ⟨z, hz⟩ | hz
    · rw [gate_open ho] at q ⊢
      intro v1 H1 e1 h1
      refine c_callS (R := R_fast K true) (o := oD (fireD L W St B true)) (A4.mono e1) (fun H2 e2 => ⟨vl, vw, vs', vb, L, W, St, B, rfl, a.mono (e1.trans e2), (gate_open ho _).symm⟩) ?_
      intro v2 H2 e2 h2
      refine ⟨by show 2 ≤ sizeLine; decide, fun p np => q _ _ ((e1.trans e2).trans (Ex.new np)) ?_⟩
      exact .tup (Rd.of upd_same) (.cons ((h1.mono e2).mono (Ex.new np)) (.cons (h2.mono (Ex.new np)) .nil))
    · rw [hz] at q ⊢
      exact q
    · rw [hz] at q ⊢
      exact q
end
end EF
set_option maxHeartbeats 4000000
namespace EF
open PySem PySem.Spec PyProof.Rows L2 Evl
/-! ### a op b op c op d -/
def tChain3 (r r' r'' : R2) (ta tb tc td : TE) : TE := fun σ H Q => ta σ H fun x H1 => tb σ H1 fun y H2 => r x y H2 fun z H3 => ∃ k, z = .bl k ∧
  (if k = true then tc σ H3 fun w' H4 => r' y w' H4 fun z2 H5 => ∃ k2, z2 = .bl k2 ∧ (if k2 = true then td σ H5 fun w2 H6 => r'' w' w2 H6 Q else Q (.bl false) H5) else Q (.bl false) H3)
section
variable {X : Cx} {a b c d : Expr} {ta tb tc td : TE} {pos : Pos}
theorem pe_chain3 {op op' op'' : CmpOp} {r r' r'' : R2} (ho : OpR X (compareOp op) r) (ho' : OpR X (compareOp op') r') (ho'' : OpR X (compareOp op'') r'') (ha : PE X a ta) (hb : PE X b tb) (hc : PE X c tc) (hd : PE X d td)
    (hm : lastMarks [op, op', op''] [b, c, d] = false := by with_unfolding_all rfl) : PE X (.Compare a [op, op', op''] [b, c, d] pos) (tChain3 r r' r'' ta tb tc td) := by
  refine ⟨fun pins s σ H Q I h => ?_⟩
  refine Compare_chain (thn (ha.run pins s σ H _ I h) fun v s1 ⟨x, H1, I1, r1, q1⟩ => chain_link (thn (hb.run pins s1 σ H1 _ I1 q1) fun u s2 ⟨y, H2, I2, r2, q2⟩ =>
    thn (ho pins s2 σ H2 x y v u _ I2 r1 r2 q2) fun d s3 ⟨z, H3, I3, r3, k, e, q3⟩ => ?_)) hm
  subst e
  cases r3
  refine wpAny_truthy_bool ?_
  cases k with
  | false => exact ite_ff ⟨.bl false, H3, I3, rfl, q3⟩
  | true =>
    refine ite_tt (chain_link (thn (hc.run pins s3 σ H3 _ I3 q3) fun w' s4 ⟨z', H4, I4, r4, q4⟩ => thn (ho' pins s4 σ H4 y z' u w' _ I4 r2 r4 q4) fun d2 s5 ⟨z2, H5, I5, r5, k2, e2, q5⟩ => ?_))
    subst e2
    cases r5
    refine wpAny_truthy_bool ?_
    cases k2 with
    | false => exact ite_ff ⟨.bl false, H5, I5, rfl, q5⟩
    | true => exact ite_tt (chain_last (thn (hd.run pins s5 σ H5 _ I5 q5) fun w2 s6 ⟨z3, H6, I6, r6, q6⟩ => ho'' pins s6 σ H6 z' z3 w' w2 Q I6 r4 r6 q6))
/-! ### a list or a tuple, walked -/
def iAny (K : PySem.W.Frag) (te : TE) : TI := fun σ H R => te σ H fun x H1 => ∃ a, x = .ref a ∧ ((∃ xs, SqL K H1 a xs ∧ R (Itl K a) H1) ∨ ∃ xs, SqT K H1 a xs ∧ R (Itt K a) H1)
theorem pi_any {tg l : Expr} {tl : TE} (hl : PE X l tl) : PI X tg l (iAny X.K tl) := by
  refine ⟨fun pins s σ H R I h => ?_⟩
  refine thn (hl.run pins s σ H _ I h) fun v s1 ⟨x, H1, I1, r1, q1⟩ => ?_
  obtain ⟨a, e, q1⟩ := q1
  subst e
  cases r1
  have hfp : ∀ b ∈ [s1.heap.objs.size], FpOk X pins H1 b := fun b hb => by
    have e' : b = s1.heap.objs.size := by simpa using hb
    rw [e']
    exact I1.fpOk (Nat.le_refl _) (I1.hok.fresh (Nat.le_refl _))
  rcases q1 with ⟨xs, hq, q⟩ | ⟨xs, hq, q⟩
  · obtain ⟨its, rv, p, hz⟩ := I1.list hq
    refine wpAny_pyIter_list p.isList ?_
    exact ⟨s1.heap.objs.size, [s1.heap.objs.size], _, _, H1, rfl, I1.kept (t' := s1.toks) fun b o e => Heap.get?_push_of_some _ e, turn_list a _, ⟨_, Heap.get?_push_size _ rfl, rfl, rfl⟩, hfp, q⟩
  · obtain ⟨its, rv, p, hz⟩ := I1.tuple hq
    refine wpAny_pyIter_tuple (show s1.heap.IsTuple a its.toArray from p) ?_
    exact ⟨s1.heap.objs.size, [s1.heap.objs.size], _, _, H1, rfl, I1.kept (t' := s1.toks) fun b o e => Heap.get?_push_of_some _ e, turn_tuple a _, ⟨_, Heap.get?_push_size _ rfl, rfl, rfl⟩, hfp, q⟩
end
theorem ei_any {K : PySem.W.Frag} {σ : L2.St} {H : Hp} {tl : TE} {xs : List V} (h : EvP tl σ H (fun v H' => ∃ a, v = .ref a ∧ (SqL K H' a xs ∨ SqT K H' a xs))) : EvI (iAny K tl) σ H xs.length (fun i x _ => xs[i]? = some x) :=
  fun H1 e R q => h H1 e _ fun v H2 e2 ⟨a, ev, hs⟩ => ⟨a, ev, by
    rcases hs with hs | hs
    · exact .inl ⟨xs, hs, q _ H2 e2 ⟨_, _, walk_list, hs, fun _ _ e h => ex_l e h, fun i H3 x H4 _ _ y => by obtain ⟨rfl, y⟩ := y; exact ⟨Ex.refl _, y⟩⟩⟩
    · exact .inr ⟨xs, hs, q _ H2 e2 ⟨_, _, walk_tup, hs, fun _ _ e h => ex_t e h, fun i H3 x H4 _ _ y => by obtain ⟨rfl, y⟩ := y; exact ⟨Ex.refl _, y⟩⟩⟩⟩
/-! ### x in a list of data or in a flat list or tuple; a slice of a list or a tuple -/
def rInX (K : PySem.W.Frag) : R2 := fun x y H Q => rIn K false x y H Q ∨ rInD K x y H Q
theorem op_inX {X : Cx} (hu : X.A.units + 65 < cLine) : OpR X (compareOp .In) (rInX X.K) := op_in_seq.or (op_inD hu)
def rSlX (K : PySem.W.Frag) : V → Option Int → Option Int → Hp → VK → Prop := fun x lo hi H Q => rSlL K x lo hi H Q ∨ rSlA K x lo hi H Q
theorem sl_any {X : Cx} : SlR X (rSlX X.K) := sl_list.or sl_tupA
/-! ### keywords -/
section
variable {K : PySem.W.Frag} {x qual : Str} {params : Arguments} {body : List Stmt} {scope : Scope} {kws : List (Str × V)} {f : Addr} {fd : FuncData} {ps : List Str}
/-- every parameter is given -/
theorem kbindsA (F : FunD K x qual params body scope [] kws f fd) (n : Nat) (ks : List Str)
    (h : ∀ (kV doc pm : Value) (an : Option Addr) (cdv ct : Value) (us ws : List Value), us.length = n → ws.length = ks.length → bindArgs (PySem.W.fnOf x qual params body scope .none kV doc pm an cdv ct) ⟨us, ks.zip ws⟩ = pure (ps.zip (us ++ ws))) :
    KBn K fd ps n ks (fun us ws => us ++ ws) (fun vs zs => vs ++ zs) := by
  obtain ⟨oc, od, dV, kV, doc, pm, an, cdv, ct, osl, rfl, lk, hcd, hD, hK⟩ := F.ex
  rcases hD with ⟨_, rfl⟩ | ⟨e, _⟩
  · exact ⟨fun s us ws X l1 l2 => BindsTo.of_eq (h kV doc pm an cdv ct us ws l1 l2), fun r1 r2 => r1.append r2⟩
  · exact absurd rfl e
end
/-- o.m(k = v, ..) -/
def tMtK (C : Addr) (m : Str) (n : Nat) (sp : Sp) (gV : List V → List V → List V) (E : XK) (ta : TE) (tk : TA) : TE := fun σ H Q => ta σ H fun x H1 => ∃ a dx fs, x = .ref a ∧ H1 a = some (.ins C dx fs) ∧ fs.lookup m = none ∧ tk σ H1 fun zs H2 => zs.length = n ∧ sp (gV [x] zs) H2 Q E
structure MtK (P : Program) (w : World) (K : PySem.W.Frag) (mg : Str → Option Value) (base : Heap) (C : Addr) (k : Nat) (m : Str) (ps ks : List Str) (gV : List V → List V → List V) (sp : Sp) : Prop where
  cl : Cls K C
  ex : ∃ f fd g, Meth K C m f ∧ KBn K fd ps 1 ks g gV ∧ FnOk P w K mg base (L2.CX P w) k f fd ps sp
structure MkL (P : Program) (w : World) (K : PySem.W.Frag) (mg : Str → Option Value) (base : Heap) (x : Str) (C : Addr) (k : Nat) (ps ks : List Str) (sp : Sp) : Prop where
  gl : mg x = some (.ref C)
  ex : ∃ f fd, Mk K C f ∧ KBn K fd ps 1 ks (fun us ws => us ++ ws) (fun vs zs => vs ++ zs) ∧ FnOk P w K mg base (L2.CX P w) k f fd ps sp
structure Prp (P : Program) (w : World) (K : PySem.W.Frag) (mg : Str → Option Value) (base : Heap) (C : Addr) (k : Nat) (m : Str) (sp : Sp) : Prop where
  cl : Cls K C
  ex : ∃ p g fd, PropOf K C m p g ∧ Binds K fd ["self"] [] ∧ FnOk P w K mg base (L2.CX P w) k g fd ["self"] sp
def tPrp (C : Addr) (sp : Sp) (te : TE) : TE := fun σ H Q => te σ H fun x H1 => ∃ a dx fs, x = .ref a ∧ H1 a = some (.ins C dx fs) ∧ sp [.ref a] H1 Q E0
section
variable {X : Cx} {k : Nat} {x m : Str} {ps ks : List Str} {sp : Sp} {C : Addr} {p pos apos : Pos} {e o : Expr} {kws : List Keyword} {ta : TE} {tk : TA} {gV : List V → List V → List V}
theorem pe_mtK {pl : Sem Bool} (F : MtK X.prog X.w X.K X.mg X.base C k m ps ks gV sp) (hr : Room k X.A) (he : PE X o ta) (hkw : PK X kws tk)
    (hall : (backToKw pos (keywordEach kws X.env)).all (·.1.isSome) = true := by rfl) (hks : (backToKw pos (keywordEach kws X.env)).filterMap (·.1) = ks := by rfl)
    (hpl : ((backTo pos (starEach [] X.env)).any (·.1) || (backToKw pos (keywordEach kws X.env)).any (·.1.isNone)) = false := by rfl)
    (ht : eval (.Call (.Attribute o m apos) [] kws pos) X.env = (do
      let ov ← eval o X.env
      standAt apos.atName
      let (f, first) ← holding [ov] (getMethod ov m pl)
      callWith pos f first (backTo pos (starEach [] X.env)) (backToKw pos (keywordEach kws X.env))) := by rfl) :
    PE X (.Call (.Attribute o m apos) [] kws pos) (tMtK C m ks.length sp gV E0 ta tk) := by
  obtain ⟨f, fd, g, hm, hb, G⟩ := F.ex
  refine ⟨fun pins s σ H Q I h => ?_⟩
  refine PySem.W.methodCall_KW (pl := pl) (thn (he.run pins s σ H _ I h) fun u s1 ⟨x, H1, I1, rx, a, dx, fs, ex, ea, l, q⟩ => ?_) ht
  subst ex
  obtain rfl : u = Value.ref a := rx
  refine getmeth_ok I1 ea F.cl hm l ?_
  refine PySem.W.callWith_KW0 (first := [.ref a]) (h₀ := X.base) I1.ok.mod.kin hm.kp hall ?_ hpl
  refine thn (hkw.run pos pins s1 σ H1 _ I1 q) fun ws s2 ⟨zs, H2, I2, rz, l2, q2⟩ => ⟨I2.kIn, ?_⟩
  rw [hks]
  exact run_fnN (us := [.ref a]) (vs := [.ref a]) G hr hb passL I2 (.cons rfl .nil) rz rfl l2 q2
theorem pe_mkL (F : MkL X.prog X.w X.K X.mg X.base x C k ps ks sp) (hr : Room (k + 1) X.A) (hkw : PK X kws tk) (hg : Gl X x := by rfl)
    (hall : (backToKw pos (keywordEach kws X.env)).all (·.1.isSome) = true := by rfl) (hks : (backToKw pos (keywordEach kws X.env)).filterMap (·.1) = ks := by rfl) (hdb : (x == ("__debug__" : Str)) = false := by decide)
    (hpl : ((backTo pos (starEach [] X.env)).any (·.1) || (backToKw pos (keywordEach kws X.env)).any (·.1.isNone)) = false := by rfl) :
    PE X (.Call (.Name x p) [] kws pos) (tMakeK C 0 ks.length sp (fun vs zs => vs ++ zs) E0 tNil tk) := by
  obtain ⟨f, fd, M, hb, G⟩ := F.ex
  exact pe_makeK0 M G hr hg F.gl hb passL hkw hall hks hdb hpl
theorem pe_prp (F : Prp X.prog X.w X.K X.mg X.base C k m sp) (hr : Room (k + 1) X.A) (he : PE X e ta) (hab : attributeBase e m X.env (eval e X.env) = eval e X.env := by rfl) : PE X (.Attribute e m pos) (tPrp C sp ta) := by
  obtain ⟨p, g, fd, hp, hb, G⟩ := F.ex
  exact pe_prop he F.cl hp G hr hb .nil passL hab
end
end EF
set_option maxHeartbeats 4000000
namespace EF
open PySem PySem.Spec PyProof.Rows L2 Evl
theorem nameOk_len {x : Str} (h : nameOk x = true) : 1 ≤ x.length ∧ x.length ≤ 12 := by
  unfold nameOk at h
  simp only [Bool.and_eq_true, decide_eq_true_eq] at h
  exact ⟨h.1.1.1, h.1.1.2⟩
theorem nameOk_hd {x : Str} (h : nameOk x = true) : ∃ c r, x.cps.toList = c :: r ∧ c ∉ ("0123456789" : Str).cps.toList := by
  unfold nameOk at h
  simp only [Bool.and_eq_true] at h
  have h := h.1.2
  cases q : x.cps.toList with
  | nil => rw [q] at h; cases h
  | cons c r =>
    rw [q] at h
    exact ⟨c, r, rfl, of_decide_eq_true h⟩
theorem nameOk_all {x : Str} (h : nameOk x = true) : ∀ c ∈ x.cps.toList, c ∈ ("abcdefghijklmnopqrstuvwxyz0123456789" : Str).cps.toList := by
  unfold nameOk at h
  simp only [Bool.and_eq_true] at h
  intro c hc
  have := List.all_eq_true.mp h.2 c hc
  exact of_decide_eq_true this
theorem nameOk_str {x : Str} (h : nameOk x = true) : PyData.strOk x = true := by
  unfold PyData.strOk
  rw [← Array.all_toList, List.all_eq_true]
  intro c hc
  have h1 := nameOk_all h c hc
  have h2 : ∀ d ∈ ("abcdefghijklmnopqrstuvwxyz0123456789" : Str).cps.toList, d < 0x110000 := by decide +kernel
  exact decide_eq_true (h2 c h1)
/-- pairs of names as data -/
def npD (q : Str × Str) : PyData := .tuple [.str q.1, .str q.2]
theorem np_depth (q : Str × Str) : (npD q).depth = 1 := by simp [npD, PyData.depth, PyData.depthAll]
theorem nps_depth : ∀ l : List (Str × Str), PyData.depthAll (l.map npD) ≤ 1
  | [] => by simp [PyData.depthAll]
  | q :: l => by
    have h := nps_depth l
    simp only [List.map_cons, PyData.depthAll, np_depth]
    omega
theorem np_lay {q : Str × Str} (h : PyData.strOk q.1 = true ∧ PyData.strOk q.2 = true) : (npD q).canLay0 = true := by
  simp [npD, PyData.canLay0, PyData.canLayAll0, h.1, h.2]
theorem nps_lay : ∀ {l : List (Str × Str)}, (∀ q ∈ l, PyData.strOk q.1 = true ∧ PyData.strOk q.2 = true) → PyData.canLayAll0 (l.map npD) = true
  | [], _ => rfl
  | q :: l, h => by
    simp only [List.map_cons, PyData.canLayAll0, np_lay (h q (by simp)), nps_lay (l := l) fun r hr => h r (by simp [hr]), Bool.and_true]
theorem np_shaped {q : Str × Str} (h : PyData.strOk q.1 = true ∧ PyData.strOk q.2 = true) : SeqAt.shaped (npD q) = true := by
  unfold SeqAt.shaped
  rw [np_lay h, np_depth]
  rfl
theorem nps_shaped {l : List (Str × Str)} (h : ∀ q ∈ l, PyData.strOk q.1 = true ∧ PyData.strOk q.2 = true) : SeqAt.shaped (.list (l.map npD)) = true := by
  unfold SeqAt.shaped
  have h1 := nps_depth l
  have h2 : (PyData.list (l.map npD)).canLay0 = true := by simp only [PyData.canLay0]; exact nps_lay h
  have h3 : (PyData.list (l.map npD)).depth = PyData.depthAll (l.map npD) + 1 := by simp [PyData.depth] <;> omega
  rw [h2, h3, decide_eq_true (by omega)]
  rfl
theorem np_eqv {a b : Str × Str} : PyData.eqv (npD a) (npD b) = decide (a = b) := by
  obtain ⟨a1, a2⟩ := a
  obtain ⟨b1, b2⟩ := b
  have h1 : (PyData.str a1).eqv (.str b1) = (a1 == b1) := by simp [PyData.eqv]
  have h2 : (PyData.str a2).eqv (.str b2) = (a2 == b2) := by simp [PyData.eqv]
  simp only [npD, PyData.eqv, PyData.eqvAll]
  by_cases c1 : a1 = b1
  · by_cases c2 : a2 = b2
    · simp [c1, c2]
    · simp [c1, c2]
  · simp [c1]
theorem walk_enumT {a : Addr} {xs : List V} : Walk (IteT a) xs.length (fun H => Rd H a (.tup xs)) (YPair (fun i => some (.int (i : Nat))) (fun i => xs[i]?)) := by
  refine ⟨fun i _ hi q => ⟨xs, xs[i], q, by simp [hi]⟩, fun _ q => ⟨xs, q, rfl⟩, fun i H v H' _ q y => ?_⟩
  obtain ⟨T, x, h1, h2, h3, h4⟩ := y
  exact ⟨T, .int (i : Nat), x, h1, h2, h3, rfl, h4 xs q⟩
theorem nodup_not_before {α : Type} {l : List α} (h : l.Nodup) {i : Nat} {a : α} (hi : l[i]? = some a) : a ∉ l.take i := by
  intro hm
  obtain ⟨j, hj⟩ := List.getElem?_of_mem hm
  have hj1 : j < i := by
    have := (List.getElem?_eq_some_iff.mp hj).1
    rw [List.length_take] at this
    omega
  rw [List.getElem?_take] at hj
  rw [if_pos hj1] at hj
  obtain ⟨h1, e1⟩ := List.getElem?_eq_some_iff.mp hj
  obtain ⟨h2, e2⟩ := List.getElem?_eq_some_iff.mp hi
  exact List.pairwise_iff_getElem.mp h j i h1 h2 hj1 (e1.trans e2.symm)
theorem cutTo (xs : List V) (n : Nat) : cutV xs none (some (n : Int)) = xs.take n := by
  unfold cutV
  have e : HT.sIx xs.length 0 none = 0 := rfl
  rw [e, HT.sIx_nat]
  simp only [List.drop_zero, Nat.sub_zero]
  rw [List.take_eq_take_iff]
  omega
section
variable {P : Program} {w : World} {K : PySem.W.Frag} {mg : Str → Option Value} {base : Heap}
def R_require : List V → Hp → Post → Prop := fun vs H Po => vs = [.bl true] ∧ Po = fun v _ => v = .non
theorem sc_require : FnScope ["holds"] ["holds"] (defScope s_require) := ⟨rfl, rfl, rfl, by decide +kernel, rfl, by decide +kernel, by decide +kernel⟩
theorem ok_require (S : Says K mg) : Fn P w K mg base 1 "require" ["holds"] (spR R_require) := by
  obtain ⟨fd, F⟩ := S.def_require
  refine ⟨⟨_, fd, S.g_require, F.kp, F.bindsN (fun _ _ _ _ _ _ us hl => match us, hl with | [_], _ => rfl), F.ok sc_require (fun vs H Q E h => ?_) (fun cdv A outer s H vs Q E hr h => ?_)⟩⟩
  · obtain ⟨_, ⟨rfl, _⟩, _⟩ := h
    rfl
  · obtain ⟨_, ⟨rfl, rfl⟩, q⟩ := h
    refine ⟨_, PSs.nox ((pss_one (ps_if (pt_not (pt_val (pv 0))) (pss_one ps_never) pss_nil))), ?_⟩
    exact r_if (et_not (et_B (ev_var (by rfl)))) (fun c => by cases c) fun _ H1 e1 => q _ H1 e1 rfl
def R_is_name : List V → Hp → Post → Prop := fun vs H Po => ∃ x, vs = [.str x] ∧ nameOk x = true ∧ Po = fun v _ => v = .bl true
theorem sc_is_name : FnScope ["text", "char"] ["text"] (defScope s_is_name) := ⟨rfl, rfl, rfl, by decide +kernel, rfl, by decide +kernel, by decide +kernel⟩
theorem ok_is_name (S : Says K mg) : Fn P w K mg base 1 "is_name" ["text"] (spR R_is_name) := by
  obtain ⟨fd, F⟩ := S.def_is_name
  refine ⟨⟨_, fd, S.g_is_name, F.kp, F.bindsN (fun _ _ _ _ _ _ us hl => match us, hl with | [_], _ => rfl), F.ok sc_is_name (fun vs H Q E h => ?_) (fun cdv A outer s H vs Q E hr h => ?_)⟩⟩
  · obtain ⟨_, ⟨_, rfl, _⟩, _⟩ := h
    rfl
  · obtain ⟨_, ⟨x, rfl, hx, rfl⟩, q⟩ := h
    refine ⟨_, PSs.nox ((pss_cons (ps_if (PW.pt (pw_or (pt_not (pt_chain op_le op_le pe_int (pe_callB call_len_str (by rfl) S.f_len PySem.boot_len (pa_cons (pv 0) pa_nil)) (pe_gint S.i_MOST_NAME_CHARS))) (pw_or1 (pt_cmpR op_in_sign (pe_ix ix_str (pv 0) pe_int (fun _ _ => rfl)) pe_str (by with_unfolding_all rfl))))) (pss_one (ps_ret pe_bl)) pss_nil)
    (pss_one (ps_ret (pe_callB (cr_all rfl) (by rfl) S.f_all (by decide +kernel) (pa_cons (pe_lc (own := [("char", 1)]) (g := (gName 1)) (tt := tYes) (te := (tOp _ (tVar 1) (tC (.str "abcdefghijklmnopqrstuvwxyz0123456789")))) rfl sc_is_name.nd (pi_str (pv 0)) (blkOk_by (N := ["text", "char"]) (sc := defScope s_is_name) (by decide +kernel)) (fun _ _ _ _ _ => (pg_name (i := 1) sc_is_name.nd rfl (by first | exact Or.inl rfl | exact Or.inr rfl))) (fun _ _ _ _ _ => pts_nil) (fun _ _ _ _ _ => (pe_cmpR op_in_sign (pv 1) (pe_gstr S.str_NAME_CHARS) (by with_unfolding_all rfl)))) pa_nil)))))), ?_⟩
    obtain ⟨hl1, hl2⟩ := nameOk_len hx
    obtain ⟨c0, r0, hc, hd⟩ := nameOk_hd hx
    have hall := nameOk_all hx
    refine r_seq (r_if (c := false) (et_or (a := false) (b := false) (et_is (et_not (et_test (ev_chain (x := .int 1) (y := .int x.length) (z := .int 12) (a := true) (b := true) ev_c (ev_cb (ea_cons (ev_var (by rfl)) ea_nil) fun H1 _ Q1 q1 => ⟨x, rfl, sz_of (by omega), q1 H1 (Ex.refl _)⟩) ev_c ?_ fun _ => ?_))) rfl) fun _ => et_is (et_test (ev_op (x := .str ⟨#[c0]⟩) (y := .str "0123456789") (ev_op (x := .str x) (y := .int 0) (ev_var (by rfl)) ev_c (rv_ixS (by omega) (by rw [hc]; exact atI_nat (j := 0) rfl))) ev_c fun H1 _ Q1 q1 => ⟨c0, _, rfl, rfl, q1 H1 (Ex.refl _)⟩)) (by simp [hd])) (fun c => by cases c) fun _ H1 e1 => gn ?_)
    · rw [show V.bl true = V.bl (decide ((1 : Int) ≤ ((x.length : Nat) : Int))) by rw [decide_eq_true]; omega]
      exact rv_I0
    · rw [show V.bl true = V.bl (decide (((x.length : Nat) : Int) ≤ (12 : Int))) by rw [decide_eq_true]; omega]
      exact rv_I0
    · have hz : x.cps.size = x.cps.toList.length := by simp
      refine s_retP (P := fun v _ => v = .bl true) ((ep_ev (ev_all (L := x.cps.toList) (b := fun _ => true) (ep_lc x.cps.toList _ (ei_str (z := x) (ev_var (by rfl))) hz (by have : x.cps.size = x.length := rfl; omega) (fun _ _ d h => by cases h; rfl) (fun i y c H2 e2 hc2 hy => ?_)))).imp fun v H2 _ ev => by rw [ev]; simp) fun v H2 e2 ev => q v H2 (e1.trans e2) ev
      obtain ⟨c', hc', rfl⟩ := hy
      have : c' = c := by
        rw [← Array.getElem?_toList, hc2] at hc'
        exact (Option.some.inj hc').symm
      subst this
      intro H3 e3 Qk Qn hk hn
      refine lcY rfl ⟨_, rfl, c', _, rfl, rfl, ?_⟩
      rw [decide_eq_true (hall c' (List.mem_of_getElem? hc2))]
      exact hk _ rfl _ H3 (Ex.refl _) (.bl _)
def R_are_different : List V → Hp → Post → Prop := fun vs H Po => ∃ v, vs = [v] ∧ ((∃ zs : List Str, Dt H v (.tuple (zs.map .str)) ∧ zs.length < 1000 ∧ zs.Nodup) ∨ ∃ ps : List (Str × Str), Dt H v (.list (ps.map npD)) ∧ ps.length < 1000 ∧ ps.Nodup ∧ ∀ q ∈ ps, PyData.strOk q.1 = true ∧ PyData.strOk q.2 = true) ∧ Po = fun v _ => v = .bl true
theorem sc_are_different : FnScope ["parts", "number", "part"] ["parts"] (defScope s_are_different) := ⟨rfl, rfl, rfl, by decide +kernel, rfl, by decide +kernel, by decide +kernel⟩
theorem ok_are_different (S : Says K mg) : Fn P w K mg base 1 "are_different" ["parts"] (spR R_are_different) := by
  obtain ⟨fd, F⟩ := S.def_are_different
  refine ⟨⟨_, fd, S.g_are_different, F.kp, F.bindsN (fun _ _ _ _ _ _ us hl => match us, hl with | [_], _ => rfl), F.ok sc_are_different (fun vs H Q E h => ?_) (fun cdv A outer s H vs Q E hr h => ?_)⟩⟩
  · obtain ⟨_, ⟨_, rfl, _⟩, _⟩ := h
    rfl
  · obtain ⟨_, ⟨v, rfl, hv, rfl⟩, q⟩ := h
    have hu65 := hu65_of hr
    refine ⟨_, PSs.nox ((pss_cons (ps_for PassesOwn.never rfl (pi_enumA rfl S.f_enumerate (pa_cons (pv 0) pa_nil)) (pg_tup rfl (pgs_cons (pg_name (i := 1) sc_are_different.nd rfl (by first | exact Or.inl rfl | exact Or.inr rfl)) (pgs_cons (pg_name (i := 2) sc_are_different.nd rfl (by first | exact Or.inl rfl | exact Or.inr rfl)) pgs_nil)))
      (pss_one (ps_if (pt_cmpR (op_inX hu65) (pv 2) (pe_slice sl_any (pv 0) po_none (po_some (pv 1))) (by with_unfolding_all rfl)) (pss_one (ps_ret pe_bl)) pss_nil)))
    (pss_one (ps_ret pe_bl)))), ?_⟩
    rcases hv with ⟨zs, hv, hz, hnd⟩ | ⟨ps, hv, hz, hnd, hok⟩
    · obtain ⟨a, xs, rfl, ha, hd⟩ := hv.tup_at
      have hxs := hd.strs
      subst hxs
      refine ⟨_, rfl, a, zs.map V.str, rfl, .inr ⟨ha, ?_⟩⟩
      refine for_it walk_enumT (fun i σ' H' => (∃ x1 x2, σ' = [some (.ref a), x1, x2]) ∧ Ex H H') ⟨⟨_, _, rfl⟩, Ex.refl _⟩ (fun i σ' H' _ h => ex_rd h.2 ha) ?_ ?_
      · rintro i x σ' H1 H2 hi ⟨⟨x1, x2, rfl⟩, eH⟩ ⟨T, y1, y2, rfl, nT, rfl, k1, k2⟩
        have k1 : some (V.int (i : Nat)) = some y1 := k1
        have k2 : (zs.map V.str)[i]? = some y2 := k2
        obtain ⟨z, hz1, rfl⟩ : ∃ z, zs[i]? = some z ∧ V.str z = y2 := by
          rw [List.getElem?_map] at k2
          exact Option.map_eq_some_iff.mp k2
        cases k1
        have eT := Ex.new (o := .tup [V.int (i : Nat), V.str z]) nT
        refine ⟨T, _, rfl, .inl (.inl upd_same), rfl, _, _, rfl, _, _, rfl, rfl, ?_⟩
        have e1 := eH.trans eT
        have hnot := nodup_not_before hnd hz1
        have hin : inV (.str z) ((zs.take i).map V.str) = false := by rw [inV_strs]; simpa using hnot
        refine ⟨_, rfl, _, rfl, _, rfl, i, rfl, ?_⟩
        have hcut : cutV (zs.map V.str) none (some (i : Int)) = (zs.take i).map V.str := by rw [cutTo, List.map_take]
        refine .inr ⟨a, zs.map V.str, rfl, .inl (ex_rd e1 ha), fun hw => ?_, fun hw p np => ?_⟩
        · have hlt : i < zs.length := by simpa using hi
          rw [HT.sIx_nat] at hw
          have := hw.2
          rw [List.length_map] at this
          omega
        · refine .inl ⟨p, (zs.take i).map V.str, rfl, .inr (.inl (.inl (by rw [← hcut]; exact upd_same))), rfl, flat_strs _, ?_⟩
          refine ⟨_, rfl, ?_⟩
          rw [hin]
          exact iteF (A := False) ⟨⟨_, _, rfl⟩, e1.trans (Ex.new np)⟩
      · rintro σ' H1 ⟨⟨x1, x2, rfl⟩, eH⟩
        exact gn (q _ H1 eH rfl)
    · obtain ⟨a, xs, rfl, ha, hd⟩ := hv.lst_at
      have hl := hd.map_len
      refine ⟨_, rfl, a, xs, rfl, .inl ⟨SqL.of ha, ?_⟩⟩
      refine for_it walk_enum (fun i σ' H' => (∃ x1 x2, σ' = [some (.ref a), x1, x2]) ∧ Ex H H') ⟨⟨_, _, rfl⟩, Ex.refl _⟩ (fun i σ' H' _ h => SqL.of (h.2 _ _ ha)) ?_ ?_
      · rintro i x σ' H1 H2 hi ⟨⟨x1, x2, rfl⟩, eH⟩ ⟨T, y1, y2, rfl, nT, rfl, k1, k2⟩
        have k1 : some (V.int (i : Nat)) = some y1 := k1
        have k2 : xs[i]? = some y2 := k2
        have hi' : i < ps.length := by rw [← hl]; exact hi
        obtain ⟨r, hr1⟩ : ∃ r, ps[i]? = some r := ⟨_, List.getElem?_eq_getElem hi'⟩
        cases k1
        have eT := Ex.new (o := .tup [V.int (i : Nat), y2]) nT
        have e1 := eH.trans eT
        have hy := (hd.map_at k2 hr1).mono e1
        refine ⟨T, _, rfl, .inl (.inl upd_same), rfl, _, _, rfl, _, _, rfl, rfl, ?_⟩
        have hnot := nodup_not_before hnd hr1
        refine ⟨_, rfl, _, rfl, _, rfl, i, rfl, ?_⟩
        refine .inl ⟨a, xs, rfl, SqL.of (e1 _ _ ha), fun p np => ?_⟩
        rw [cutTo]
        have hdt : DtA (upd (upd H1 T (.tup [V.int (i : Nat), y2])) p (.lst (xs.take i))) (xs.take i) ((ps.take i).map npD) := by
          have := (hd.take i).mono (e1.trans (Ex.new (o := .lst (xs.take i)) np))
          rwa [← List.map_take] at this
        have hr2 := hok r (List.mem_of_getElem? hr1)
        have hany : (((ps.take i).map npD).any fun z => PyData.eqv z (npD r)) = false := by
          rw [List.any_eq_false]
          intro z hz1
          obtain ⟨r', hr', rfl⟩ := List.mem_map.mp hz1
          rw [np_eqv]
          intro e
          have e2 := of_decide_eq_true e
          subst e2
          exact hnot hr'
        refine .inr ⟨npD r, (ps.take i).map npD, (hy.mono (Ex.new np)).dp, .lst (SqL.of upd_same) hdt.dp, np_shaped hr2, nps_shaped fun q hq => hok q (List.mem_of_mem_take hq), ?_⟩
        rw [hany]
        exact ⟨_, rfl, iteF (A := False) ⟨⟨_, _, rfl⟩, e1.trans (Ex.new np)⟩⟩
      · rintro σ' H1 ⟨⟨x1, x2, rfl⟩, eH⟩
        exact gn (q _ H1 eH rfl)
end
end EF
set_option maxHeartbeats 4000000
namespace EF
open PySem PySem.Spec PyProof.Rows L2 Evl
section
variable {K : PySem.W.Frag} {σ : L2.St} {H : Hp} {te ta tb tc td to : TE} {tz : TS} {D : Ends} {P : Post} {x y z u v : V} {r r' r'' : R2} {b : Bool}
theorem s_appendP {l : Addr} {xs : List V} (ho : Ev to σ H (.ref l)) (hl : H l = some (.lst xs)) (hz : xs.length < 100000) (hy : EvP te σ H P) (k : ∀ v H1, Ex H H1 → P v H1 → D.nx σ (upd H1 l (.lst (xs ++ [v])))) : tDrop (tBM K "list" rAppend to (tCons te tNil)) D σ H :=
  ho H (Ex.refl H) _ fun H1 e1 => ⟨.inl ⟨rfl, _, SqL.of (e1 _ _ hl)⟩, hy H1 e1 _ fun v H2 e2 p => ⟨l, xs, v, rfl, rfl, e2 _ _ (e1 _ _ hl), sz_lt hz, k v H2 (e1.trans e2) p⟩⟩
theorem ep_tupL {ds : List PyData} (h : EvP te σ H (fun v H' => ∃ p ys, v = .ref p ∧ H' p = some (.lst ys) ∧ DtA H' ys ds)) : EvP (tCB (rTupOf K) (tCons te tNil)) σ H (fun v H' => ∃ a ys, v = .ref a ∧ PlT H' a ys ∧ DtA H' ys ds) := fun H1 e Q q =>
  h H1 e _ fun v H2 e2 ⟨p, ys, ev, hp, hd⟩ => ⟨p, ys, by rw [ev], .inl ⟨SqL.of hp, fun l o nl ho => q _ _ (e2.trans (Ex.new nl)) ⟨l, ys, rfl, ⟨o, upd_same, ho⟩, hd.mono (Ex.new nl)⟩⟩⟩
theorem ev_tupT {a : Addr} {xs : List V} (h : Ev te σ H (.ref a)) (ha : Rd H a (.tup xs)) : Ev (tCB (rTupOf K) (tCons te tNil)) σ H (.ref a) := fun H1 e Q q => h H1 e _ fun H2 e2 => ⟨a, xs, rfl, .inr ⟨.inl (ex_rd (e.trans e2) ha), q H2 e2⟩⟩
theorem ev_chain3 (ha : Ev ta σ H x) (hb : Ev tb σ H y) (hc : Ev tc σ H z) (hd : Ev td σ H u) (h1 : RV r x y H (.bl true)) (h2 : RV r' y z H (.bl true)) (h3 : RV r'' z u H (.bl b)) : Ev (tChain3 r r' r'' ta tb tc td) σ H (.bl b) := fun H1 e Q q =>
  ha H1 e _ fun H2 e2 => hb H2 (e.trans e2) _ fun H3 e3 => h1 H3 ((e.trans e2).trans e3) _ fun H4 e4 => ⟨true, rfl, iteT (hc H4 (((e.trans e2).trans e3).trans e4) _ fun H5 e5 => h2 H5 ((((e.trans e2).trans e3).trans e4).trans e5) _ fun H6 e6 =>
    ⟨true, rfl, iteT (hd H6 (((((e.trans e2).trans e3).trans e4).trans e5).trans e6) _ fun H7 e7 => h3 H7 ((((((e.trans e2).trans e3).trans e4).trans e5).trans e6).trans e7) Q fun H8 e8 => q H8 ((((((e2.trans e3).trans e4).trans e5).trans e6).trans e7).trans e8))⟩)⟩
theorem ev_andV (h1 : Ev ta σ H (.bl true)) (h2 : Ev tb σ H (.bl b)) : Ev (tAndV ta tb) σ H (.bl b) := fun H1 e Q q => h1 H1 e _ fun H2 e2 => ⟨true, rfl, iteT (h2 H2 (e.trans e2) Q fun H3 e3 => q H3 (e2.trans e3))⟩
theorem rv_eqT (h : scal x x = true) (e : x = y) : RV rEq x y H (.bl true) := fun H1 _ _ q => ⟨by rw [← e]; exact h, by rw [decide_eq_true e]; exact q H1 (Ex.refl H1)⟩
theorem rv_leT {i j : Int} (h : i ≤ j) : RV (rI0 fun i j => .bl (decide (i ≤ j))) (.int i) (.int j) H (.bl true) := fun H1 _ Q q => ⟨i, j, rfl, rfl, by show Q (V.bl (decide (i ≤ j))) H1; rw [decide_eq_true h]; exact q H1 (Ex.refl H1)⟩
theorem s_req (h : Ev te σ H (.bl true)) (k : ∀ H1, Ex H H1 → tz D σ H1) : tSeq (tDrop (tCl (spR R_require) E0 (tCons te tNil))) tz D σ H :=
  q_dropP (ep_call (R := R_require) (ea_cons h ea_nil) fun H1 e1 => ⟨rfl, rfl⟩) fun v H1 e1 _ => k H1 e1
theorem ev_lenT {p : Addr} {xs : List V} (ha : Ev ta σ H (.ref p)) (h : SqT K H p xs) : Ev (tCB (fun xs H Q => ∃ p ys, xs = [V.ref p] ∧ (SqL K H p ys ∨ SqT K H p ys) ∧ Q (.int ys.length) H) (tCons ta tNil)) σ H (.int (xs.length : Int)) := fun H1 e Q q =>
  ha H1 e _ fun H2 e2 => ⟨p, xs, rfl, .inr (ex_t (e.trans e2) h), q H2 e2⟩
theorem ev_lenX {p : Addr} {xs : List V} (ha : Ev ta σ H (.ref p)) (h : SqL K H p xs ∨ SqT K H p xs) : Ev (tCB (fun xs H Q => ∃ p ys, xs = [V.ref p] ∧ (SqL K H p ys ∨ SqT K H p ys) ∧ Q (.int ys.length) H) (tCons ta tNil)) σ H (.int (xs.length : Int)) := fun H1 e Q q =>
  ha H1 e _ fun H2 e2 => ⟨p, xs, rfl, h.imp (ex_l (e.trans e2)) (ex_t (e.trans e2)), q H2 e2⟩
end
section
variable {P : Program} {w : World} {K : PySem.W.Frag} {mg : Str → Option Value} {base : Heap}
def R_checked_times : List V → Hp → Post → Prop := fun vs H Po => ∃ v t, vs = [v, .int ((t : Tms).length : Nat)] ∧ Dt H v (tmsD t) ∧ t.length < 1000 ∧ (∀ q : Int × Int, some q ∈ t → 1 ≤ q.1 ∧ q.1 ≤ q.2 ∧ q.2 ≤ 1000) ∧ Po = fun v H' => Dt H' v (tmsD t)
theorem sc_checked_times : FnScope ["times", "many", "found", "pair"] ["times", "many"] (defScope s_checked_times) := ⟨rfl, rfl, rfl, by decide +kernel, rfl, by decide +kernel, by decide +kernel⟩
theorem ok_checked_times (S : Says K mg) : Fn P w K mg base 2 "checked_times" ["times", "many"] (spR R_checked_times) := by
  have G_require := ok_require (P := P) (w := w) (base := base) S
  obtain ⟨fd, F⟩ := S.def_checked_times
  refine ⟨⟨_, fd, S.g_checked_times, F.kp, F.bindsN (fun _ _ _ _ _ _ us hl => match us, hl with | [_, _], _ => rfl), F.ok sc_checked_times (fun vs H Q E h => ?_) (fun cdv A outer s H vs Q E hr h => ?_)⟩⟩
  · obtain ⟨_, ⟨_, _, rfl, _⟩, _⟩ := h
    rfl
  · obtain ⟨_, ⟨v, t, rfl, hv, hz, ht, rfl⟩, q⟩ := h
    obtain ⟨a, xs, rfl, ha, hd⟩ := hv.tup_at
    have hl := hd.map_len
    refine ⟨_, PSs.nox ((pss_cons (ps_expr (pe_fn G_require (hr.mono (by decide)) (pa_cons (pe_cmpR op_eq (pe_callB call_len_seq (by rfl) S.f_len PySem.boot_len (pa_cons (pv 0) pa_nil)) (pv 1) (nomark _)) pa_nil)))
    (pss_cons (ps_set (i := 2) sc_checked_times.nd rfl (by first | exact Or.inl rfl | exact Or.inr rfl) (pe_lst pa_nil))
    (pss_cons (ps_for PassesOwn.never rfl (pi_tup (pv 0)) (pg_name (i := 3) sc_checked_times.nd rfl (by first | exact Or.inl rfl | exact Or.inr rfl))
      (pss_cons (ps_if (pt_cmpR op_notN (pv 3) pe_non (nomark _)) (pss_cons (ps_expr (pe_fn G_require (hr.mono (by decide)) (pa_cons (pe_and (pe_cmpR op_eq (pe_callB call_len_seq (by rfl) S.f_len PySem.boot_len (pa_cons (pv 3) pa_nil)) pe_int (nomark _)) (pe_one (pe_chain3 op_le op_le op_le pe_int (pe_ix ix_tup (pv 3) pe_int (fun _ _ => rfl)) (pe_ix ix_tup (pv 3) pe_int (fun _ _ => rfl)) (pe_gint S.i_MOST_MINUTES)))) pa_nil)))
    (pss_one (ps_set (i := 3) sc_checked_times.nd rfl (by first | exact Or.inl rfl | exact Or.inr rfl) (pe_callTy call_tupF (by rfl) S.f_tuple (by decide +kernel) (pa_cons (pv 3) pa_nil))))) pss_nil)
    (pss_one (ps_expr (pe_bm PySem.F.plainAttrs_list PySem.F.slot_list_append PySem.F.type_list_append mt_append (pv 2) (pa_cons (pv 3) pa_nil))))))
    (pss_one (ps_ret (pe_callTy call_tupF (by rfl) S.f_tuple (by decide +kernel) (pa_cons (pv 2) pa_nil)))))))), ?_⟩
    refine s_req (ev_op (ev_lenT (K := K) (ev_var (by rfl)) (.inl ha)) (ev_var (by rfl)) (rv_eqT (by rfl) (by rw [hl]))) fun H1 e1 => ?_
    refine q_asgL (el_lst ea_nil (by decide)) fun p H2 np e2 hp => ?_
    have npH : H p = none := fresh_back e1 np
    have e02 := e1.trans e2
    refine r_seq (s_forT (ev_var (by rfl)) (.inl (ex_rd e02 ha)) (fun i σ' H' => (∃ x3, σ' = [some (.ref a), some (.int (t.length : Nat)), some (.ref p), x3]) ∧ Ex H H' ∧ ∃ acc, H' p = some (.lst acc) ∧ DtA H' acc ((t.take i).map paD) ∧ acc.length = min i t.length) (fun H3 e3 => ⟨⟨_, rfl⟩, e02.trans e3, [], e3 _ _ hp, by simp; exact .nil, by simp⟩) (fun i σ' H' _ h => .inl (ex_rd h.2.1 ha)) (fun i x σ' H' hx h => ?_) (fun σ' H' h => ?_))
    · obtain ⟨⟨x3, rfl⟩, eH, acc, hacc, hdA, hal⟩ := h
      have hi : i < t.length := by have := (List.getElem?_eq_some_iff.mp hx).1; omega
      obtain ⟨r, hr1⟩ : ∃ r, t[i]? = some r := ⟨_, List.getElem?_eq_getElem hi⟩
      have hxd := (hd.map_at hx hr1).mono eH
      have htake : (t.take (i + 1)).map paD = (t.take i).map paD ++ [paD r] := by rw [List.take_succ, hr1, List.map_append]; rfl
      have fin : ∀ H3, Ex H' H3 → (∃ x3, ([some (.ref a), some (.int (t.length : Nat)), some (.ref p), some x] : L2.St) = [some (.ref a), some (.int (t.length : Nat)), some (.ref p), x3]) ∧ Ex H (upd H3 p (.lst (acc ++ [x]))) ∧ ∃ acc', (upd H3 p (.lst (acc ++ [x]))) p = some (.lst acc') ∧ DtA (upd H3 p (.lst (acc ++ [x]))) acc' ((t.take (i + 1)).map paD) ∧ acc'.length = min (i + 1) t.length := fun H3 e3 => by
        refine ⟨⟨_, rfl⟩, Ex.mut (eH.trans e3) npH, acc ++ [x], upd_same, ?_, by simp; omega⟩
        have nt : NoTup (H3 p) := by rw [e3 _ _ hacc]; trivial
        rw [htake]
        refine DtA.snoc (DtA.upd nt ?_ (hdA.mono e3)) (Dt.upd nt (noL_pa r) (hxd.mono e3))
        rw [noLs_all]
        intro y hy
        obtain ⟨q', _, rfl⟩ := List.mem_map.mp hy
        exact noL_pa q'
      cases r with
      | none =>
        have ex := hxd.non_eq
        subst ex
        refine r_seq (r_if (c := false) (et_is (et_test (ev_op (x := .non) (ev_var (by rfl)) ev_c rv_notN)) (by simp)) (fun c => by cases c) fun _ H3 e3 => gn ?_)
        exact s_appendP (P := fun v _ => v = .non) (ev_var (by rfl)) (e3 _ _ hacc) (by omega) (ep_ev (ev_var (by rfl))) fun v H4 e4 ev => by subst ev; exact fin H4 (e3.trans e4)
      | some ab =>
        obtain ⟨pa, y1, y2, rfl, hpr, g1, g2⟩ := dt_tup2 hxd
        have g1 := g1.int_eq
        have g2 := g2.int_eq
        subst g1 g2
        obtain ⟨h1, h2, h3⟩ := ht ab (List.mem_of_getElem? hr1)
        refine r_seq (r_if (c := true) (et_is (et_test (ev_op (x := .ref pa) (ev_var (by rfl)) ev_c rv_notN)) (by simp)) (fun _ H3 e3 => ?_) fun c => by cases c)
        have hpr3 := ex_rd e3 hpr
        refine s_req (ev_andV (ev_op (ev_lenT (K := K) (ev_var (by rfl)) (.inl hpr3)) ev_c (rv_eqT (by rfl) (by rfl))) (ev_chain3 ev_c (ev_op (ev_var (by rfl)) ev_c (rv_ixT (.inl hpr3) (v := .int ab.1) (by rfl))) (ev_op (ev_var (by rfl)) ev_c (rv_ixT (.inl hpr3) (v := .int ab.2) (by rfl))) ev_c (rv_leT h1) (rv_leT h2) (rv_leT h3))) fun H4 e4 => ?_
        refine s_asgP (ep_ev (ev_tupT (ev_var (by rfl)) (ex_rd e4 hpr3))) fun v H5 e5 ev => ?_
        subst ev
        refine gn ?_
        exact s_appendP (P := fun v _ => v = .ref pa) (ev_var (by rfl)) (e5 _ _ (e4 _ _ (e3 _ _ hacc))) (by omega) (ep_ev (ev_var (by rfl))) fun v H6 e6 ev => by subst ev; exact fin H6 (e3.trans (e4.trans (e5.trans e6)))
    · obtain ⟨⟨x3, rfl⟩, eH, acc, hacc, hdA, hal⟩ := h
      rw [hl, List.take_length] at hdA
      refine gn (s_retP (ep_tupL (ds := t.map paD) ((ep_ev (ev_var (by rfl))).imp fun v H1 e ev => ⟨p, acc, ev, e _ _ hacc, hdA.mono e⟩)) fun v H1 e1 ⟨a', ys, ev, hpl, hd'⟩ => q v H1 (eH.trans e1) ?_)
      subst ev
      exact .tup hpl.rd hd'
end
end EF
set_option maxHeartbeats 4000000
namespace EF
open PySem PySem.Spec PyProof.Rows L2 Evl
theorem ev_isX {K : PySem.W.Frag} {σ : L2.St} {H : Hp} {ta tb : TE} {z : Str} {p : Addr} {l : List Str} (ha : Ev ta σ H (.str z)) (hb : Ev tb σ H (.ref p)) (h : SqT K H p (l.map V.str)) (hz : z ∈ l) : Ev (tOp (rIn K false) ta tb) σ H (.bl true) := by
  have := ev_op ha hb (rv_isT h (by rfl) (flat_strs l))
  rw [inV_strs, decide_eq_true hz] at this
  exact this
theorem rv_neT {x y : V} {H : Hp} (h : scal x y = true) (e : x ≠ y) : RV rNe x y H (.bl true) := fun H1 _ _ q => ⟨h, by rw [decide_eq_false e]; exact q H1 (Ex.refl H1)⟩
section
variable {P : Program} {w : World} {K : PySem.W.Frag} {mg : Str → Option Value} {base : Heap}
def R_are_ends (K : PySem.W.Frag) : List V → Hp → Post → Prop := fun vs H Po => ∃ a dx fs vp places one other, vs = [.ref a, .str one, .str other] ∧ H a = some (.ins (cLand K) dx fs) ∧ fs.lookup ("places" : Str) = some vp ∧ Dt H vp (.tuple ((places : List Str).map .str)) ∧ one ∈ places ∧ other ∈ places ∧ one ≠ other ∧ Po = fun v _ => v = .bl true
theorem scL_are_ends : FnScope ["self", "one", "other"] ["self", "one", "other"] (defScope sL_are_ends) := ⟨rfl, rfl, rfl, by decide +kernel, rfl, by decide +kernel, by decide +kernel⟩
theorem ok_are_ends (S : Says K mg) : Mt P w K mg base (cLand K) 1 "are_ends" ["self", "one", "other"] (spR (R_are_ends K)) := by
  obtain ⟨fd, F⟩ := S.defL_are_ends
  refine ⟨S.cl, ⟨_, fd, S.m_are_ends, F.bindsN (fun _ _ _ _ _ _ us hl => match us, hl with | [_, _, _], _ => rfl), F.ok scL_are_ends (fun vs H Q E h => ?_) (fun cdv A outer s H vs Q E hr h => ?_)⟩⟩
  · obtain ⟨_, ⟨_, _, _, _, _, _, _, rfl, _⟩, _⟩ := h
    rfl
  · obtain ⟨_, ⟨a, dx, fs, vp, places, one, other, rfl, ha, hf, hp, h1, h2, h3, rfl⟩, q⟩ := h
    obtain ⟨pa, ps, rfl, hpa, hpd⟩ := hp.tup_at
    have hps := hpd.strs
    subst hps
    refine ⟨_, PSs.nox ((pss_one (ps_ret (pe_and (pe_cmpR op_in_seq (pv 1) (pe_fld (pv 0) rfl) (by with_unfolding_all rfl)) (pe_and (pe_cmpR op_in_seq (pv 2) (pe_fld (pv 0) rfl) (by with_unfolding_all rfl)) (pe_one (pe_cmpR op_ne (pv 1) (pv 2) (nomark _)))))))), ?_⟩
    exact s_retP (ep_ev (ev_andV (ev_isX (ev_var (by rfl)) (ev_fld (ev_var (by rfl)) ha S.cl S.na_places hf) (.inl hpa) h1) (ev_andV (ev_isX (ev_var (by rfl)) (ev_fld (ev_var (by rfl)) ha S.cl S.na_places hf) (.inl hpa) h2) (ev_op (x := .str one) (y := .str other) (ev_var (by rfl)) (ev_var (by rfl)) (rv_neT (by rfl) (fun e => h3 (V.str.inj e))))))) fun v H1 e1 ev => q v H1 e1 ev
/-- a land that is being made: its winds and its places stand -/
structure Part (K : PySem.W.Frag) (H : Hp) (a : Addr) (winds places : List Str) : Prop where
  ex : ∃ dx fs wa vp, H a = some (.ins (cLand K) dx fs) ∧ fs.lookup ("winds" : Str) = some (.ref wa) ∧ SqT K H wa (winds.map V.str) ∧ fs.lookup ("places" : Str) = some vp ∧ Dt H vp (.tuple (places.map .str)) ∧ fs.lookup ("are_ends" : Str) = none ∧ fs.lookup ("checked_link" : Str) = none ∧ fs.lookup ("checked_path" : Str) = none
theorem Part.mono {K : PySem.W.Frag} {H H' : Hp} {a : Addr} {winds places : List Str} (e : Ex H H') (h : Part K H a winds places) : Part K H' a winds places := by
  obtain ⟨dx, fs, wa, vp, h1, h2, h3, h4, h5, h6⟩ := h.ex
  exact ⟨dx, fs, wa, vp, e _ _ h1, h2, ex_t e h3, h4, h5.mono e, h6⟩
structure LnkOk (winds places : List Str) (l : Lnk) : Prop where
  n : nameOk l.nm = true
  e : l.one ∈ places ∧ l.other ∈ places ∧ l.one ≠ l.other
  t : l.times.length = winds.length
  q : ∀ q : Int × Int, some q ∈ l.times → 1 ≤ q.1 ∧ q.1 ≤ q.2 ∧ q.2 ≤ 1000
def R_checked_link (K : PySem.W.Frag) : List V → Hp → Post → Prop := fun vs H Po => ∃ a v winds places l, vs = [.ref a, v] ∧ Part K H a winds places ∧ winds.length < 1000 ∧ Dt H v (lnkD l) ∧ LnkOk winds places l ∧ Po = fun v H' => Dt H' v (lnkD l)
theorem scL_checked_link : FnScope ["self", "link", "name", "one", "other", "times"] ["self", "link"] (defScope sL_checked_link) := ⟨rfl, rfl, rfl, by decide +kernel, rfl, by decide +kernel, by decide +kernel⟩
theorem ok_checked_link (S : Says K mg) : Mt P w K mg base (cLand K) 3 "checked_link" ["self", "link"] (spR (R_checked_link K)) := by
  have G_require := ok_require (P := P) (w := w) (base := base) S
  have G_is_name := ok_is_name (P := P) (w := w) (base := base) S
  have M_are_ends := ok_are_ends (P := P) (w := w) (base := base) S
  have G_checked_times := ok_checked_times (P := P) (w := w) (base := base) S
  obtain ⟨fd, F⟩ := S.defL_checked_link
  refine ⟨S.cl, ⟨_, fd, S.m_checked_link, F.bindsN (fun _ _ _ _ _ _ us hl => match us, hl with | [_, _], _ => rfl), F.ok scL_checked_link (fun vs H Q E h => ?_) (fun cdv A outer s H vs Q E hr h => ?_)⟩⟩
  · obtain ⟨_, ⟨_, _, _, _, _, rfl, _⟩, _⟩ := h
    rfl
  · obtain ⟨_, ⟨a, v, winds, places, l, rfl, hp, hwl, hv, hk, rfl⟩, q⟩ := h
    obtain ⟨dx, fs, wa, vp, ha, hfw, hwa, hfp, hvp, hna, _, _⟩ := hp.ex
    obtain ⟨ba, tv, rfl, hba, htv⟩ := dt_lnk hv
    refine ⟨_, PSs.nox ((pss_cons (ps_expr (pe_fn G_require (hr.mono (by decide)) (pa_cons (pe_cmpR op_eq (pe_callB call_len_seq (by rfl) S.f_len PySem.boot_len (pa_cons (pv 1) pa_nil)) pe_int (nomark _)) pa_nil)))
    (pss_cons (ps_asg (pv 1) (pg_tup rfl (pgs_cons (pg_name (i := 2) scL_checked_link.nd rfl (by first | exact Or.inl rfl | exact Or.inr rfl)) (pgs_cons (pg_name (i := 3) scL_checked_link.nd rfl (by first | exact Or.inl rfl | exact Or.inr rfl)) (pgs_cons (pg_name (i := 4) scL_checked_link.nd rfl (by first | exact Or.inl rfl | exact Or.inr rfl)) (pgs_cons (pg_name (i := 5) scL_checked_link.nd rfl (by first | exact Or.inl rfl | exact Or.inr rfl)) pgs_nil))))))
    (pss_cons (ps_expr (pe_fn G_require (hr.mono (by decide)) (pa_cons (pe_and (pe_fn G_is_name (hr.mono (by decide)) (pa_cons (pv 2) pa_nil)) (pe_one (pe_mt M_are_ends (hr.mono (by decide)) (pv 0) (pa_cons (pv 3) (pa_cons (pv 4) pa_nil))))) pa_nil)))
    (pss_one (ps_ret (pe_tup (pa_cons (pv 2) (pa_cons (pv 3) (pa_cons (pv 4) (pa_cons (pe_fn G_checked_times (hr.mono (by decide)) (pa_cons (pv 5) (pa_cons (pe_callB call_len_seq (by rfl) S.f_len PySem.boot_len (pa_cons (pe_fld (pv 0) rfl) pa_nil)) pa_nil))) pa_nil))))))))))), ?_⟩
    refine s_req (ev_op (ev_lenT (K := K) (ev_var (by rfl)) (.inl hba)) ev_c (rv_eqT (by rfl) (by rfl))) fun H1 e1 => ?_
    refine r_seq ⟨_, rfl, ba, _, rfl, .inl (ex_rd e1 hba), rfl, _, _, rfl, _, _, rfl, _, _, rfl, _, _, rfl, rfl, gn ?_⟩
    refine s_req (ev_andV (ev_callV (R := R_is_name) (ea_cons (ev_var (by rfl)) ea_nil) fun H2 e2 => ⟨l.nm, rfl, hk.n, rfl⟩) (ep_mt (R := R_are_ends K) (ev_var (by rfl)) (e1 _ _ ha) hna (ea_cons (ev_var (by rfl)) (ea_cons (ev_var (by rfl)) ea_nil)) fun H2 e2 => ⟨a, dx, fs, vp, places, l.one, l.other, rfl, e2 _ _ (e1 _ _ ha), hfp, hvp.mono (e1.trans e2), hk.e.1, hk.e.2.1, hk.e.2.2, rfl⟩).ev) fun H2 e2 => ?_
    have e12 := e1.trans e2
    refine ⟨_, rfl, _, rfl, _, rfl, ?_⟩
    have hlen : ((winds.map V.str).length : Int) = ((l.times.length : Nat) : Int) := by rw [List.length_map, hk.t]
    refine r_bind (ep_call (R := R_checked_times) (P := fun v H' => Dt H' v (tmsD l.times)) (vs := [tv, .int ((winds.map V.str).length : Int)]) (ea_cons (ev_var (by rfl)) (ea_cons (ev_lenT (K := K) (ev_fld (ev_var (by rfl)) (e12 _ _ ha) S.cl S.na_winds hfw) (ex_t e12 hwa)) ea_nil)) fun H3 e3 => ⟨tv, l.times, by rw [hlen], htv.mono (e12.trans e3), by rw [hk.t]; exact hwl, hk.q, rfl⟩) fun v H3 e3 hv3 => ?_
    refine ⟨by show 4 ≤ sizeLine; decide, fun p np => q _ _ ((e12.trans e3).trans (Ex.new np)) ?_⟩
    exact .tup (Rd.of upd_same) (.cons (.str _) (.cons (.str _) (.cons (.str _) (.cons (hv3.mono (Ex.new np)) .nil))))
def R_checked_path (K : PySem.W.Frag) : List V → Hp → Post → Prop := fun vs H Po => ∃ a v winds places p, vs = [.ref a, v] ∧ Part K H a winds places ∧ Dt H v (pathD p) ∧ p.1 ∈ places ∧ p.2.1 ∈ places ∧ p.1 ≠ p.2.1 ∧ 1 ≤ p.2.2 ∧ p.2.2 ≤ 1000 ∧ Po = fun v H' => Dt H' v (pathD p)
theorem scL_checked_path : FnScope ["self", "path", "one", "other", "minutes"] ["self", "path"] (defScope sL_checked_path) := ⟨rfl, rfl, rfl, by decide +kernel, rfl, by decide +kernel, by decide +kernel⟩
theorem ok_checked_path (S : Says K mg) : Mt P w K mg base (cLand K) 3 "checked_path" ["self", "path"] (spR (R_checked_path K)) := by
  have G_require := ok_require (P := P) (w := w) (base := base) S
  have M_are_ends := ok_are_ends (P := P) (w := w) (base := base) S
  obtain ⟨fd, F⟩ := S.defL_checked_path
  refine ⟨S.cl, ⟨_, fd, S.m_checked_path, F.bindsN (fun _ _ _ _ _ _ us hl => match us, hl with | [_, _], _ => rfl), F.ok scL_checked_path (fun vs H Q E h => ?_) (fun cdv A outer s H vs Q E hr h => ?_)⟩⟩
  · obtain ⟨_, ⟨_, _, _, _, _, rfl, _⟩, _⟩ := h
    rfl
  · obtain ⟨_, ⟨a, v, winds, places, p, rfl, hp, hv, h1, h2, h3, h4, h5, rfl⟩, q⟩ := h
    obtain ⟨dx, fs, wa, vp, ha, hfw, hwa, hfp, hvp, hna, _, _⟩ := hp.ex
    obtain ⟨ba, xs, rfl, hba, hd⟩ := hv.tup_at
    obtain ⟨x1, r, rfl, g1, d1⟩ := hd.cons_inv
    obtain ⟨x2, r, rfl, g2, d2⟩ := d1.cons_inv
    obtain ⟨x3, r, rfl, g3, d3⟩ := d2.cons_inv
    have d3 := d3.nil_inv
    have g1 := g1.str_eq
    have g2 := g2.str_eq
    have g3 := g3.int_eq
    subst d3 g1 g2 g3
    refine ⟨_, PSs.nox ((pss_cons (ps_expr (pe_fn G_require (hr.mono (by decide)) (pa_cons (pe_cmpR op_eq (pe_callB call_len_seq (by rfl) S.f_len PySem.boot_len (pa_cons (pv 1) pa_nil)) pe_int (nomark _)) pa_nil)))
    (pss_cons (ps_asg (pv 1) (pg_tup rfl (pgs_cons (pg_name (i := 2) scL_checked_path.nd rfl (by first | exact Or.inl rfl | exact Or.inr rfl)) (pgs_cons (pg_name (i := 3) scL_checked_path.nd rfl (by first | exact Or.inl rfl | exact Or.inr rfl)) (pgs_cons (pg_name (i := 4) scL_checked_path.nd rfl (by first | exact Or.inl rfl | exact Or.inr rfl)) pgs_nil)))))
    (pss_cons (ps_expr (pe_fn G_require (hr.mono (by decide)) (pa_cons (pe_and (pe_mt M_are_ends (hr.mono (by decide)) (pv 0) (pa_cons (pv 2) (pa_cons (pv 3) pa_nil))) (pe_one (pe_chain op_le op_le pe_int (pv 4) (pe_gint S.i_MOST_MINUTES)))) pa_nil)))
    (pss_one (ps_ret (pe_tup (pa_cons (pv 2) (pa_cons (pv 3) (pa_cons (pv 4) pa_nil)))))))))), ?_⟩
    refine s_req (ev_op (ev_lenT (K := K) (ev_var (by rfl)) (.inl hba)) ev_c (rv_eqT (by rfl) (by rfl))) fun H1 e1 => ?_
    refine r_seq ⟨_, rfl, ba, _, rfl, .inl (ex_rd e1 hba), rfl, _, _, rfl, _, _, rfl, _, _, rfl, rfl, gn ?_⟩
    refine s_req (ev_andV (ep_mt (R := R_are_ends K) (ev_var (by rfl)) (e1 _ _ ha) hna (ea_cons (ev_var (by rfl)) (ea_cons (ev_var (by rfl)) ea_nil)) fun H2 e2 => ⟨a, dx, fs, vp, places, p.1, p.2.1, rfl, e2 _ _ (e1 _ _ ha), hfp, hvp.mono (e1.trans e2), h1, h2, h3, rfl⟩).ev (ev_chain (a := true) (b := true) ev_c (ev_var (by rfl)) ev_c (rv_leT h4) fun _ => rv_leT h5)) fun H2 e2 => ?_
    refine ⟨_, rfl, _, rfl, _, rfl, by show 3 ≤ sizeLine; decide, fun p np => q _ _ ((e1.trans e2).trans (Ex.new np)) ?_⟩
    exact .tup (Rd.of upd_same) (.cons (.str _) (.cons (.str _) (.cons (.int _) .nil)))
/-- the property link_names as it stands behind the top -/
def PrOk (K : PySem.W.Frag) : Prop := ∃ p g fd, PropOf K (cLand K) "link_names" p g ∧ FunD K "link_names" "Land.link_names" (defArgs sL_link_names) (defBody sL_link_names) (defScope sL_link_names) [] [] g fd
def R_link_names (K : PySem.W.Frag) : List V → Hp → Post → Prop := fun vs H Po => ∃ a dx fs vl links, vs = [.ref a] ∧ H a = some (.ins (cLand K) dx fs) ∧ fs.lookup ("links" : Str) = some vl ∧ Dt H vl (.tuple ((links : List Lnk).map lnkD)) ∧ links.length < 1000 ∧ Po = fun v H' => Dt H' v (.tuple ((links.map (·.nm)).map .str))
theorem scL_link_names : FnScope ["self", "link"] ["self"] (defScope sL_link_names) := ⟨rfl, rfl, rfl, by decide +kernel, rfl, by decide +kernel, by decide +kernel⟩
theorem ok_link_names (S : Says K mg) (L : PrOk K) : Prp P w K mg base (cLand K) 1 "link_names" (spR (R_link_names K)) := by
  obtain ⟨p, g, fd, hp, F⟩ := L
  refine ⟨S.cl, ⟨p, g, fd, hp, F.bindsN (fun _ _ _ _ _ _ us hl => match us, hl with | [_], _ => rfl), F.ok scL_link_names (fun vs H Q E h => ?_) (fun cdv A outer s H vs Q E hr h => ?_)⟩⟩
  · obtain ⟨_, ⟨_, _, _, _, _, rfl, _⟩, _⟩ := h
    rfl
  · obtain ⟨_, ⟨a, dx, fs, vl, links, rfl, ha, hf, hv, hz, rfl⟩, q⟩ := h
    obtain ⟨ka, ks, rfl, hka, hkd⟩ := hv.tup_at
    have hkl := hkd.map_len
    refine ⟨_, PSs.nox ((pss_one (ps_ret (pe_callTy call_tupF (by rfl) S.f_tuple (by decide +kernel) (pa_cons (pe_lc (own := [("link", 1)]) (g := (gName 1)) (tt := tYes) (te := (tOp (rIxT K) (tVar 1) (tC (.int 0)))) rfl scL_link_names.nd (pi_tup (pe_fld (pv 0) rfl)) (blkOk_by (N := ["self", "link"]) (sc := defScope sL_link_names) (by decide +kernel)) (fun _ _ _ _ _ => (pg_name (i := 1) scL_link_names.nd rfl (by first | exact Or.inl rfl | exact Or.inr rfl))) (fun _ _ _ _ _ => pts_nil) (fun _ _ _ _ _ => (pe_ix ix_tup (pv 1) pe_int (fun _ _ => rfl)))) pa_nil))))), ?_⟩
    refine s_retP (ep_tupL (ds := (links.map (·.nm)).map .str) ((ep_lc links (fun l => some (.str l.nm)) (ei_tup ((ep_ev (ev_fld (ev_var (by rfl)) ha S.cl S.na_links hf)).imp fun v H1 e ev => ⟨ka, ev, .inl (ex_rd e hka)⟩)) hkl (by omega) (fun r _ d h => by cases h; rfl) (fun i x l H1 e1 hl1 hx => ?_)).imp fun v H1 e1 ⟨p1, ys, ev, np1, hp1, hd⟩ => ⟨p1, ys, ev, hp1, ?_⟩)) fun v H1 e1 ⟨a', ys, ev, hpl, hd'⟩ => q v H1 e1 ?_
    · obtain ⟨ba, tv, rfl, hba, htv⟩ := dt_lnk ((hkd.map_at hx hl1).mono e1)
      intro H2 e2 Qk Qn hk hn
      refine lcY rfl ⟨_, rfl, ba, _, 0, _, rfl, rfl, .inl (ex_rd e2 hba), atI_nat (j := 0) rfl, hk _ rfl _ H2 (Ex.refl _) (.str _)⟩
    · rw [List.filterMap_eq_map'] at hd
      rw [List.map_map]
      exact hd
    · subst ev
      exact .tup hpl.rd hd'
def R_link (K : PySem.W.Frag) : List V → Hp → Post → Prop := fun vs H Po => ∃ vl L z, vs = [vl, .str z] ∧ LandV K H vl L ∧ (∃ l ∈ L.links, l.nm = z) ∧ Po = fun _ _ => True
theorem scL_link : FnScope ["self", "name", "link"] ["self", "name"] (defScope sL_link) := ⟨rfl, rfl, rfl, by decide +kernel, rfl, by decide +kernel, by decide +kernel⟩
theorem ok_link (S : Says K mg) : Mt P w K mg base (cLand K) 1 "link" ["self", "name"] (spR (R_link K)) := by
  obtain ⟨fd, F⟩ := S.defL_link
  refine ⟨S.cl, ⟨_, fd, S.m_link, F.bindsN (fun _ _ _ _ _ _ us hl => match us, hl with | [_, _], _ => rfl), F.ok scL_link (fun vs H Q E h => ?_) (fun cdv A outer s H vs Q E hr h => ?_)⟩⟩
  · obtain ⟨_, ⟨_, _, _, rfl, _⟩, _⟩ := h
    rfl
  · obtain ⟨_, ⟨vl, L, z, rfl, hL, ⟨l0, hl0, hz0⟩, rfl⟩, q⟩ := h
    obtain ⟨la, dx, wa, vp, vk, vt, rfl, hla, hwi, hp, hK, _⟩ := hL.ex
    obtain ⟨ka, ks, rfl, hka, hkd⟩ := hK.tup_at
    have hkl := hkd.map_len
    refine ⟨_, PSs.nox ((pss_cons (ps_for PassesOwn.never rfl (pi_tup (pe_fld (pv 0) rfl)) (pg_name (i := 2) scL_link.nd rfl (by first | exact Or.inl rfl | exact Or.inr rfl))
      (pss_one (ps_if (pt_cmpR op_eq (pe_ix ix_tup (pv 2) pe_int (fun _ _ => rfl)) (pv 1) (nomark _)) (pss_one (ps_ret (pv 2))) pss_nil)))
    (pss_one ps_never))), ?_⟩
    refine r_seq (s_forT (ev_fld (ev_var (by rfl)) hla S.cl S.na_links (fl_links _ _ _ _)) (.inl hka) (fun i σ' H' => (∃ x2, σ' = [some (.ref la), some (.str z), x2]) ∧ Ex H H' ∧ ∀ j l, j < i → L.links[j]? = some l → l.nm ≠ z) (fun H1 e1 => ⟨⟨_, rfl⟩, e1, fun j l hj => by omega⟩) (fun i σ' H' _ h => .inl (ex_rd h.2.1 hka)) (fun i x σ' H' hx h => ?_) (fun σ' H' h => ?_))
    · obtain ⟨⟨x2, rfl⟩, eH, hn⟩ := h
      have hi : i < L.links.length := by have := (List.getElem?_eq_some_iff.mp hx).1; omega
      obtain ⟨l, hl1⟩ : ∃ l, L.links[i]? = some l := ⟨_, List.getElem?_eq_getElem hi⟩
      obtain ⟨ba, tv, rfl, hba, htv⟩ := dt_lnk ((hkd.map_at hx hl1).mono eH)
      refine r_if (et_test (ev_op (x := .str l.nm) (y := .str z) (ev_op (ev_var (by rfl)) ev_c (rv_ixT (.inl hba) (atI_nat (j := 0) rfl))) (ev_var (by rfl)) (rv_eq (by rfl)))) (fun c H1 e1 => ?_) (fun c H1 e1 => ?_)
      · exact ⟨_, rfl, q _ H1 (eH.trans e1) trivial⟩
      · have hne : l.nm ≠ z := by simpa using c
        refine gn ⟨⟨_, rfl⟩, eH.trans e1, fun j l2 hj hl2 => ?_⟩
        by_cases ej : j = i
        · subst ej
          rw [hl1] at hl2
          cases hl2
          exact hne
        · exact hn j l2 (by omega) hl2
    · obtain ⟨_, eH, hn⟩ := h
      obtain ⟨j, hj⟩ := List.getElem?_of_mem hl0
      exact absurd hz0 (hn j l0 (by have := (List.getElem?_eq_some_iff.mp hj).1; omega) hj)
end
end EF
set_option maxHeartbeats 4000000
namespace EF
open PySem PySem.Spec PyProof.Rows L2 Evl
/-! ### an object that is being written -/
def NoSq : Option HO → Prop
  | some (.lst _) => False
  | some (.tup _) => False
  | some (.frz _ _) => False
  | _ => True
def EB (a : Addr) (H H' : Hp) : Prop := ∀ b o, b ≠ a → H b = some o → H' b = some o
theorem EB.trans {a : Addr} {H H1 H2 : Hp} (h : EB a H H1) (k : EB a H1 H2) : EB a H H2 := fun b o n e => k b o n (h b o n e)
theorem ex_eb {a : Addr} {H H' : Hp} (e : Ex H H') : EB a H H' := fun b o _ h => e b o h
theorem EB.upd {a : Addr} {H : Hp} {o : HO} : EB a H (upd H a o) := fun b u n e => by rw [upd_ne n]; exact e
section
variable {H H' : Hp} {a : Addr}
theorem rd_but {b : Addr} {xs : List V} (e : EB a H H') (n : NoSq (H a)) (h : Rd H b (.tup xs)) : Rd H' b (.tup xs) := by
  have ne : b ≠ a := by
    rintro rfl
    rcases h with h | ⟨o, h⟩ <;> rw [h] at n <;> exact n
  rcases h with h | ⟨o, h⟩
  · exact .inl (e _ _ ne h)
  · exact .inr ⟨o, e _ _ ne h⟩
theorem plt_but {b : Addr} {xs : List V} (e : EB a H H') (n : NoSq (H a)) (h : PlT H b xs) : PlT H' b xs := by
  obtain ⟨o, h1, h2⟩ := h
  have ne : b ≠ a := by
    rintro rfl
    rw [h1] at n
    exact n
  exact ⟨o, e _ _ ne h1, h2⟩
mutual
theorem Dt.but (e : EB a H H') (n : NoSq (H a)) : ∀ {v : V} {d : PyData}, Dt H v d → Dt H' v d
  | _, _, .non => .non
  | _, _, .bl b => .bl b
  | _, _, .int i => .int i
  | _, _, .str x => .str x
  | _, _, .lst (a := b) h k => .lst (e _ _ (fun z => by rw [z] at h; rw [h] at n; exact n) h) (DtA.but e n k)
  | _, _, .tup h k => .tup (rd_but e n h) (DtA.but e n k)
theorem DtA.but (e : EB a H H') (n : NoSq (H a)) : ∀ {vs : List V} {ds : List PyData}, DtA H vs ds → DtA H' vs ds
  | _, _, .nil => .nil
  | _, _, .cons x y => .cons (Dt.but e n x) (DtA.but e n y)
end
end
/-! ### pairs of ends, the lesser first -/
def sortP (a b : Str) : Str × Str := if ltCps b.cps.toList a.cps.toList = true then (b, a) else (a, b)
theorem ltCps_tri : ∀ (a b : List Nat), ltCps a b = false → ltCps b a = false → a = b
  | [], [], _, _ => rfl
  | [], _ :: _, h, _ => by simp [ltCps] at h
  | _ :: _, [], _, h => by simp [ltCps] at h
  | x :: a, y :: b, h1, h2 => by
    simp only [ltCps, Bool.or_eq_false_iff, Bool.and_eq_false_iff, decide_eq_false_iff_not, beq_eq_false_iff_ne] at h1 h2
    have e : x = y := by omega
    subst e
    have h3 : ltCps a b = false := by
      rcases h1.2 with q | q
      · exact absurd rfl q
      · exact q
    have h4 : ltCps b a = false := by
      rcases h2.2 with q | q
      · exact absurd rfl q
      · exact q
    rw [ltCps_tri a b h3 h4]
theorem perm2 {a b : Str} {ys : List Str} (h : ys.Perm [a, b]) : ys = [a, b] ∨ ys = [b, a] := by
  have hl := h.length_eq
  match ys, hl, h with
  | [x, y], _, h =>
    have hx : x ∈ [a, b] := h.mem_iff.mp (by simp)
    simp at hx
    rcases hx with e | e
    · subst e
      have := (List.perm_cons x).mp h
      rw [List.perm_singleton] at this
      left
      simpa using this
    · subst e
      have h2 := h.trans (List.Perm.swap x a [])
      have := (List.perm_cons x).mp h2
      rw [List.perm_singleton] at this
      right
      simpa using this
theorem sort2 {a b : Str} {ys : List Str} (h : ys.Perm [a, b]) (hs : PyProof.Rows.sortedS ys = true) : ys = [(sortP a b).1, (sortP a b).2] := by
  unfold sortP
  rcases perm2 h with e | e <;> subst e
  · have : ltCps b.cps.toList a.cps.toList = false := by simpa [sortedS, risingS] using hs
    rw [this]
    rfl
  · have h2 : ltCps a.cps.toList b.cps.toList = false := by simpa [sortedS, risingS] using hs
    cases h3 : ltCps b.cps.toList a.cps.toList with
    | true => rfl
    | false =>
      have := ltCps_tri _ _ h2 h3
      have e : a = b := by
        cases a; cases b
        simp only [Str.mk.injEq]
        exact Array.toList_inj.mp this
      subst e
      rfl
theorem sortP_eq {a b c d : Str} (h : sortP a b = sortP c d) : (a = c ∧ b = d) ∨ (a = d ∧ b = c) := by
  unfold sortP at h
  split at h <;> split at h <;> simp only [Prod.mk.injEq] at h <;> obtain ⟨h1, h2⟩ := h
  · exact .inl ⟨h2, h1⟩
  · exact .inr ⟨h2, h1⟩
  · exact .inr ⟨h1, h2⟩
  · exact .inl ⟨h1, h2⟩
section
variable {K : PySem.W.Frag} {σ : L2.St} {H : Hp} {to tv tl : TE} {tz : TS} {D : Ends} {P : Post} {C a dx : Addr} {f : Str} {fs : List (Str × V)}
theorem s_fldP (hv : EvP tv σ H P) (ho : Ev to σ H (.ref a)) (hi : H a = some (.ins C dx fs)) (c : Cls K C) (n : NoAttr K C f) (hz : fs.length < 1000) (k : ∀ v H1 H2, Ex H H1 → P v H1 → Ex H1 H2 → tz D σ (upd H2 a (.ins C dx (putF f v fs)))) : tSeq (sFld K to tv f) tz D σ H :=
  hv H (Ex.refl H) _ fun v H1 e1 p => ho H1 e1 _ fun H2 e2 => ⟨a, C, dx, fs, rfl, e2 _ _ (e1 _ _ hi), c, n, hz, k v H1 H2 e1 p e2⟩
theorem s_req1 {te : TE} (h : Ev te σ H (.bl true)) (k : ∀ H1, Ex H H1 → D.nx σ H1) : tDrop (tCl (spR R_require) E0 (tCons te tNil)) D σ H :=
  s_dropP (ep_call (R := R_require) (ea_cons h ea_nil) fun H1 e1 => ⟨rfl, rfl⟩) fun v H1 e1 _ => k H1 e1
theorem ep_prp {R : List V → Hp → Post → Prop} (ho : Ev to σ H (.ref a)) (hi : H a = some (.ins C dx fs)) (hr : ∀ H1, Ex H H1 → R [.ref a] H1 P) : EvP (tPrp C (spR R) to) σ H P :=
  fun H1 e Q q => ho H1 e _ fun H2 e2 => ⟨a, dx, fs, rfl, e2 _ _ (e _ _ hi), P, hr H2 (e.trans e2), fun v H3 e3 p => q v H3 (e2.trans e3) p⟩
theorem ev_names {j : Nat} {l : List Str} {p : Addr} (h : Ev tl σ H (.ref p)) (hp : SqT K H p (l.map V.str)) (hn : ∀ x ∈ l, nameOk x = true) (hz : l.length < 1000) (hj : ∀ v : V, ((wipe σ [j]).set j (some v))[j]? = some (some v)) (hw : ∀ v : V, wipe ((wipe σ [j]).set j (some v)) [j] = wipe σ [j]) :
    Ev (tCB (rAll K) (tCons (tLc (iTup K tl) (gName j) tYes (tCl (spR R_is_name) E0 (tCons (tVar j) tNil)) [j]) tNil)) σ H (.bl true) := by
  have := ev_all (K := K) (σ := σ) (H := H) (L := l) (b := fun _ => true) (te := tLc (iTup K tl) (gName j) tYes (tCl (spR R_is_name) E0 (tCons (tVar j) tNil)) [j]) (ep_lc l _ (ei_tup ((ep_ev h).imp fun v H1 e ev => ⟨p, ev, ex_t e hp⟩)) (List.length_map ..) (by omega) (fun _ _ d h => by cases h; rfl) (fun i x z H1 e1 hz1 hx => ?_))
  · rw [show (l.all fun _ => true) = true from List.all_eq_true.mpr fun _ _ => rfl] at this
    exact this
  · have hx2 : x = .str z := by
      rw [List.getElem?_map, hz1] at hx
      exact (Option.some.inj hx).symm
    subst hx2
    intro H2 e2 Qk Qn hk hn2
    refine lcY (hw _) ?_
    exact r_bind (ep_call (R := R_is_name) (ea_cons (ev_var (hj _)) ea_nil) fun H3 e3 => ⟨z, rfl, hn z (List.mem_of_getElem? hz1), rfl⟩) fun v H3 e3 ev => by subst ev; exact hk _ rfl _ H3 e3 (.bl true)
end
theorem pf1 (a : V) : putF "winds" a [] = ([("winds", a)] : List (Str × V)) := rfl
theorem pf2 (a b : V) : putF "places" b ([("winds", a)] : List (Str × V)) = ([("winds", a), ("places", b)] : List (Str × V)) := by
  have n1 : ¬ (("winds" : Str) = "places") := by decide +kernel
  simp only [putF, if_neg n1]
theorem pf3 (a b c : V) : putF "links" c ([("winds", a), ("places", b)] : List (Str × V)) = ([("winds", a), ("places", b), ("links", c)] : List (Str × V)) := by
  have n1 : ¬ (("winds" : Str) = "links") := by decide +kernel
  have n2 : ¬ (("places" : Str) = "links") := by decide +kernel
  simp only [putF, if_neg n1, if_neg n2]
theorem pf4 (a b c d : V) : putF "paths" d ([("winds", a), ("places", b), ("links", c)] : List (Str × V)) = ([("winds", a), ("places", b), ("links", c), ("paths", d)] : List (Str × V)) := by
  have n1 : ¬ (("winds" : Str) = "paths") := by decide +kernel
  have n2 : ¬ (("places" : Str) = "paths") := by decide +kernel
  have n3 : ¬ (("links" : Str) = "paths") := by decide +kernel
  simp only [putF, if_neg n1, if_neg n2, if_neg n3]
/-- what __init__ is given, as it stands -/
structure InitD (K : PySem.W.Frag) (H : Hp) (wa : Addr) (vp vl vt : V) (L : Ld) : Prop where
  w : PlT H wa (L.winds.map V.str)
  p : Dt H vp (.tuple (L.places.map .str))
  l : Dt H vl (.list (L.links.map lnkD)) ∨ Dt H vl (.tuple (L.links.map lnkD))
  t : Dt H vt (.tuple (L.paths.map pathD))
theorem InitD.but {K : PySem.W.Frag} {H H' : Hp} {a wa : Addr} {vp vl vt : V} {L : Ld} (h : InitD K H wa vp vl vt L) (e : EB a H H') (n : NoSq (H a)) : InitD K H' wa vp vl vt L :=
  ⟨plt_but e n h.w, h.p.but e n, h.l.imp (·.but e n) (·.but e n), h.t.but e n⟩
section
variable {P : Program} {w : World} {K : PySem.W.Frag} {mg : Str → Option Value} {base : Heap}
def spInit (K : PySem.W.Frag) : Sp := fun vs H Q _ => ∃ a dx wa vp vl vt L, vs = [.ref a, .ref wa, vp, vl, vt] ∧ H a = some (.ins (cLand K) dx []) ∧ PlT H wa (L.winds.map V.str) ∧ Dt H vp (.tuple (L.places.map .str)) ∧ (Dt H vl (.list (L.links.map lnkD)) ∨ Dt H vl (.tuple (L.links.map lnkD))) ∧ Dt H vt (.tuple (L.paths.map pathD)) ∧ LdOk L ∧
  ∀ H', EB a H H' → LandV K H' (.ref a) L → Q .non H'
theorem scL_init : FnScope ["self", "winds", "places", "links", "paths", "wind", "place", "link", "path"] ["self", "winds", "places", "links", "paths"] (defScope sL_init) := ⟨rfl, rfl, rfl, by decide +kernel, rfl, by decide +kernel, by decide +kernel⟩
theorem ok_init (S : Says K mg) (LP : PrOk K) : MkL P w K mg base "Land" (cLand K) 4 ["self", "winds", "places", "links", "paths"] ["winds", "places", "links", "paths"] (spInit K) := by
  have G_require := ok_require (P := P) (w := w) (base := base) S
  have G_is_name := ok_is_name (P := P) (w := w) (base := base) S
  have G_are_different := ok_are_different (P := P) (w := w) (base := base) S
  have M_checked_link := ok_checked_link (P := P) (w := w) (base := base) S
  have M_checked_path := ok_checked_path (P := P) (w := w) (base := base) S
  have PL := ok_link_names (P := P) (w := w) (base := base) S LP
  obtain ⟨fd, F⟩ := S.defL_init
  refine ⟨S.g_Land, ⟨_, fd, S.mkL, kbindsA F 1 _ (fun _ _ _ _ _ _ us ws l1 l2 => match us, ws, l1, l2 with | [_], [_, _, _, _], _, _ => rfl), F.ok scL_init (fun vs H Q E h => ?_) (fun cdv A outer s H vs Q E hr h => ?_)⟩⟩
  · obtain ⟨_, _, _, _, _, _, _, rfl, _⟩ := h
    rfl
  · obtain ⟨a, dx, wa, vp, vl, vt, L, rfl, ha, hw, hp, hl, ht, hk, q⟩ := h
    have hu65 := hu65_of hr
    refine ⟨_, PSs.nox ((pss_cons (ps_expr (pe_fn G_require (hr.mono (by decide)) (pa_cons (pe_and (pe_chain op_le op_le pe_int (pe_callB call_len_seq (by rfl) S.f_len PySem.boot_len (pa_cons (pv 1) pa_nil)) (pe_gint S.i_MOST_WINDS)) (pe_and (pe_callB (cr_all rfl) (by rfl) S.f_all (by decide +kernel) (pa_cons (pe_lc (own := [("wind", 5)]) (g := (gName 5)) (tt := tYes) (te := (tCl _ E0 (tCons (tVar 5) tNil))) rfl scL_init.nd (pi_tup (pv 1)) (blkOk_by (N := ["self", "winds", "places", "links", "paths", "wind", "place", "link", "path"]) (sc := defScope sL_init) (by decide +kernel)) (fun _ _ _ _ _ => (pg_name (i := 5) scL_init.nd rfl (by first | exact Or.inl rfl | exact Or.inr rfl))) (fun _ _ _ _ _ => pts_nil) (fun _ _ _ _ _ => (pe_fn G_is_name (hr.mono (by decide)) (pa_cons (pv 5) pa_nil)))) pa_nil)) (pe_one (pe_fn G_are_different (hr.mono (by decide)) (pa_cons (pv 1) pa_nil))))) pa_nil)))
    (pss_cons (ps_expr (pe_fn G_require (hr.mono (by decide)) (pa_cons (pe_and (pe_chain op_le op_le pe_int (pe_callB call_len_seq (by rfl) S.f_len PySem.boot_len (pa_cons (pv 2) pa_nil)) (pe_gint S.i_MOST_PLACES)) (pe_one (pe_callB (cr_all rfl) (by rfl) S.f_all (by decide +kernel) (pa_cons (pe_lc (own := [("place", 6)]) (g := (gName 6)) (tt := tYes) (te := (tCl _ E0 (tCons (tVar 6) tNil))) rfl scL_init.nd (pi_tup (pv 2)) (blkOk_by (N := ["self", "winds", "places", "links", "paths", "wind", "place", "link", "path"]) (sc := defScope sL_init) (by decide +kernel)) (fun _ _ _ _ _ => (pg_name (i := 6) scL_init.nd rfl (by first | exact Or.inl rfl | exact Or.inr rfl))) (fun _ _ _ _ _ => pts_nil) (fun _ _ _ _ _ => (pe_fn G_is_name (hr.mono (by decide)) (pa_cons (pv 6) pa_nil)))) pa_nil)))) pa_nil)))
    (pss_cons (ps_expr (pe_fn G_require (hr.mono (by decide)) (pa_cons (pe_fn G_are_different (hr.mono (by decide)) (pa_cons (pv 2) pa_nil)) pa_nil)))
    (pss_cons (ps_fld (pv 0) (pe_callTy call_tupF (by rfl) S.f_tuple (by decide +kernel) (pa_cons (pv 1) pa_nil)) rfl)
    (pss_cons (ps_fld (pv 0) (pe_callTy call_tupF (by rfl) S.f_tuple (by decide +kernel) (pa_cons (pv 2) pa_nil)) rfl)
    (pss_cons (ps_expr (pe_fn G_require (hr.mono (by decide)) (pa_cons (pe_cmpR op_le (pe_callB call_len_seq (by rfl) S.f_len PySem.boot_len (pa_cons (pv 3) pa_nil)) (pe_gint S.i_MOST_LINKS) (nomark _)) pa_nil)))
    (pss_cons (ps_fld (pv 0) (pe_callTy call_tupF (by rfl) S.f_tuple (by decide +kernel) (pa_cons (pe_lc (own := [("link", 7)]) (g := (gName 7)) (tt := tYes) (te := (tMt (cLand K) "checked_link" _ E0 (tVar 0) (tCons (tVar 7) tNil))) rfl scL_init.nd (pi_any (pv 3)) (blkOk_by (N := ["self", "winds", "places", "links", "paths", "wind", "place", "link", "path"]) (sc := defScope sL_init) (by decide +kernel)) (fun _ _ _ _ _ => (pg_name (i := 7) scL_init.nd rfl (by first | exact Or.inl rfl | exact Or.inr rfl))) (fun _ _ _ _ _ => pts_nil) (fun _ _ _ _ _ => (pe_mt M_checked_link (hr.mono (by decide)) (pv 0) (pa_cons (pv 7) pa_nil)))) pa_nil)) rfl)
    (pss_cons (ps_expr (pe_fn G_require (hr.mono (by decide)) (pa_cons (pe_fn G_are_different (hr.mono (by decide)) (pa_cons (pe_prp PL (hr.mono (by decide)) (pv 0)) pa_nil)) pa_nil)))
    (pss_cons (ps_expr (pe_fn G_require (hr.mono (by decide)) (pa_cons (pe_cmpR op_le (pe_callB call_len_seq (by rfl) S.f_len PySem.boot_len (pa_cons (pv 4) pa_nil)) (pe_gint S.i_MOST_PATHS) (nomark _)) pa_nil)))
    (pss_cons (ps_fld (pv 0) (pe_callTy call_tupF (by rfl) S.f_tuple (by decide +kernel) (pa_cons (pe_lc (own := [("path", 8)]) (g := (gName 8)) (tt := tYes) (te := (tMt (cLand K) "checked_path" _ E0 (tVar 0) (tCons (tVar 8) tNil))) rfl scL_init.nd (pi_tup (pv 4)) (blkOk_by (N := ["self", "winds", "places", "links", "paths", "wind", "place", "link", "path"]) (sc := defScope sL_init) (by decide +kernel)) (fun _ _ _ _ _ => (pg_name (i := 8) scL_init.nd rfl (by first | exact Or.inl rfl | exact Or.inr rfl))) (fun _ _ _ _ _ => pts_nil) (fun _ _ _ _ _ => (pe_mt M_checked_path (hr.mono (by decide)) (pv 0) (pa_cons (pv 8) pa_nil)))) pa_nil)) rfl)
    (pss_one (ps_expr (pe_fn G_require (hr.mono (by decide)) (pa_cons (pe_fn G_are_different (hr.mono (by decide)) (pa_cons (pe_lc (own := [("path", 8)]) (g := (gName 8)) (tt := tYes) (te := (tCB (rTupOf K) (tCons (tCB (rSortedT K) (tCons (tSl (rSlA K) (tVar 8) tNoPart (tPart (tC (.int 2)))) tNil)) tNil))) rfl scL_init.nd (pi_tup (pe_fld (pv 0) rfl)) (blkOk_by (N := ["self", "winds", "places", "links", "paths", "wind", "place", "link", "path"]) (sc := defScope sL_init) (by decide +kernel)) (fun _ _ _ _ _ => (pg_name (i := 8) scL_init.nd rfl (by first | exact Or.inl rfl | exact Or.inr rfl))) (fun _ _ _ _ _ => pts_nil) (fun _ _ _ _ _ => (pe_callTy call_tupF (by rfl) S.f_tuple (by decide +kernel) (pa_cons (pe_callB cr_sortedT (by rfl) S.f_sorted (by decide +kernel) (pa_cons (pe_slice sl_tupA (pv 8) po_none (po_some pe_int)) pa_nil)) pa_nil)))) pa_nil)) pa_nil))))))))))))))), ?_⟩
    have n0 : NoSq (H a) := by rw [ha]; trivial
    have D0 : InitD K H wa vp vl vt L := ⟨hw, hp, hl, ht⟩
    -- the winds
    refine s_req (ev_andV (ev_chain (a := true) (b := true) ev_c (ev_lenT (K := K) (ev_var (by rfl)) hw.sq) ev_c (rv_leT (by rw [List.length_map]; have := hk.w1.1; omega)) fun _ => rv_leT (by rw [List.length_map]; have := hk.w1.2; omega)) (ev_andV (ev_names (ev_var (by rfl)) hw.sq hk.wn (by have := hk.w1.2; omega) (fun _ => rfl) (fun _ => rfl)) (ev_callV (R := R_are_different) (ea_cons (ev_var (by rfl)) ea_nil) fun H1 e1 => ⟨.ref wa, rfl, .inl ⟨L.winds, .tup (hw.mono e1).rd (DtA.of_strs _), by have := hk.w1.2; omega, hk.wd⟩, rfl⟩))) fun H1 e1 => ?_
    have D1 := D0.but (ex_eb e1) n0
    -- the places
    obtain ⟨pa, ps, rfl, hpa, hpd⟩ := hp.tup_at
    have hps := hpd.strs
    subst hps
    refine s_req (ev_andV (ev_chain (a := true) (b := true) ev_c (ev_lenT (K := K) (ev_var (by rfl)) (.inl (ex_rd e1 hpa))) ev_c (rv_leT (by rw [List.length_map]; have := hk.p1.1; omega)) fun _ => rv_leT (by rw [List.length_map]; have := hk.p1.2; omega)) (ev_names (ev_var (by rfl)) (.inl (ex_rd e1 hpa)) hk.pn (by have := hk.p1.2; omega) (fun _ => rfl) (fun _ => rfl))) fun H2 e2 => ?_
    have e02 := e1.trans e2
    refine s_req (ev_callV (R := R_are_different) (ea_cons (ev_var (by rfl)) ea_nil) fun H3 e3 => ⟨.ref pa, rfl, .inl ⟨L.places, D0.p.mono (e02.trans e3), by have := hk.p1.2; omega, hk.pd⟩, rfl⟩) fun H3 e3 => ?_
    have e03 := e02.trans e3
    -- self.winds, self.places
    refine s_fldP (P := fun v _ => v = .ref wa) (ep_ev (ev_tupT (ev_var (by rfl)) (hw.mono e03).rd)) (ev_var (by rfl)) (e03 _ _ ha) S.cl S.na_winds (by decide) fun v H4 H5 e4 ev e5 => ?_
    subst ev
    rw [pf1]
    obtain ⟨H6, hH6⟩ : ∃ H6, upd H5 a (.ins (cLand K) dx [("winds", .ref wa)]) = H6 := ⟨_, rfl⟩
    have hH6a : H6 a = some (.ins (cLand K) dx [("winds", .ref wa)]) := by rw [← hH6]; exact upd_same
    have eb6 : EB a H H6 := by rw [← hH6]; exact (ex_eb (e03.trans (e4.trans e5))).trans EB.upd
    rw [hH6]
    have D6 := D0.but eb6 n0
    obtain ⟨pa', ps', epa, hpa6, hpd6⟩ := D6.p.tup_at
    cases epa
    refine s_fldP (P := fun v _ => v = .ref pa) (ep_ev (ev_tupT (ev_var (by rfl)) hpa6)) (ev_var (by rfl)) hH6a S.cl S.na_places (by show 1 < 1000; decide) fun v H7 H8 e7 ev e8 => ?_
    subst ev
    rw [pf2]
    obtain ⟨H9, hH9⟩ : ∃ H9, upd H8 a (.ins (cLand K) dx [("winds", .ref wa), ("places", .ref pa)]) = H9 := ⟨_, rfl⟩
    have hH9a : H9 a = some (.ins (cLand K) dx [("winds", .ref wa), ("places", .ref pa)]) := by rw [← hH9]; exact upd_same
    have eb9 : EB a H H9 := by rw [← hH9]; exact eb6.trans ((ex_eb (e7.trans e8)).trans EB.upd)
    rw [hH9]
    have n9 : NoSq (H9 a) := by rw [hH9a]; trivial
    have D9 := D0.but eb9 n0
    have part9 : ∀ H', Ex H9 H' → Part K H' a L.winds L.places := fun H' e => ⟨dx, _, wa, .ref pa, e _ _ hH9a, by rfl, ex_t e D9.w.sq, by rfl, D9.p.mono e, by rfl, by rfl, by rfl⟩
    -- the links
    obtain ⟨ka, ks, rfl, hks, hkd⟩ : ∃ ka ks, vl = .ref ka ∧ (SqL K H9 ka ks ∨ SqT K H9 ka ks) ∧ DtA H9 ks (L.links.map lnkD) := by
      rcases D9.l with h | h
      · obtain ⟨ka, ks, e, h1, h2⟩ := h.lst_at
        exact ⟨ka, ks, e, .inl (SqL.of h1), h2⟩
      · obtain ⟨ka, ks, e, h1, h2⟩ := h.tup_at
        exact ⟨ka, ks, e, .inr (.inl h1), h2⟩
    have hkl := hkd.map_len
    have hl60 := hk.l1
    refine s_req (ev_op (ev_lenX (K := K) (ev_var (by rfl)) hks) ev_c (rv_leT (by rw [hkl]; omega))) fun H10 e10 => ?_
    refine s_fldP (P := fun v H' => ∃ b ys, v = .ref b ∧ PlT H' b ys ∧ DtA H' ys (L.links.map lnkD)) (ep_tupL ((ep_lc L.links (fun l => some (lnkD l)) (ei_any ((ep_ev (ev_var (by rfl))).imp fun v H1 e ev => ⟨ka, ev, hks.imp (ex_l (e10.trans e)) (ex_t (e10.trans e))⟩)) hkl (by omega) (fun r _ d h => by cases h; exact noL_lnk _) (fun i x l H11 e11 hl1 hx => ?_)).imp fun v H11 e11 ⟨p1, ys, ev, np1, hp1, hd⟩ => ⟨p1, ys, ev, hp1, by rw [List.filterMap_eq_map'] at hd; exact hd⟩)) (ev_var (by rfl)) (e10 _ _ hH9a) S.cl S.na_links (by show 2 < 1000; decide) fun v H11 H12 e11 ⟨ka2, ks2, ev, hpl2, hkd2⟩ e12 => ?_
    · have hxd := (hkd.map_at hx hl1).mono (e10.trans e11)
      have hlm := List.mem_of_getElem? hl1
      intro H12 e12 Qk Qn hk12 hn12
      refine lcY rfl ?_
      refine r_bind (ep_mt (R := R_checked_link K) (P := fun v H' => Dt H' v (lnkD l)) (ev_var (by rfl)) (e12 _ _ (e11 _ _ (e10 _ _ hH9a))) (by rfl) (ea_cons (ev_var (by rfl)) ea_nil) fun H13 e13 => ⟨a, x, L.winds, L.places, l, rfl, part9 _ (((e10.trans e11).trans e12).trans e13), by have := hk.w1.2; omega, hxd.mono (e12.trans e13), ⟨hk.ln l hlm, hk.le l hlm, (hk.lt l hlm).1, (hk.lt l hlm).2⟩, rfl⟩) fun v H13 e13 hv => ?_
      exact hk12 _ rfl v H13 e13 hv
    subst ev
    rw [pf3]
    obtain ⟨H13, hH13⟩ : ∃ H13, upd H12 a (.ins (cLand K) dx [("winds", .ref wa), ("places", .ref pa), ("links", .ref ka2)]) = H13 := ⟨_, rfl⟩
    have hH13a : H13 a = some (.ins (cLand K) dx [("winds", .ref wa), ("places", .ref pa), ("links", .ref ka2)]) := by rw [← hH13]; exact upd_same
    have eb13 : EB a H H13 := by rw [← hH13]; exact eb9.trans ((ex_eb (e10.trans (e11.trans e12))).trans EB.upd)
    have h12a : NoSq (H12 a) := by rw [e12 _ _ (e11 _ _ (e10 _ _ hH9a))]; trivial
    have eb1213 : EB a H12 H13 := by rw [← hH13]; exact EB.upd
    rw [hH13]
    have D13 := D0.but eb13 n0
    have hpl13 := plt_but eb1213 h12a (hpl2.mono e12)
    have hkd13 := (hkd2.mono e12).but eb1213 h12a
    -- the links' names
    refine s_req ((ep_callP (R := R_are_different) (PA := fun vs H' => ∃ v, vs = [v] ∧ Dt H' v (.tuple ((L.links.map fun l : Lnk => l.nm).map .str))) (fun H1 e1 Q1 q1 => eap_p (P := fun v H' => Dt H' v (.tuple ((L.links.map fun l : Lnk => l.nm).map .str))) (ep_prp (R := R_link_names K) (ev_var (by rfl)) hH13a fun H2 e2 => ⟨a, dx, _, .ref ka2, L.links, rfl, e2 _ _ hH13a, by rfl, .tup (ex_rd e2 hpl13.rd) (hkd13.mono e2), by omega, rfl⟩) eap_nil (fun v H1 H2 e h => h.mono e) H1 e1 _ fun vs H2 e2 ⟨v, r, ev, hv, er⟩ => q1 vs H2 e2 ⟨v, by rw [ev, er], hv⟩) fun vs H1 e1 ⟨v, ev, hv⟩ => ⟨v, ev, .inl ⟨_, hv, by rw [List.length_map]; omega, hk.ld⟩, rfl⟩).ev) fun H14 e14 => ?_
    -- the paths
    obtain ⟨ta, ts, rfl, hta, htd⟩ := D13.t.tup_at
    have htl := htd.map_len
    have ht60 := hk.t1
    have part13 : ∀ H', Ex H13 H' → Part K H' a L.winds L.places := fun H' e => ⟨dx, _, wa, .ref pa, e _ _ hH13a, by rfl, ex_t e D13.w.sq, by rfl, D13.p.mono e, by rfl, by rfl, by rfl⟩
    refine s_req (ev_op (ev_lenT (K := K) (ev_var (by rfl)) (.inl (ex_rd e14 hta))) ev_c (rv_leT (by rw [htl]; omega))) fun H15 e15 => ?_
    have e1315 := e14.trans e15
    refine s_fldP (P := fun v H' => ∃ b ys, v = .ref b ∧ PlT H' b ys ∧ DtA H' ys (L.paths.map pathD)) (ep_tupL ((ep_lc L.paths (fun l => some (pathD l)) (ei_tup ((ep_ev (ev_var (by rfl))).imp fun v H1 e ev => ⟨ta, ev, .inl (ex_rd (e1315.trans e) hta)⟩)) htl (by omega) (fun r _ d h => by cases h; exact noL_path _) (fun i x l H11 e11 hl1 hx => ?_)).imp fun v H11 e11 ⟨p1, ys, ev, np1, hp1, hd⟩ => ⟨p1, ys, ev, hp1, by rw [List.filterMap_eq_map'] at hd; exact hd⟩)) (ev_var (by rfl)) (e1315 _ _ hH13a) S.cl S.na_paths (by show 3 < 1000; decide) fun v H16 H17 e16 ⟨ta2, ts2, ev, hptl, hptd⟩ e17 => ?_
    · have hxd := (htd.map_at hx hl1).mono (e1315.trans e11)
      have hlm := List.mem_of_getElem? hl1
      obtain ⟨g1, g2, g3, g4, g5⟩ := hk.te l hlm
      intro H12 e12 Qk Qn hk12 hn12
      refine lcY rfl ?_
      refine r_bind (ep_mt (R := R_checked_path K) (P := fun v H' => Dt H' v (pathD l)) (ev_var (by rfl)) (e12 _ _ (e11 _ _ (e1315 _ _ hH13a))) (by rfl) (ea_cons (ev_var (by rfl)) ea_nil) fun H13 e13 => ⟨a, x, L.winds, L.places, l, rfl, part13 _ (((e1315.trans e11).trans e12).trans e13), hxd.mono (e12.trans e13), g1, g2, g3, g4, g5, rfl⟩) fun v H13 e13 hv => ?_
      exact hk12 _ rfl v H13 e13 hv
    subst ev
    rw [pf4]
    obtain ⟨H18, hH18⟩ : ∃ H18, upd H17 a (.ins (cLand K) dx [("winds", .ref wa), ("places", .ref pa), ("links", .ref ka2), ("paths", .ref ta2)]) = H18 := ⟨_, rfl⟩
    have hH18a : H18 a = some (.ins (cLand K) dx [("winds", .ref wa), ("places", .ref pa), ("links", .ref ka2), ("paths", .ref ta2)]) := by rw [← hH18]; exact upd_same
    have h13a : NoSq (H13 a) := by rw [hH13a]; trivial
    have h17a : NoSq (H17 a) := by rw [e17 _ _ (e16 _ _ (e1315 _ _ hH13a))]; trivial
    have eb1718 : EB a H17 H18 := by rw [← hH18]; exact EB.upd
    have eb1318 : EB a H13 H18 := (ex_eb (e1315.trans (e16.trans e17))).trans eb1718
    have eb18 : EB a H H18 := eb13.trans eb1318
    rw [hH18]
    have D18 := D0.but eb18 n0
    have hpl18 := plt_but eb1318 h13a hpl13
    have hkd18 := hkd13.but eb1318 h13a
    have hptl18 := plt_but eb1718 h17a (hptl.mono e17)
    have hptd18 := (hptd.mono e17).but eb1718 h17a
    have land18 : ∀ H', Ex H18 H' → LandV K H' (.ref a) L := fun H' e => ⟨a, dx, wa, .ref pa, .ref ka2, .ref ta2, rfl, by rw [flds_eq]; exact e _ _ hH18a, D18.w.mono e, D18.p.mono e, .tup (ex_rd e hpl18.rd) (hkd18.mono e), .tup (ex_rd e hptl18.rd) (hptd18.mono e)⟩
    have hok : ∀ q ∈ L.paths, PyData.strOk q.1 = true ∧ PyData.strOk q.2.1 = true := fun q hq => ⟨nameOk_str (hk.pn _ (hk.te q hq).1), nameOk_str (hk.pn _ (hk.te q hq).2.1)⟩
    have htl2 := hptd18.map_len
    refine s_req1 ((ep_callP (R := R_are_different) (PA := fun vs H' => ∃ v, vs = [v] ∧ Dt H' v (.list ((L.paths.map fun q => sortP q.1 q.2.1).map npD))) (fun H1 e1 Q1 q1 => eap_p (P := fun v H' => Dt H' v (.list ((L.paths.map fun q => sortP q.1 q.2.1).map npD))) ((ep_lc L.paths (fun q => some (npD (sortP q.1 q.2.1))) (ei_tup ((ep_ev (ev_fld (ev_var (by rfl)) hH18a S.cl S.na_paths (by rfl))).imp fun v H2 e2 ev => ⟨ta2, ev, .inl (ex_rd e2 hptl18.rd)⟩)) htl2 (by omega) (fun r _ d h => by cases h; simp [npD, noL, noLs]) (fun i x p H11 e11 hp1 hx => ?_)).imp fun v H11 e11 ⟨p1, ys, ev, np1, hp1, hd⟩ => by
      rw [List.filterMap_eq_map'] at hd
      rw [List.map_map, ev]
      exact .lst hp1 hd) eap_nil (fun v H1 H2 e h => h.mono e) H1 e1 _ fun vs H2 e2 ⟨v, r, ev, hv, er⟩ => q1 vs H2 e2 ⟨v, by rw [ev, er], hv⟩) fun vs H1 e1 ⟨v, ev, hv⟩ => ⟨v, ev, .inr ⟨_, hv, by rw [List.length_map]; omega, ?_, ?_⟩, rfl⟩).ev) fun H19 e19 => ?_
    · have hxd := (hptd18.map_at hx hp1).mono e11
      obtain ⟨ba, xs, rfl, hba, hd⟩ := hxd.tup_at
      obtain ⟨x1, r, rfl, g1, d1⟩ := hd.cons_inv
      obtain ⟨x2, r, rfl, g2, d2⟩ := d1.cons_inv
      obtain ⟨x3, r, rfl, g3, d3⟩ := d2.cons_inv
      have d3 := d3.nil_inv
      have g1 := g1.str_eq
      have g2 := g2.str_eq
      have g3 := g3.int_eq
      subst d3 g1 g2 g3
      intro H12 e12 Qk Qn hk12 hn12
      refine lcY rfl ?_
      refine ⟨_, rfl, 2, rfl, ba, _, rfl, .inl (ex_rd e12 hba), fun hw => absurd hw.2 (by show ¬ (2 = 3); decide), fun hw b nb => ?_⟩
      have hcut : cutV ([.str p.1, .str p.2.1, .int p.2.2] : List V) none (some 2) = [p.1, p.2.1].map V.str := cutTo _ 2
      rw [hcut]
      refine ⟨b, [p.1, p.2.1], rfl, .inl (.inl upd_same), (by show 2 < 64; decide), fun ys c hperm hsort nc => ?_⟩
      have eb := Ex.new (o := .tup ([p.1, p.2.1].map V.str)) nb
      have ec := Ex.new (o := .lst (ys.map V.str)) nc
      refine ⟨c, _, rfl, .inl ⟨SqL.of upd_same, fun l o nl ho => ?_⟩⟩
      have el := Ex.new (o := .frz o (.tup (ys.map V.str))) nl
      refine hk12 _ rfl _ _ ((eb.trans ec).trans el) ?_
      rw [sort2 hperm hsort]
      rw [sort2 hperm hsort] at el
      exact .tup (xs := [.str (sortP p.1 p.2.1).1, .str (sortP p.1 p.2.1).2]) (.inr ⟨o, upd_same⟩) (.cons (.str _) (.cons (.str _) .nil))
    · unfold List.Nodup
      rw [List.pairwise_map]
      refine hk.td.imp fun {p q} h e => ?_
      rcases sortP_eq e with e | e
      · exact h.1 e
      · exact h.2 e
    · intro q' hq'
      obtain ⟨p, hp, rfl⟩ := List.mem_map.mp hq'
      obtain ⟨h1, h2⟩ := hok p hp
      unfold sortP
      split
      · exact ⟨h2, h1⟩
      · exact ⟨h1, h2⟩
    · exact q H19 (eb18.trans (ex_eb e19)) (land18 _ e19)
end
end EF
set_option maxHeartbeats 4000000
namespace EF
open PySem PySem.Spec PyProof.Rows L2 Evl
def withLinks (L : Ld) (ls : List Lnk) : Ld := { L with links := ls }
/-- the land without the link of that name -/
def without (L : Ld) (z : Str) : Ld := withLinks L (L.links.filter fun l => decide (l.nm ≠ z))
theorem LdOk.sub {L : Ld} {ls : List Lnk} (h : LdOk L) (hs : ls.Sublist L.links) : LdOk (withLinks L ls) where
  w1 := h.w1
  wn := h.wn
  wd := h.wd
  p1 := h.p1
  pn := h.pn
  pd := h.pd
  l1 := Nat.le_trans hs.length_le h.l1
  ln := fun l hl => h.ln l (hs.subset hl)
  le := fun l hl => h.le l (hs.subset hl)
  lt := fun l hl => h.lt l (hs.subset hl)
  ld := (hs.map _).nodup h.ld
  t1 := h.t1
  te := h.te
  td := h.td
theorem LdOk.without {L : Ld} (h : LdOk L) (z : Str) : LdOk (without L z) := h.sub List.filter_sublist
section
variable {P : Program} {w : World} {K : PySem.W.Frag} {mg : Str → Option Value} {base : Heap}
theorem ep_mkL {σ : L2.St} {H : Hp} {tk : TA} {E : XK} {wa : Addr} {vp vl vt : V} {L : Ld} (h : EvA tk σ H [.ref wa, vp, vl, vt]) (D : InitD K H wa vp vl vt L) (hk : LdOk L) : EvP (tMakeK (cLand K) 0 4 (spInit K) (fun vs zs => vs ++ zs) E tNil tk) σ H (fun v H' => LandV K H' v L) := fun H1 e Q q =>
  h H1 e _ fun H2 e2 => ⟨rfl, rfl, fun x dx nx nd ne => by
    have e3 : Ex H2 (upd (upd H2 dx (.own x)) x (.ins (cLand K) dx [])) := (Ex.new nd).trans (Ex.new (by rw [upd_ne (Ne.symm ne)]; exact nx))
    have D3 := D.but (a := x) (ex_eb ((e.trans e2).trans e3)) (by rw [fresh_back (e.trans e2) nx]; trivial)
    refine ⟨x, dx, wa, vp, vl, vt, L, rfl, upd_same, D3.w, D3.p, D3.l, D3.t, hk, fun H' eb lv => ⟨rfl, q _ H' (fun b o hb => ?_) lv⟩⟩
    have hb2 := e2 _ _ hb
    exact eb b o (ne_of_none hb2 nx) (e3 _ _ hb2)⟩
def R_with_parts (K : PySem.W.Frag) : List V → Hp → Post → Prop := fun vs H Po => ∃ vl L vk ls, vs = [vl, .non, vk, .non] ∧ LandV K H vl L ∧ Dt H vk (.list ((ls : List Lnk).map lnkD)) ∧ LdOk (withLinks L ls) ∧ Po = fun v H' => LandV K H' v (withLinks L ls)
theorem scL_with_parts : FnScope ["self", "places", "links", "paths"] ["self", "places", "links", "paths"] (defScope sL_with_parts) := ⟨rfl, rfl, rfl, by decide +kernel, rfl, by decide +kernel, by decide +kernel⟩
theorem ok_with_parts (S : Says K mg) (LP : PrOk K) : MtK P w K mg base (cLand K) 6 "with_parts" ["self", "places", "links", "paths"] ["links"] (fun vs zs => vs ++ ([V.non] ++ (zs ++ [V.non]))) (spR (R_with_parts K)) := by
  have G_Land := ok_init (P := P) (w := w) (base := base) S LP
  obtain ⟨fd, F⟩ := S.defL_with_parts
  obtain ⟨mv, hb⟩ := F.kbinds0 (ps := ["self", "places", "links", "paths"]) 1 ["links"] [("places", V.non), ("paths", V.non)] (fun us mz zs => us ++ (mz.take 1 ++ (zs ++ mz.drop 1))) (by simp) (by intro q hq; simp at hq ⊢; rcases hq with rfl | rfl <;> simp) (fun r1 r2 r3 => r1.append ((r2.take 1).append (r3.append (r2.drop 1)))) (fun D doc pm an cdv ct us mv ws l1 l2 l3 => match us, mv, ws, l1, l2, l3 with
    | [_], [_, _], [_], _, _, _ => ⟨_, _, _, _, _, _, rfl, rfl, _, _, _, _, _, _, rfl, rfl, rfl⟩)
  refine ⟨S.cl, ⟨_, fd, _, S.m_with_parts, hb, F.ok scL_with_parts (fun vs H Q E h => ?_) (fun cdv A outer s H vs Q E hr h => ?_)⟩⟩
  · obtain ⟨_, ⟨_, _, _, _, rfl, _⟩, _⟩ := h
    rfl
  · obtain ⟨_, ⟨vl, L, vk, ls, rfl, hL, hv, hk, rfl⟩, q⟩ := h
    refine ⟨_, PSs.nox ((pss_one (ps_ret (pe_mkL G_Land (hr.mono (by decide)) (pk_cons (pe_fld (pv 0) rfl) (pk_cons (pe_ifExp (pt_cmpR op_isN (pv 1) pe_non (nomark _)) (pe_fld (pv 0) rfl) (pv 1)) (pk_cons (pe_ifExp (pt_cmpR op_isN (pv 2) pe_non (nomark _)) (pe_fld (pv 0) rfl) (pv 2)) (pk_cons (pe_ifExp (pt_cmpR op_isN (pv 3) pe_non (nomark _)) (pe_fld (pv 0) rfl) (pv 3)) pk_nil)))))))), ?_⟩
    obtain ⟨la, dx, wa, vp, vl0, vt, rfl, hla, hwi, hp, hK, ht⟩ := hL.ex
    obtain ⟨ka, ks, rfl, hka, hkd⟩ := hv.lst_at
    refine s_retP (ep_mkL (wa := wa) (vp := vp) (vl := .ref ka) (vt := vt) (L := withLinks L ls) (ea_cons (ev_fld (ev_var (by rfl)) hla S.cl S.na_winds (fl_winds _ _ _ _)) (ea_cons (EvP.ev (ep_if (b := true) (et_test (ev_op (x := .non) (ev_var (by rfl)) ev_c rv_isN)) (fun _ => ep_ev (ev_fld (ev_var (by rfl)) hla S.cl S.na_places (fl_places _ _ _ _))) (fun c => by cases c))) (ea_cons (EvP.ev (ep_if (b := false) (et_test (ev_op (x := .ref ka) (ev_var (by rfl)) ev_c rv_isN)) (fun c => by cases c) (fun _ => ep_ev (ev_var (by rfl))))) (ea_cons (EvP.ev (ep_if (b := true) (et_test (ev_op (x := .non) (ev_var (by rfl)) ev_c rv_isN)) (fun _ => ep_ev (ev_fld (ev_var (by rfl)) hla S.cl S.na_paths (fl_paths _ _ _ _))) (fun c => by cases c))) ea_nil)))) ⟨hwi, hp, .inl hv, ht⟩ hk) fun v H1 e1 hv1 => q v H1 e1 hv1
def R_without_link (K : PySem.W.Frag) : List V → Hp → Post → Prop := fun vs H Po => ∃ vl L z, vs = [vl, .str z] ∧ LandV K H vl L ∧ LdOk L ∧ (∃ l ∈ L.links, l.nm = z) ∧ Po = fun v H' => LandV K H' v (without L z)
theorem scL_without_link : FnScope ["self", "name", "link"] ["self", "name"] (defScope sL_without_link) := ⟨rfl, rfl, rfl, by decide +kernel, rfl, by decide +kernel, by decide +kernel⟩
theorem ok_without_link (S : Says K mg) (LP : PrOk K) : Mt P w K mg base (cLand K) 7 "without_link" ["self", "name"] (spR (R_without_link K)) := by
  have M_link := ok_link (P := P) (w := w) (base := base) S
  have MK_with_parts := ok_with_parts (P := P) (w := w) (base := base) S LP
  obtain ⟨fd, F⟩ := S.defL_without_link
  refine ⟨S.cl, ⟨_, fd, S.m_without_link, F.bindsN (fun _ _ _ _ _ _ us hl => match us, hl with | [_, _], _ => rfl), F.ok scL_without_link (fun vs H Q E h => ?_) (fun cdv A outer s H vs Q E hr h => ?_)⟩⟩
  · obtain ⟨_, ⟨_, _, _, rfl, _⟩, _⟩ := h
    rfl
  · obtain ⟨_, ⟨vl, L, z, rfl, hL, hk, hz, rfl⟩, q⟩ := h
    obtain ⟨la, dx, wa, vp, vl0, vt, rfl, hla, hwi, hp, hK, ht⟩ := hL.ex
    obtain ⟨ka, ks, rfl, hka, hkd⟩ := hK.tup_at
    have hkl := hkd.map_len
    have hl60 := hk.l1
    refine ⟨_, PSs.nox ((pss_cons (ps_expr (pe_mt M_link (hr.mono (by decide)) (pv 0) (pa_cons (pv 1) pa_nil)))
    (pss_one (ps_ret (pe_mtK MK_with_parts (hr.mono (by decide)) (pv 0) (pk_cons (pe_lc (own := [("link", 2)]) (g := (gName 2)) (tt := (tTest (tOp _ (tOp (rIxT K) (tVar 2) (tC (.int 0))) (tVar 1)))) (te := (tVar 2)) rfl scL_without_link.nd (pi_tup (pe_fld (pv 0) rfl)) (blkOk_by (N := ["self", "name", "link"]) (sc := defScope sL_without_link) (by decide +kernel)) (fun _ _ _ _ _ => (pg_name (i := 2) scL_without_link.nd rfl (by first | exact Or.inl rfl | exact Or.inr rfl))) (fun _ _ _ _ _ => (pts_one (pt_cmpR op_ne (pe_ix ix_tup (pv 2) pe_int (fun _ _ => rfl)) (pv 1) (nomark _)))) (fun _ _ _ _ _ => (pv 2))) pk_nil)))))), ?_⟩
    have hfm : (flds (.ref wa) vp (.ref ka) vt).lookup ("link" : Str) = none := by rw [flds_eq]; rfl
    have hfw : (flds (.ref wa) vp (.ref ka) vt).lookup ("with_parts" : Str) = none := by rw [flds_eq]; rfl
    refine q_dropP (ep_mt (R := R_link K) (ev_var (by rfl)) hla hfm (ea_cons (ev_var (by rfl)) ea_nil) fun H1 e1 => ⟨_, L, z, rfl, hL.mono e1, hz, rfl⟩) fun v H1 e1 _ => ?_
    refine r_ret ⟨_, rfl, la, dx, _, rfl, e1 _ _ hla, hfw, ?_⟩
    refine r_bind (P := fun v H' => Dt H' v (.list ((L.links.filter fun l => decide (l.nm ≠ z)).map lnkD))) ((ep_lc L.links (fun l => if l.nm = z then none else some (lnkD l)) (ei_tup ((ep_ev (ev_fld (ev_var (by rfl)) (e1 _ _ hla) S.cl S.na_links (fl_links _ _ _ _))).imp fun v H2 e2 ev => ⟨ka, ev, .inl (ex_rd (e1.trans e2) hka)⟩)) hkl (by omega) (fun r _ d h => ?_) (fun i x l H2 e2 hl1 hx => ?_)).imp fun v H2 e2 ⟨p1, ys, ev, np1, hp1, hd⟩ => ?_) fun v H2 e2 hv => ?_
    · split at h
      · cases h
      · cases h; exact noL_lnk _
    · have hxd := (hkd.map_at hx hl1).mono (e1.trans e2)
      obtain ⟨ba, tv, rfl, hba, htv⟩ := dt_lnk hxd
      intro H3 e3 Qk Qn hk3 hn3
      refine ⟨rfl, _, rfl, ba, _, 0, _, rfl, rfl, .inl (ex_rd e3 hba), atI_nat (j := 0) rfl, _, rfl, by rfl, _, rfl, ?_⟩
      by_cases c : l.nm = z
      · rw [decide_eq_true (congrArg V.str c)]
        exact iteF (hn3 (if_pos c) H3 (Ex.refl _))
      · rw [decide_eq_false (fun e => c (V.str.inj e))]
        refine iteT ⟨_, rfl, hk3 (lnkD l) (if_neg c) _ H3 (Ex.refl _) ((hkd.map_at hx hl1).mono ((e1.trans e2).trans e3))⟩
    · subst ev
      have e5 : L.links.filterMap (fun l => if l.nm = z then none else some (lnkD l)) = (L.links.filter fun l => decide (l.nm ≠ z)).map lnkD := by
        rw [← List.filterMap_eq_filter, ← List.filterMap_eq_map, List.filterMap_filterMap]
        congr 1
        funext l
        by_cases c : l.nm = z <;> simp [c, Option.guard]
      rw [e5] at hd
      exact .lst hp1 hd
    · exact ⟨rfl, _, ⟨_, L, v, _, rfl, hL.mono (e1.trans e2), hv, hk.without z, rfl⟩, fun v3 H3 e3 p3 => q v3 H3 ((e1.trans e2).trans e3) p3⟩
end
end EF
set_option maxHeartbeats 4000000
namespace EF
open PySem PySem.Spec PyProof.Rows L2 Evl
/-! ### told lists as data -/
theorem oi_depth (o : Option Int) : (oiD o).depth = 0 := by cases o <;> simp [oiD, PyData.depth]
theorem told_depth : ∀ l : List (Str × Option Int), PyData.depthAll (l.map fun q => PyData.tuple [.str q.1, oiD q.2]) ≤ 1
  | [] => by simp [PyData.depthAll]
  | q :: l => by
    have h := told_depth l
    simp only [List.map_cons, PyData.depthAll, PyData.depth, oi_depth]
    omega
theorem oi_lay (o : Option Int) : (oiD o).canLay0 = true := by cases o <;> simp [oiD, PyData.canLay0]
theorem told_lay : ∀ {l : List (Str × Option Int)}, (∀ q ∈ l, PyData.strOk q.1 = true) → PyData.canLayAll0 (l.map fun q => PyData.tuple [.str q.1, oiD q.2]) = true
  | [], _ => rfl
  | q :: l, h => by
    simp only [List.map_cons, PyData.canLayAll0, PyData.canLay0, oi_lay, h q (by simp), told_lay (l := l) fun r hr => h r (by simp [hr]), Bool.and_true]
theorem told_shaped {l : List (Str × Option Int)} (h : ∀ q ∈ l, PyData.strOk q.1 = true) : SeqAt.shaped (toldD l) = true := by
  unfold SeqAt.shaped toldD
  have h1 := told_depth l
  have h2 : (PyData.list (l.map fun q => PyData.tuple [.str q.1, oiD q.2])).canLay0 = true := by simp only [PyData.canLay0]; exact told_lay h
  have h3 : (PyData.list (l.map fun q => PyData.tuple [.str q.1, oiD q.2])).depth = PyData.depthAll (l.map fun q => PyData.tuple [.str q.1, oiD q.2]) + 1 := by simp [PyData.depth] <;> omega
  rw [h2, h3, decide_eq_true (by omega)]
  rfl
theorem both_shaped {a b : List (Str × Option Int)} (ha : ∀ q ∈ a, PyData.strOk q.1 = true) (hb : ∀ q ∈ b, PyData.strOk q.1 = true) : SeqAt.shaped (.tuple [toldD a, toldD b]) = true := by
  unfold SeqAt.shaped toldD
  have h1 := told_depth a
  have h2 := told_depth b
  have h3 : (PyData.tuple [.list (a.map fun q => PyData.tuple [.str q.1, oiD q.2]), .list (b.map fun q => PyData.tuple [.str q.1, oiD q.2])]).canLay0 = true := by
    simp only [PyData.canLay0, PyData.canLayAll0, told_lay ha, told_lay hb, Bool.and_true]
  have h4 : (PyData.tuple [.list (a.map fun q => PyData.tuple [.str q.1, oiD q.2]), .list (b.map fun q => PyData.tuple [.str q.1, oiD q.2])]).depth ≤ 64 := by
    simp only [PyData.depth, PyData.depthAll]
    omega
  rw [h3, decide_eq_true h4]
  rfl
theorem oi_eqv (a b : Option Int) : PyData.eqv (oiD a) (oiD b) = decide (a = b) := by
  cases a <;> cases b <;> simp [oiD, PyData.eqv] <;> rfl
theorem pairT_eqv (a b : Str × Option Int) : PyData.eqv (.tuple [.str a.1, oiD a.2]) (.tuple [.str b.1, oiD b.2]) = decide (a = b) := by
  obtain ⟨a1, a2⟩ := a
  obtain ⟨b1, b2⟩ := b
  have h1 : (PyData.str a1).eqv (.str b1) = (a1 == b1) := by simp [PyData.eqv]
  simp only [PyData.eqv, PyData.eqvAll, oi_eqv]
  by_cases c1 : a1 = b1
  · by_cases c2 : a2 = b2
    · simp [c1, c2]
    · simp [c1, c2]
  · simp [c1]
theorem toldL_eqv : ∀ a b : List (Str × Option Int), PyData.eqvAll (a.map fun q => PyData.tuple [.str q.1, oiD q.2]) (b.map fun q => PyData.tuple [.str q.1, oiD q.2]) = decide (a = b)
  | [], [] => by simp [PyData.eqvAll]
  | [], y :: b => by simp [PyData.eqvAll]
  | x :: a, [] => by simp [PyData.eqvAll]
  | x :: a, y :: b => by
    simp only [List.map_cons, PyData.eqvAll, pairT_eqv, toldL_eqv a b]
    by_cases c1 : x = y
    · by_cases c2 : a = b <;> simp [c1, c2]
    · simp [c1]
theorem told_eqv (a b : List (Str × Option Int)) : PyData.eqv (toldD a) (toldD b) = decide (a = b) := by
  unfold toldD
  simp only [PyData.eqv, toldL_eqv]
theorem both_eqv (a b c d : List (Str × Option Int)) : PyData.eqv (.tuple [toldD a, toldD b]) (.tuple [toldD c, toldD d]) = decide (a = c ∧ b = d) := by
  simp only [PyData.eqv, PyData.eqvAll, told_eqv, Bool.and_true]
  by_cases c1 : a = c <;> by_cases c2 : b = d <;> simp [c1, c2]
theorem told_ok {L : Ld} (h : LdOk L) (f : Str → Option Int) : ∀ q ∈ toldOf L f, PyData.strOk q.1 = true := fun q hq => by
  obtain ⟨p, hp, rfl⟩ := List.mem_map.mp hq
  exact nameOk_str (h.pn p hp)
/-- both fires are the same -/
def same (L M : Ld) (W : Wea) (S B : Rws) : Prop := fire L W S B false = fire M W S B false ∧ fire L W S B true = fire M W S B true
noncomputable def sameB (L M : Ld) (W : Wea) (S B : Rws) : Bool := open Classical in decide (same L M W S B)
theorem toldOf_eq {L M : Ld} (hp : M.places = L.places) {f g : Str → Option Int} (hf : ∀ p n, f p = some n → p ∈ L.places) (hg : ∀ p n, g p = some n → p ∈ L.places) : toldOf M f = toldOf L g ↔ f = g := by
  unfold toldOf
  rw [hp]
  constructor
  · intro h
    funext p
    by_cases c : p ∈ L.places
    · have := List.map_inj_left.mp h p c
      exact (Prod.mk.inj this).2
    · cases h1 : f p with
      | some n => exact absurd (hf p n h1) c
      | none =>
        cases h2 : g p with
        | some n => exact absurd (hg p n h2) c
        | none => rfl
  · intro h
    rw [h]
theorem both_same {L M : Ld} {W : Wea} {S B : Rws} (hp : M.places = L.places) (hL : QOk L W S) (hM : QOk M W S) : PyData.eqv (bothD M W S B) (bothD L W S B) = sameB M L W S B := by
  have f1 : ∀ (sd : Bool) p n, fire M W S B sd p = some n → p ∈ L.places := fun sd p n h => by rw [← hp]; exact fire_in hM (fire_is hM) h
  have f2 : ∀ (sd : Bool) p n, fire L W S B sd p = some n → p ∈ L.places := fun sd p n h => fire_in hL (fire_is hL) h
  unfold bothD fireD
  rw [both_eqv]
  unfold sameB
  have e : (toldOf M (fire M W S B false) = toldOf L (fire L W S B false) ∧ toldOf M (fire M W S B true) = toldOf L (fire L W S B true)) ↔ same M L W S B := by
    rw [toldOf_eq hp (f1 false) (f2 false), toldOf_eq hp (f1 true) (f2 true)]
    rfl
  exact decide_eq_decide.mpr e
/-! ### the three questions -/
noncomputable def idle (L : Ld) (W : Wea) (S B : Rws) : List Str := (L.links.map fun l : Lnk => l.nm).filter fun z => sameB (without L z) L W S B
noncomputable def leanStep (L : Ld) (W : Wea) (S B : Rws) (M : Ld) (z : Str) : Ld := if sameB (without M z) L W S B = true then without M z else M
noncomputable def lean (L : Ld) (W : Wea) (S B : Rws) : Ld := (L.links.map fun l : Lnk => l.nm).foldl (leanStep L W S B) L
noncomputable def needed (L : Ld) (W : Wea) (S B : Rws) (p : Str) : Option (List Str) := if fire L W S B false p = none then none else some ((L.links.map fun l : Lnk => l.nm).filter fun z => decide (fire (without L z) W S B false p = none))
def gateAt (L : Ld) (W : Wea) (S B : Rws) (z : Str) (o : Out) : Out := unkO (badWind L.winds W) (unkO (badRow L.places S) (unkO (badRow L.places B) (if z ∈ L.places then (if weaGood W = true then o else .wea) else .unk z)))
theorem Good.without {L : Ld} {W : Wea} {S B : Rws} (g : Good L W S B) (z : Str) : Good (without L z) W S B := ⟨g.lk.without z, g.w, g.s, g.sl, g.bl⟩
section
variable {K : PySem.W.Frag} {σ : L2.St} {H : Hp} {ta tb to : TE} {y : V}
theorem et_eqD {d e : PyData} (ha : EvP ta σ H (fun v H' => Dt H' v d)) (hb : Ev tb σ H y) (hy : Dt H y e) (sd : SeqAt.shaped d = true) (se : SeqAt.shaped e = true) : EvT (tTest (tOp (rEqD K) ta tb)) σ H (PyData.eqv d e) := fun H1 e1 Q q =>
  ha H1 e1 _ fun v H2 e2 hv => hb H2 (e1.trans e2) _ fun H3 e3 => ⟨d, e, (hv.mono e3).dp, (hy.mono ((e1.trans e2).trans e3)).dp, sd, se, _, rfl, q H3 (e2.trans e3)⟩
end
/-- the fires of a land, asked of an open question -/
theorem ep_both {K : PySem.W.Frag} {σ : L2.St} {H : Hp} {E : L2.St → XK} {ta : TA} {vw vs' vb : V} {L : Ld} {W : Wea} {S B : Rws} {PL : Post} (h : EvAP ta σ H (fun vs H' => ∃ v, vs = [v, vw, vs', vb] ∧ LandV K H' v L)) (hk : LdOk L) (o : Open L W S B) {vl : V} {M : Ld} (a : Ask K H vl vw vs' vb M W S B) :
    EvP (tCallS (spO K (R_both K)) E ta) σ H (fun v H' => Dt H' v (bothD L W S B)) :=
  ep_callS (R := R_both K) h fun vs H1 e1 ⟨v, ev, hv⟩ => ⟨v, vw, vs', vb, L, W, S, B, ev, ⟨⟨hv, (a.mono e1).a.w, (a.mono e1).a.s, (a.mono e1).a.b, a.a.ok⟩, hk, a.s0, a.sl, a.bl⟩, (gate_open o _).symm⟩
theorem both_sh {L : Ld} (h : LdOk L) (W : Wea) (S B : Rws) : SeqAt.shaped (bothD L W S B) = true := both_shaped (told_ok h _) (told_ok h _)
section
variable {P : Program} {w : World} {K : PySem.W.Frag} {mg : Str → Option Value} {base : Heap}
def R_idle (K : PySem.W.Frag) : List V → Hp → Out → Prop := fun vs H o => ∃ vl vw vs' vb L W St B, vs = [vl, vw, vs', vb] ∧ Ask K H vl vw vs' vb L W St B ∧ o = gate L W St B (oD (.list ((idle L W St B).map .str)))
theorem sc_idle_links : FnScope ["land", "weather", "starts", "breaks", "fires", "found", "name"] ["land", "weather", "starts", "breaks"] (defScope s_idle_links) := ⟨rfl, rfl, rfl, by decide +kernel, rfl, by decide +kernel, by decide +kernel⟩
theorem ok_idle_links (S : Says K mg) (U : UnkOk P K (cUnk K)) (LP : PrOk K) : Fn P w K mg base 8 "idle_links" ["land", "weather", "starts", "breaks"] (spO K (R_idle K)) := by
  have G_both_fires := ok_both_fires (P := P) (w := w) (base := base) S U
  have M_without_link := ok_without_link (P := P) (w := w) (base := base) S LP
  have PL := ok_link_names (P := P) (w := w) (base := base) S LP
  obtain ⟨fd, F⟩ := S.def_idle_links
  refine ⟨⟨_, fd, S.g_idle_links, F.kp, F.bindsN (fun _ _ _ _ _ _ us hl => match us, hl with | [_, _, _, _], _ => rfl), F.ok sc_idle_links (fun vs H Q E h => ?_) (fun cdv A outer s H vs Q E hr h => ?_)⟩⟩
  · obtain ⟨_, ⟨_, _, _, _, _, _, _, _, rfl, _⟩, _⟩ := h
    rfl
  · obtain ⟨o, ⟨vl, vw, vs', vb, L, W, St, B, rfl, a, rfl⟩, q⟩ := h
    refine ⟨_, ((pss_cons (ps_set (i := 4) sc_idle_links.nd rfl (by first | exact Or.inl rfl | exact Or.inr rfl) (pe_fnS G_both_fires (hr.mono (by decide)) (takes_of rfl rfl rfl rfl) (pa_cons (pv 0) (pa_cons (pv 1) (pa_cons (pv 2) (pa_cons (pv 3) pa_nil))))))
    (pss_cons (ps_set (i := 5) sc_idle_links.nd rfl (by first | exact Or.inl rfl | exact Or.inr rfl) (pe_lst pa_nil))
    (pss_cons (ps_for (passes_of rfl) rfl (pi_tup (pe_prp PL (hr.mono (by decide)) (pv 0))) (pg_name (i := 6) sc_idle_links.nd rfl (by first | exact Or.inl rfl | exact Or.inr rfl))
      (pss_one (ps_if (pt_cmpR (op_eqD hr.units) (pe_fnS G_both_fires (hr.mono (by decide)) (takes_of rfl rfl rfl rfl) (pa_cons (pe_mt M_without_link (hr.mono (by decide)) (pv 0) (pa_cons (pv 6) pa_nil)) (pa_cons (pv 1) (pa_cons (pv 2) (pa_cons (pv 3) pa_nil))))) (pv 4) (nomark _)) (pss_one (ps_expr (pe_bm PySem.F.plainAttrs_list PySem.F.slot_list_append PySem.F.type_list_append mt_append (pv 5) (pa_cons (pv 6) pa_nil)))) pss_nil)))
    (pss_one (ps_ret (pv 5))))))), ?_⟩
    have A4 : EvA (tCons (tVar 0) (tCons (tVar 1) (tCons (tVar 2) (tCons (tVar 3) tNil)))) [some vl, some vw, some vs', some vb, none, none, none] H [vl, vw, vs', vb] := ea_cons (ev_var (by rfl)) (ea_cons (ev_var (by rfl)) (ea_cons (ev_var (by rfl)) (ea_cons (ev_var (by rfl)) ea_nil)))
    refine r_seq (r_asg (c_callS (R := R_both K) (o := gate L W St B (oD (bothD L W St B))) A4 (fun H1 e1 => ⟨vl, vw, vs', vb, L, W, St, B, rfl, a.mono e1, rfl⟩) ?_))
    rcases gate_split L W St B with ho | ⟨z, hz⟩ | hz
    · rw [gate_open ho] at q ⊢
      intro fv H1 e1 hfv
      have g := a.good ho
      have hl60 := g.lk.l1
      refine gn ?_
      refine q_asgL (el_lst ea_nil (by decide)) fun p H2 np e2 hp => ?_
      have npH : H p = none := fresh_back e1 np
      have e02 := e1.trans e2
      have hL := a.a.l
      obtain ⟨la, dx, wa, vp, vk, vt, rfl, hla, hwi, hpp, hK, ht⟩ := hL.ex
      refine r_seq (r_bind (ep_prp (R := R_link_names K) (ev_var (by rfl)) (e02 _ _ hla) fun H3 e3 => ⟨la, dx, _, vk, L.links, rfl, e3 _ _ (e02 _ _ hla), fl_links _ _ _ _, hK.mono (e02.trans e3), by omega, rfl⟩) fun nv H3 e3 hnv => ?_)
      obtain ⟨na, ns, rfl, hna, hnd⟩ := hnv.tup_at
      have hns := hnd.strs
      subst hns
      have e03 := e02.trans e3
      have hna0 : ∀ {H'}, Ex H3 H' → Rd H' na (.tup ((L.links.map fun l : Lnk => l.nm).map V.str)) := fun e => ex_rd e hna
      refine ⟨na, rfl, ⟨_, .inl hna⟩, for_tup (xs := (L.links.map fun l : Lnk => l.nm).map V.str) (fun i σ' H' => (∃ x6, σ' = [some (.ref la), some vw, some vs', some vb, some fv, some (.ref p), x6]) ∧ Ex H1 H' ∧ Rd H' na (.tup ((L.links.map fun l : Lnk => l.nm).map V.str)) ∧ H' p = some (.lst ((((L.links.map fun l : Lnk => l.nm).take i).filter fun z => sameB (without L z) L W St B).map V.str))) ⟨⟨_, rfl⟩, e2.trans e3, hna, e3 _ _ hp⟩ (fun i σ' H' _ h => .inl h.2.2.1) (fun i x σ' H' hx h => ?_) (fun σ' H' h => ?_)⟩
      · obtain ⟨⟨x6, rfl⟩, eH1, hn, hpl⟩ := h
        have eH := e1.trans eH1
        have hf := hfv.mono eH1
        obtain ⟨z, hz1, rfl⟩ : ∃ z, (L.links.map fun l : Lnk => l.nm)[i]? = some z ∧ V.str z = x := by
          rw [List.getElem?_map] at hx
          exact Option.map_eq_some_iff.mp hx
        obtain ⟨l, hl1, hl2⟩ : ∃ l ∈ L.links, l.nm = z := by
          have := List.mem_of_getElem? hz1
          obtain ⟨l, h1, h2⟩ := List.mem_map.mp this
          exact ⟨l, h1, h2⟩
        have hb := both_same (L := L) (M := without L z) (B := B) rfl g.q (g.without z).q
        have htake : ((L.links.map fun l : Lnk => l.nm).take (i + 1)).filter (fun z => sameB (without L z) L W St B) = ((L.links.map fun l : Lnk => l.nm).take i).filter (fun z => sameB (without L z) L W St B) ++ (if sameB (without L z) L W St B = true then [z] else []) := by
          rw [List.take_succ, hz1, List.filter_append]
          congr 1
          cases q : sameB (without L z) L W St B <;> simp [q]
        have aH := a.mono eH
        have hlen : (((L.links.map fun l : Lnk => l.nm).take i).filter fun z => sameB (without L z) L W St B).length ≤ L.links.length := by
          refine Nat.le_trans (List.length_filter_le _ _) (Nat.le_trans (List.length_take_le' _ _) ?_)
          rw [List.length_map]
          exact Nat.le_refl _
        refine r_if (et_is (et_eqD (d := bothD (without L z) W St B) (e := bothD L W St B) (ep_both (PL := fun _ _ => True) (L := without L z) ?_ (g.lk.without z) ⟨ho.w, ho.s, ho.b, ho.g⟩ aH) (ev_var (by rfl)) hf (both_sh (g.lk.without z) W St B) (both_sh g.lk W St B)) hb) (fun c H4 e4 => ?_) (fun c H4 e4 => ?_)
        · exact fun H4 e4 Q4 q4 => eap_p (P := fun v H' => LandV K H' v (without L z)) (ep_mt (R := R_without_link K) (ev_var (by rfl)) (eH _ _ hla) (by rw [flds_eq]; rfl) (ea_cons (ev_var (by rfl)) ea_nil) fun H5 e5 => ⟨_, L, z, rfl, hL.mono (eH.trans e5), g.lk, ⟨l, hl1, hl2⟩, rfl⟩) (eap_v (v := vw) (ev_var (by rfl)) (eap_v (v := vs') (ev_var (by rfl)) (eap_v (v := vb) (ev_var (by rfl)) eap_nil))) (fun v H1 H2 e h => h.mono e) H4 e4 _ fun vs H5 e5 ⟨v, r, ev, hv, r1, er1, r2, er2, r3, er3, er4⟩ => q4 vs H5 e5 ⟨v, by rw [ev, er1, er2, er3, er4], hv⟩
        · refine s_appendP (P := fun v _ => v = .str z) (ev_var (by rfl)) (e4 _ _ hpl) (by rw [List.length_map]; omega) (ep_ev (ev_var (by rfl))) fun v H5 e5 ev => ?_
          subst ev
          have e45 := e4.trans e5
          refine ⟨⟨_, rfl⟩, Ex.mut (eH1.trans e45) np, rd_upd (by rw [e45 _ _ hpl]; trivial) (ex_rd e45 hn), ?_⟩
          rw [upd_same, htake, if_pos c, List.map_append]
          rfl
        · refine gn ⟨⟨_, rfl⟩, eH1.trans e4, ex_rd e4 hn, ?_⟩
          rw [htake, if_neg (by rw [c]; decide), List.append_nil]
          exact e4 _ _ hpl
      · obtain ⟨⟨x6, rfl⟩, eH1, hn, hpl⟩ := h
        rw [List.length_map, List.take_length] at hpl
        exact gn ⟨_, rfl, q _ H' (e1.trans eH1) (.lst hpl (DtA.of_strs _))⟩
    · rw [hz] at q ⊢
      exact q
    · rw [hz] at q ⊢
      exact q
end
end EF
set_option maxHeartbeats 4000000
namespace EF
open PySem PySem.Spec PyProof.Rows L2 Evl
noncomputable def leanAt (L : Ld) (W : Wea) (S B : Rws) (i : Nat) : Ld := ((L.links.map fun l : Lnk => l.nm).take i).foldl (leanStep L W S B) L
theorem leanAt_succ {L : Ld} {W : Wea} {S B : Rws} {i : Nat} {z : Str} (h : (L.links.map fun l : Lnk => l.nm)[i]? = some z) : leanAt L W S B (i + 1) = leanStep L W S B (leanAt L W S B i) z := by
  unfold leanAt
  rw [List.take_succ, h, List.foldl_append]
  rfl
theorem lean_inv {L : Ld} (hk : LdOk L) (W : Wea) (S B : Rws) : ∀ i, ∃ ls, leanAt L W S B i = withLinks L ls ∧ ls.Sublist L.links ∧ ∀ j l, i ≤ j → L.links[j]? = some l → l ∈ ls
  | 0 => ⟨L.links, rfl, List.Sublist.refl _, fun j l _ h => List.mem_of_getElem? h⟩
  | i + 1 => by
    obtain ⟨ls, h1, h2, h3⟩ := lean_inv hk W S B i
    cases hz : (L.links.map fun l : Lnk => l.nm)[i]? with
    | none =>
      have hle : L.links.length ≤ i := by simpa using hz
      have e : leanAt L W S B (i + 1) = leanAt L W S B i := by
        unfold leanAt
        rw [List.take_of_length_le (by simp; omega), List.take_of_length_le (by simp; omega)]
      exact ⟨ls, e.trans h1, h2, fun j l hj h => h3 j l (by omega) h⟩
    | some z =>
      rw [leanAt_succ hz, h1]
      unfold leanStep
      obtain ⟨l0, hl0, hn0⟩ : ∃ l0, L.links[i]? = some l0 ∧ l0.nm = z := by
        rw [List.getElem?_map] at hz
        exact Option.map_eq_some_iff.mp hz
      split
      · refine ⟨ls.filter fun l => decide (l.nm ≠ z), rfl, List.filter_sublist.trans h2, fun j l hj h => List.mem_filter.mpr ⟨h3 j l (by omega) h, decide_eq_true fun e => ?_⟩⟩
        obtain ⟨b1, c1⟩ := List.getElem?_eq_some_iff.mp hl0
        obtain ⟨b2, c2⟩ := List.getElem?_eq_some_iff.mp h
        have := List.pairwise_iff_getElem.mp hk.ld i j (by rw [List.length_map]; exact b1) (by rw [List.length_map]; exact b2) (by omega)
        rw [List.getElem_map, List.getElem_map, c1, c2] at this
        exact this (hn0.trans e.symm)
      · exact ⟨ls, rfl, h2, fun j l hj h => h3 j l (by omega) h⟩
theorem Good.sub {L : Ld} {W : Wea} {S B : Rws} {ls : List Lnk} (g : Good L W S B) (h : ls.Sublist L.links) : Good (withLinks L ls) W S B := ⟨g.lk.sub h, g.w, g.s, g.sl, g.bl⟩
section
variable {P : Program} {w : World} {K : PySem.W.Frag} {mg : Str → Option Value} {base : Heap}
def R_lean (K : PySem.W.Frag) : List V → Hp → Out → Prop := fun vs H o => ∃ vl vw vs' vb L W St B, vs = [vl, vw, vs', vb] ∧ Ask K H vl vw vs' vb L W St B ∧ o = gate L W St B (.ok fun v H' => LandV K H' v (lean L W St B))
theorem sc_lean_land : FnScope ["land", "weather", "starts", "breaks", "fires", "name", "less"] ["land", "weather", "starts", "breaks"] (defScope s_lean_land) := ⟨rfl, rfl, rfl, by decide +kernel, rfl, by decide +kernel, by decide +kernel⟩
theorem ok_lean_land (S : Says K mg) (U : UnkOk P K (cUnk K)) (LP : PrOk K) : Fn P w K mg base 8 "lean_land" ["land", "weather", "starts", "breaks"] (spO K (R_lean K)) := by
  have G_both_fires := ok_both_fires (P := P) (w := w) (base := base) S U
  have M_without_link := ok_without_link (P := P) (w := w) (base := base) S LP
  have PL := ok_link_names (P := P) (w := w) (base := base) S LP
  obtain ⟨fd, F⟩ := S.def_lean_land
  refine ⟨⟨_, fd, S.g_lean_land, F.kp, F.bindsN (fun _ _ _ _ _ _ us hl => match us, hl with | [_, _, _, _], _ => rfl), F.ok sc_lean_land (fun vs H Q E h => ?_) (fun cdv A outer s H vs Q E hr h => ?_)⟩⟩
  · obtain ⟨_, ⟨_, _, _, _, _, _, _, _, rfl, _⟩, _⟩ := h
    rfl
  · obtain ⟨o, ⟨vl, vw, vs', vb, L, W, St, B, rfl, a, rfl⟩, q⟩ := h
    refine ⟨_, ((pss_cons (ps_set (i := 4) sc_lean_land.nd rfl (by first | exact Or.inl rfl | exact Or.inr rfl) (pe_fnS G_both_fires (hr.mono (by decide)) (takes_of rfl rfl rfl rfl) (pa_cons (pv 0) (pa_cons (pv 1) (pa_cons (pv 2) (pa_cons (pv 3) pa_nil))))))
    (pss_cons (ps_for (passes_of rfl) rfl (pi_tup (pe_prp PL (hr.mono (by decide)) (pv 0))) (pg_name (i := 5) sc_lean_land.nd rfl (by first | exact Or.inl rfl | exact Or.inr rfl))
      (pss_cons (ps_set (i := 6) sc_lean_land.nd rfl (by first | exact Or.inl rfl | exact Or.inr rfl) (pe_mt M_without_link (hr.mono (by decide)) (pv 0) (pa_cons (pv 5) pa_nil)))
    (pss_one (ps_if (pt_cmpR (op_eqD hr.units) (pe_fnS G_both_fires (hr.mono (by decide)) (takes_of rfl rfl rfl rfl) (pa_cons (pv 6) (pa_cons (pv 1) (pa_cons (pv 2) (pa_cons (pv 3) pa_nil))))) (pv 4) (nomark _)) (pss_one (ps_set (i := 0) sc_lean_land.nd rfl (by first | exact Or.inl rfl | exact Or.inr rfl) (pv 6))) pss_nil))))
    (pss_one (ps_ret (pv 0)))))), ?_⟩
    have A4 : EvA (tCons (tVar 0) (tCons (tVar 1) (tCons (tVar 2) (tCons (tVar 3) tNil)))) [some vl, some vw, some vs', some vb, none, none, none] H [vl, vw, vs', vb] := ea_cons (ev_var (by rfl)) (ea_cons (ev_var (by rfl)) (ea_cons (ev_var (by rfl)) (ea_cons (ev_var (by rfl)) ea_nil)))
    refine r_seq (r_asg (c_callS (R := R_both K) (o := gate L W St B (oD (bothD L W St B))) A4 (fun H1 e1 => ⟨vl, vw, vs', vb, L, W, St, B, rfl, a.mono e1, rfl⟩) ?_))
    rcases gate_split L W St B with ho | ⟨z, hz⟩ | hz
    · rw [gate_open ho] at q ⊢
      intro fv H1 e1 hfv
      have g := a.good ho
      have hl60 := g.lk.l1
      refine gn ?_
      have hL := a.a.l
      obtain ⟨la, dx, wa, vp, vk, vt, rfl, hla, hwi, hpp, hK, ht⟩ := hL.ex
      refine r_seq (r_bind (ep_prp (R := R_link_names K) (ev_var (by rfl)) (e1 _ _ hla) fun H3 e3 => ⟨la, dx, _, vk, L.links, rfl, e3 _ _ (e1 _ _ hla), fl_links _ _ _ _, hK.mono (e1.trans e3), by omega, rfl⟩) fun nv H3 e3 hnv => ?_)
      obtain ⟨na, ns, rfl, hna, hnd⟩ := hnv.tup_at
      have hns := hnd.strs
      subst hns
      refine ⟨na, rfl, ⟨_, .inl hna⟩, for_tup (xs := (L.links.map fun l : Lnk => l.nm).map V.str) (fun i σ' H' => (∃ vM x5 x6, σ' = [some vM, some vw, some vs', some vb, some fv, x5, x6] ∧ LandV K H' vM (leanAt L W St B i)) ∧ Ex H3 H') ⟨⟨_, _, _, rfl, hL.mono (e1.trans e3)⟩, Ex.refl _⟩ (fun i σ' H' _ h => .inl (ex_rd h.2 hna)) (fun i x σ' H' hx h => ?_) (fun σ' H' h => ?_)⟩
      · obtain ⟨⟨vM, x5, x6, rfl, hM⟩, eH3⟩ := h
        have eH1 := e3.trans eH3
        have eH := e1.trans eH1
        have hf := hfv.mono eH1
        obtain ⟨z, hz1, rfl⟩ : ∃ z, (L.links.map fun l : Lnk => l.nm)[i]? = some z ∧ V.str z = x := by
          rw [List.getElem?_map] at hx
          exact Option.map_eq_some_iff.mp hx
        obtain ⟨l0, hl0, hn0⟩ : ∃ l0, L.links[i]? = some l0 ∧ l0.nm = z := by
          rw [List.getElem?_map] at hz1
          exact Option.map_eq_some_iff.mp hz1
        obtain ⟨ls, h1, h2, h3⟩ := lean_inv g.lk W St B i
        have hstep := leanAt_succ (W := W) (S := St) (B := B) hz1
        rw [h1] at hM hstep
        have gM := g.sub h2
        have hb := both_same (L := L) (M := without (withLinks L ls) z) (B := B) rfl g.q (gM.without z).q
        have hin : ∃ l ∈ (withLinks L ls).links, l.nm = z := ⟨l0, h3 i l0 (Nat.le_refl _) hl0, hn0⟩
        obtain ⟨ma, mdx, mwa, mvp, mvk, mvt, rfl, hma, _⟩ := hM.ex
        refine q_asgP (ep_mt (R := R_without_link K) (P := fun v H' => LandV K H' v (without (withLinks L ls) z)) (ev_var (by rfl)) hma (by rw [flds_eq]; rfl) (ea_cons (ev_var (by rfl)) ea_nil) fun H5 e5 => ⟨_, withLinks L ls, z, rfl, hM.mono e5, gM.lk, hin, rfl⟩) fun lv H4 e4 hlv => ?_
        have aH := a.mono (eH.trans e4)
        refine r_if (et_is (et_eqD (d := bothD (without (withLinks L ls) z) W St B) (e := bothD L W St B) (ep_both (PL := fun _ _ => True) (L := without (withLinks L ls) z) ?_ (gM.lk.without z) ⟨ho.w, ho.s, ho.b, ho.g⟩ aH) (ev_var (by rfl)) (hf.mono e4) (both_sh (gM.lk.without z) W St B) (both_sh g.lk W St B)) hb) (fun c H5 e5 => ?_) (fun c H5 e5 => ?_)
        · exact fun H5 e5 Q5 q5 => (ea_cons (σ := _) (H := H4) (ev_var (by rfl)) (ea_cons (ev_var (by rfl)) (ea_cons (ev_var (by rfl)) (ea_cons (ev_var (by rfl)) ea_nil)))) H5 e5 _ fun H6 e6 => q5 [lv, vw, vs', vb] H6 e6 ⟨lv, rfl, hlv.mono (e5.trans e6)⟩
        · refine s_asgP (P := fun v _ => v = lv) (ep_ev (ev_var (by rfl))) fun v H6 e6 ev => ?_
          subst ev
          refine gn ⟨⟨_, _, _, rfl, ?_⟩, eH3.trans ((e4.trans e5).trans e6)⟩
          rw [hstep]
          unfold leanStep
          rw [if_pos c]
          exact hlv.mono (e5.trans e6)
        · refine gn ⟨⟨_, _, _, rfl, ?_⟩, eH3.trans (e4.trans e5)⟩
          rw [hstep]
          unfold leanStep
          rw [if_neg (by rw [c]; decide)]
          exact hM.mono (e4.trans e5)
      · obtain ⟨⟨vM, x5, x6, rfl, hM⟩, eH3⟩ := h
        rw [List.length_map] at hM
        refine gn ⟨_, rfl, q _ H' ((e1.trans e3).trans eH3) ?_⟩
        have e9 : leanAt L W St B (L.links.map fun l : Lnk => l.nm).length = lean L W St B := by
          unfold leanAt lean
          rw [List.take_length]
        rw [← e9]
        exact hM
    · rw [hz] at q ⊢
      exact q
    · rw [hz] at q ⊢
      exact q
end
end EF
set_option maxHeartbeats 4000000
namespace EF
open PySem PySem.Spec PyProof.Rows L2 Evl
def oStrs : Option (List Str) → PyData
  | none => .none
  | some l => .list (l.map .str)
theorem gateAt_open {L : Ld} {W : Wea} {S B : Rws} {z : Str} (h : Open L W S B) (hz : z ∈ L.places) (o : Out) : gateAt L W S B z o = o := by
  unfold gateAt
  rw [badWind_none.mpr h.w, badRow_none.mpr h.s, badRow_none.mpr h.b, if_pos hz, if_pos h.g]
  rfl
theorem gateAt_split (L : Ld) (W : Wea) (S B : Rws) (z : Str) : (Open L W S B ∧ z ∈ L.places) ∨ (∃ y, ∀ o, gateAt L W S B z o = .unk y) ∨ ∀ o, gateAt L W S B z o = .wea := by
  cases h1 : badWind L.winds W with
  | some y => exact .inr (.inl ⟨y, fun o => by unfold gateAt; rw [h1]; rfl⟩)
  | none =>
    cases h2 : badRow L.places S with
    | some y => exact .inr (.inl ⟨y, fun o => by unfold gateAt; rw [h1, h2]; rfl⟩)
    | none =>
      cases h3 : badRow L.places B with
      | some y => exact .inr (.inl ⟨y, fun o => by unfold gateAt; rw [h1, h2, h3]; rfl⟩)
      | none =>
        by_cases hz : z ∈ L.places
        · by_cases c : weaGood W = true
          · exact .inl ⟨⟨badWind_none.mp h1, badRow_none.mp h2, badRow_none.mp h3, c⟩, hz⟩
          · exact .inr (.inr fun o => by unfold gateAt; rw [h1, h2, h3, if_pos hz, if_neg c]; rfl)
        · exact .inr (.inl ⟨z, fun o => by unfold gateAt; rw [h1, h2, h3, if_neg hz]; rfl⟩)
/-! ### dict(..) of a told list, at a place -/
theorem told_pairs {K : PySem.W.Frag} {H : Hp} : ∀ {l : List (Str × Option Int)} {xs : List V}, DtA H xs (l.map fun q => PyData.tuple [.str q.1, oiD q.2]) → ∃ ps : List Addr, xs = ps.map V.ref ∧ Paired (fun p (kv : Key × V) => SqT K H p [kV kv.1, kv.2]) ps (l.map fun q => ((Sum.inr q.1 : Key), oiV q.2))
  | [], xs, h => ⟨[], h.nil_inv, .nil⟩
  | q :: l, xs, h => by
    obtain ⟨v, r, rfl, h1, h2⟩ := h.cons_inv
    obtain ⟨a, x, y, rfl, hr, g1, g2⟩ := dt_tup2 h1
    have g1 := g1.str_eq
    have g2 := dt_oi g2
    subst g1 g2
    obtain ⟨ps, rfl, hp⟩ := told_pairs (K := K) h2
    exact ⟨a :: ps, rfl, .cons (.inl hr) hp⟩
theorem merge_val {f : Str → Option Int} {z : Str} : ∀ (l : List Str) (acc : List (Key × V)), valV (mergeK acc ((l.map fun p => (p, f p)).map fun q => ((Sum.inr q.1 : Key), oiV q.2))) (Sum.inr z) = if z ∈ l then some (oiV (f z)) else valV acc (Sum.inr z)
  | [], acc => by simp [mergeK]
  | p :: l, acc => by
    have e : mergeK acc (((p :: l).map fun p => (p, f p)).map fun q => ((Sum.inr q.1 : Key), oiV q.2)) = mergeK (putK acc (Sum.inr p) (oiV (f p))) ((l.map fun p => (p, f p)).map fun q => ((Sum.inr q.1 : Key), oiV q.2)) := rfl
    rw [e, merge_val l]
    by_cases c : z ∈ l
    · rw [if_pos c, if_pos (List.mem_cons_of_mem _ c)]
    · rw [if_neg c, valV_put]
      by_cases d : z = p
      · subst d
        rw [if_pos rfl, if_pos List.mem_cons_self]
      · have n : ¬ ((Sum.inr z : Key) = Sum.inr p) := fun q => d (Sum.inr.inj q)
        rw [if_neg n, if_neg (by simp [c, d])]
theorem ep_dictGet {K : PySem.W.Frag} {σ : L2.St} {H : Hp} {te tk : TE} {L : Ld} {f : Str → Option Int} {z : Str} (h : EvP te σ H (fun v H' => Dt H' v (toldD (toldOf L f)))) (hk : Ev tk σ H (.str z)) (hz : z ∈ L.places) :
    EvP (tDGet (tCB (fun xs H Q => ∃ (a : Addr) (ps : List Addr) (kvs : List (Key × V)), xs = [.ref a] ∧ SqL K H a (ps.map V.ref) ∧ Paired (fun p kv => SqT K H p [kV kv.1, kv.2]) ps kvs ∧ ∀ p, H p = none → Q (.ref p) (upd H p (.dK (mergeK [] kvs)))) (tCons te tNil)) tk) σ H (fun v _ => v = oiV (f z)) := fun H1 e Q q =>
  h H1 e _ fun v H2 e2 hv => by
    obtain ⟨a, xs, rfl, ha, hd⟩ := hv.lst_at
    obtain ⟨ps, rfl, hp⟩ := told_pairs (K := K) hd
    refine ⟨a, ps, _, rfl, SqL.of ha, hp, fun p np => ?_⟩
    have e3 := Ex.new (o := .dK (mergeK [] ((toldOf L f).map fun q => ((Sum.inr q.1 : Key), oiV q.2)))) np
    refine hk _ ((e.trans e2).trans e3) _ fun H4 e4 => ⟨p, oiV (f z), rfl, ?_, q _ H4 ((e2.trans e3).trans e4) rfl⟩
    have hg := DGet.k (k := Sum.inr z) (e4 _ _ (upd_same (H := H2) (a := p) (o := .dK (mergeK [] ((toldOf L f).map fun q => ((Sum.inr q.1 : Key), oiV q.2))))))
    have hv2 := merge_val (f := f) (z := z) L.places []
    rw [if_pos hz] at hv2
    unfold toldOf at hg
    rw [hv2] at hg
    exact hg
theorem ep_fast {K : PySem.W.Frag} {σ : L2.St} {H : Hp} {E : L2.St → XK} {ta : TA} {vw vs' vb : V} {L : Ld} {W : Wea} {S B : Rws} {sd : Bool} (h : EvAP ta σ H (fun vs H' => ∃ v, vs = [v, vw, vs', vb] ∧ LandV K H' v L)) (hk : LdOk L) (o : Open L W S B) {vl : V} {M : Ld} (a : Ask K H vl vw vs' vb M W S B) :
    EvP (tCallS (spO K (R_fast K sd)) E ta) σ H (fun v H' => Dt H' v (toldD (toldOf L (fire L W S B sd)))) :=
  ep_callS (R := R_fast K sd) h fun vs H1 e1 ⟨v, ev, hv⟩ => ⟨v, vw, vs', vb, L, W, S, B, ev, ⟨⟨hv, (a.mono e1).a.w, (a.mono e1).a.s, (a.mono e1).a.b, a.a.ok⟩, hk, a.s0, a.sl, a.bl⟩, (gate_open o _).symm⟩
theorem oiV_non (o : Option Int) : decide (oiV o = .non) = decide (o = none) := by
  cases o with
  | none => rfl
  | some i => simp [oiV]
section
variable {P : Program} {w : World} {K : PySem.W.Frag} {mg : Str → Option Value} {base : Heap}
def R_needed (K : PySem.W.Frag) : List V → Hp → Out → Prop := fun vs H o => ∃ vl vw vs' vb z L W St B, vs = [vl, vw, vs', vb, .str z] ∧ Ask K H vl vw vs' vb L W St B ∧ o = gateAt L W St B z (oD (oStrs (needed L W St B z)))
theorem sc_needed_links : FnScope ["land", "weather", "starts", "breaks", "place", "found", "name"] ["land", "weather", "starts", "breaks", "place"] (defScope s_needed_links) := ⟨rfl, rfl, rfl, by decide +kernel, rfl, by decide +kernel, by decide +kernel⟩
theorem ok_needed_links (S : Says K mg) (U : UnkOk P K (cUnk K)) (LP : PrOk K) : Fn P w K mg base 8 "needed_links" ["land", "weather", "starts", "breaks", "place"] (spO K (R_needed K)) := by
  have G_check_fire_at := ok_check_fire_at (P := P) (w := w) (base := base) S U
  have G_fastest := ok_fastest (P := P) (w := w) (base := base) S U
  have M_without_link := ok_without_link (P := P) (w := w) (base := base) S LP
  have PL := ok_link_names (P := P) (w := w) (base := base) S LP
  obtain ⟨fd, F⟩ := S.def_needed_links
  refine ⟨⟨_, fd, S.g_needed_links, F.kp, F.bindsN (fun _ _ _ _ _ _ us hl => match us, hl with | [_, _, _, _, _], _ => rfl), F.ok sc_needed_links (fun vs H Q E h => ?_) (fun cdv A outer s H vs Q E hr h => ?_)⟩⟩
  · obtain ⟨_, ⟨_, _, _, _, _, _, _, _, _, rfl, _⟩, _⟩ := h
    rfl
  · obtain ⟨o, ⟨vl, vw, vs', vb, pz, L, W, St, B, rfl, a, rfl⟩, q⟩ := h
    have hu := hu_of hr
    refine ⟨_, ((pss_cons (ps_expr (pe_fnS G_check_fire_at (hr.mono (by decide)) (takes_of rfl rfl rfl rfl) (pa_cons (pv 0) (pa_cons (pv 1) (pa_cons (pv 2) (pa_cons (pv 3) (pa_cons (pv 4) pa_nil)))))))
    (pss_cons (ps_if (pt_cmpR op_isN (pe_dget hu (pe_callTy (call_dictP rfl) (by rfl) S.f_dict (by decide +kernel) (pa_cons (pe_fnS G_fastest (hr.mono (by decide)) (takes_of rfl rfl rfl rfl) (pa_cons (pv 0) (pa_cons (pv 1) (pa_cons (pv 2) (pa_cons (pv 3) pa_nil))))) pa_nil)) (pv 4) (fun _ _ => rfl)) pe_non (nomark _)) (pss_one (ps_ret pe_non)) pss_nil)
    (pss_cons (ps_set (i := 5) sc_needed_links.nd rfl (by first | exact Or.inl rfl | exact Or.inr rfl) (pe_lst pa_nil))
    (pss_cons (ps_for (passes_of rfl) rfl (pi_tup (pe_prp PL (hr.mono (by decide)) (pv 0))) (pg_name (i := 6) sc_needed_links.nd rfl (by first | exact Or.inl rfl | exact Or.inr rfl))
      (pss_one (ps_if (pt_cmpR op_isN (pe_dget hu (pe_callTy (call_dictP rfl) (by rfl) S.f_dict (by decide +kernel) (pa_cons (pe_fnS G_fastest (hr.mono (by decide)) (takes_of rfl rfl rfl rfl) (pa_cons (pe_mt M_without_link (hr.mono (by decide)) (pv 0) (pa_cons (pv 6) pa_nil)) (pa_cons (pv 1) (pa_cons (pv 2) (pa_cons (pv 3) pa_nil))))) pa_nil)) (pv 4) (fun _ _ => rfl)) pe_non (nomark _)) (pss_one (ps_expr (pe_bm PySem.F.plainAttrs_list PySem.F.slot_list_append PySem.F.type_list_append mt_append (pv 5) (pa_cons (pv 6) pa_nil)))) pss_nil)))
    (pss_one (ps_ret (pv 5)))))))), ?_⟩
    refine r_seq (c_callS (R := R_check_fire_at K) (o := gateAt L W St B pz oNon) (ea_cons (ev_var (by rfl)) (ea_cons (ev_var (by rfl)) (ea_cons (ev_var (by rfl)) (ea_cons (ev_var (by rfl)) (ea_cons (ev_var (by rfl)) ea_nil))))) (fun H1 e1 => ⟨vl, vw, vs', vb, pz, L, W, St, B, rfl, a.a.mono e1, rfl⟩) ?_)
    rcases gateAt_split L W St B pz with ⟨ho, hpz⟩ | ⟨z, hz⟩ | hz
    · rw [gateAt_open ho hpz] at q ⊢
      intro _ H1 e1 _
      have g := a.good ho
      have hl60 := g.lk.l1
      have hL := a.a.l
      obtain ⟨la, dx, wa, vp, vk, vt, rfl, hla, hwi, hpp, hK, ht⟩ := hL.ex
      have a1 := a.mono e1
      refine gn (r_seq (r_if (c := decide (fire L W St B false pz = none)) (et_is (et_test (ev_op (x := oiV (fire L W St B false pz)) (EvP.ev (ep_dictGet (K := K) (L := L) (f := fire L W St B false) (ep_fast (L := L) ?_ g.lk ho a1) (ev_var (by rfl)) hpz)) ev_c rv_isN)) (oiV_non _)) (fun c H2 e2 => ?_) (fun c H2 e2 => ?_)))
      · exact fun H5 e5 Q5 q5 => (ea_cons (σ := _) (H := H1) (ev_var (by rfl)) (ea_cons (ev_var (by rfl)) (ea_cons (ev_var (by rfl)) (ea_cons (ev_var (by rfl)) ea_nil)))) H5 e5 _ fun H6 e6 => q5 [.ref la, vw, vs', vb] H6 e6 ⟨_, rfl, hL.mono ((e1.trans e5).trans e6)⟩
      · have hc := of_decide_eq_true c
        refine q _ H2 (e1.trans e2) ?_
        unfold needed
        rw [if_pos hc]
        exact .non
      · have hc := of_decide_eq_false c
        have e02 := e1.trans e2
        refine gn (q_asgL (el_lst ea_nil (by decide)) fun p H3 np e3 hp => ?_)
        have e03 := e02.trans e3
        have npH : H p = none := fresh_back e02 np
        refine r_seq (r_bind (ep_prp (R := R_link_names K) (ev_var (by rfl)) (e03 _ _ hla) fun H4 e4 => ⟨la, dx, _, vk, L.links, rfl, e4 _ _ (e03 _ _ hla), fl_links _ _ _ _, hK.mono (e03.trans e4), by omega, rfl⟩) fun nv H4 e4 hnv => ?_)
        obtain ⟨na, ns, rfl, hna, hnd⟩ := hnv.tup_at
        have hns := hnd.strs
        subst hns
        refine ⟨na, rfl, ⟨_, .inl hna⟩, for_tup (xs := (L.links.map fun l : Lnk => l.nm).map V.str) (fun i σ' H' => (∃ x6, σ' = [some (.ref la), some vw, some vs', some vb, some (.str pz), some (.ref p), x6]) ∧ Ex H H' ∧ Rd H' na (.tup ((L.links.map fun l : Lnk => l.nm).map V.str)) ∧ H' p = some (.lst ((((L.links.map fun l : Lnk => l.nm).take i).filter fun z => decide (fire (without L z) W St B false pz = none)).map V.str))) ⟨⟨_, rfl⟩, e03.trans e4, hna, e4 _ _ hp⟩ (fun i σ' H' _ h => .inl h.2.2.1) (fun i x σ' H' hx h => ?_) (fun σ' H' h => ?_)⟩
        · obtain ⟨⟨x6, rfl⟩, eH, hn, hpl⟩ := h
          obtain ⟨z, hz1, rfl⟩ : ∃ z, (L.links.map fun l : Lnk => l.nm)[i]? = some z ∧ V.str z = x := by
            rw [List.getElem?_map] at hx
            exact Option.map_eq_some_iff.mp hx
          obtain ⟨l, hl1, hl2⟩ : ∃ l ∈ L.links, l.nm = z := by
            have := List.mem_of_getElem? hz1
            obtain ⟨l, h1, h2⟩ := List.mem_map.mp this
            exact ⟨l, h1, h2⟩
          have htake : ((L.links.map fun l : Lnk => l.nm).take (i + 1)).filter (fun z => decide (fire (without L z) W St B false pz = none)) = ((L.links.map fun l : Lnk => l.nm).take i).filter (fun z => decide (fire (without L z) W St B false pz = none)) ++ (if decide (fire (without L z) W St B false pz = none) = true then [z] else []) := by
            rw [List.take_succ, hz1, List.filter_append]
            congr 1
            cases q : decide (fire (without L z) W St B false pz = none) <;> simp [q]
          have aH := a.mono eH
          have hlen : (((L.links.map fun l : Lnk => l.nm).take i).filter fun z => decide (fire (without L z) W St B false pz = none)).length ≤ L.links.length := by
            refine Nat.le_trans (List.length_filter_le _ _) (Nat.le_trans (List.length_take_le' _ _) ?_)
            rw [List.length_map]
            exact Nat.le_refl _
          refine r_if (c := decide (fire (without L z) W St B false pz = none)) (et_is (et_test (ev_op (x := oiV (fire (without L z) W St B false pz)) (EvP.ev (ep_dictGet (K := K) (L := without L z) (f := fire (without L z) W St B false) (ep_fast (L := without L z) ?_ (g.lk.without z) ⟨ho.w, ho.s, ho.b, ho.g⟩ aH) (ev_var (by rfl)) hpz)) ev_c rv_isN)) (oiV_non _)) (fun c H5 e5 => ?_) (fun c H5 e5 => ?_)
          · exact fun H4 e4 Q4 q4 => eap_p (P := fun v H' => LandV K H' v (without L z)) (ep_mt (R := R_without_link K) (ev_var (by rfl)) (eH _ _ hla) (by rw [flds_eq]; rfl) (ea_cons (ev_var (by rfl)) ea_nil) fun H5 e5 => ⟨_, L, z, rfl, hL.mono (eH.trans e5), g.lk, ⟨l, hl1, hl2⟩, rfl⟩) (eap_v (v := vw) (ev_var (by rfl)) (eap_v (v := vs') (ev_var (by rfl)) (eap_v (v := vb) (ev_var (by rfl)) eap_nil))) (fun v H1 H2 e h => h.mono e) H4 e4 _ fun vs H5 e5 ⟨v, r, ev, hv, r1, er1, r2, er2, r3, er3, er4⟩ => q4 vs H5 e5 ⟨v, by rw [ev, er1, er2, er3, er4], hv⟩
          · refine s_appendP (P := fun v _ => v = .str z) (ev_var (by rfl)) (e5 _ _ hpl) (by rw [List.length_map]; omega) (ep_ev (ev_var (by rfl))) fun v H6 e6 ev => ?_
            subst ev
            have e56 := e5.trans e6
            refine ⟨⟨_, rfl⟩, Ex.mut (eH.trans e56) npH, rd_upd (by rw [e56 _ _ hpl]; trivial) (ex_rd e56 hn), ?_⟩
            rw [upd_same, htake, if_pos c, List.map_append]
            rfl
          · refine gn ⟨⟨_, rfl⟩, eH.trans e5, ex_rd e5 hn, ?_⟩
            rw [htake, if_neg (by rw [c]; decide), List.append_nil]
            exact e5 _ _ hpl
        · obtain ⟨⟨x6, rfl⟩, eH, hn, hpl⟩ := h
          rw [List.length_map, List.take_length] at hpl
          refine gn ⟨_, rfl, q _ H' eH ?_⟩
          unfold needed
          rw [if_neg hc]
          exact .lst hpl (DtA.of_strs _)
    · rw [hz] at q ⊢
      exact q
    · rw [hz] at q ⊢
      exact q
end
end EF
set_option maxHeartbeats 4000000
namespace EF
open PySem PySem.Spec PyProof.Rows L2 Evl
/-! ### arithmetic, evaluated -/
section
variable {K : PySem.W.Frag} {σ : L2.St} {H : Hp} {ta tb te : TE} {i j : Int}
theorem ev_add (ha : Ev ta σ H (.int i)) (hb : Ev tb σ H (.int j)) : Ev (tOp (rI0 fun i j => .int (i + j)) ta tb) σ H (.int (i + j)) := ev_op ha hb rv_I0
theorem ev_sub (ha : Ev ta σ H (.int i)) (hb : Ev tb σ H (.int j)) : Ev (tOp (rI0 fun i j => .int (i - j)) ta tb) σ H (.int (i - j)) := ev_op ha hb rv_I0
theorem ev_mod (ha : Ev ta σ H (.int i)) (hb : Ev tb σ H (.int j)) (h : 0 < j) : Ev (tOp (rI (fun _ j => 0 < j) fun i j => .int (i % j)) ta tb) σ H (.int (i % j)) := ev_op ha hb (rv_I (C := fun _ j => 0 < j) h)
theorem ev_div (ha : Ev ta σ H (.int i)) (hb : Ev tb σ H (.int j)) (h : 0 < j ∧ j < 1073741824) : Ev (tOp (rI CDiv fun i j => .int (i / j)) ta tb) σ H (.int (i / j)) := ev_op ha hb (rv_I (C := CDiv) h)
theorem ev_mul (ha : Ev ta σ H (.int i)) (hb : Ev tb σ H (.int j)) (h : CMul i j) : Ev (tOp (rI CMul fun i j => .int (i * j)) ta tb) σ H (.int (i * j)) := ev_op ha hb (rv_I (C := CMul) h)
theorem cmul_r {i j : Int} (h : -(2 ^ 64) < j ∧ j < 2 ^ 64) : CMul i j := .inr h
theorem cmul_l {i j : Int} (h : -(2 ^ 64) < i ∧ i < 2 ^ 64) : CMul i j := .inl h
theorem ev_int (h : Ev te σ H (.int i)) : Ev (tCB (fun xs H Q => (∃ i, xs = [.int i] ∧ Q (.int i) H) ∨ ∃ k, xs = [.bl k] ∧ Q (.int (if k then 1 else 0)) H) (tCons te tNil)) σ H (.int i) := fun H1 e Q q => h H1 e _ fun H2 e2 => .inl ⟨i, rfl, q H2 e2⟩
theorem ev_abs (h : Ev te σ H (.int i)) : Ev (tCB (fun xs H Q => ∃ i, xs = [.int i] ∧ Q (.int (if i < 0 then -i else i)) H) (tCons te tNil)) σ H (.int (if i < 0 then -i else i)) := fun H1 e Q q => h H1 e _ fun H2 e2 => ⟨i, rfl, q H2 e2⟩
theorem ev_lt (ha : Ev ta σ H (.int i)) (hb : Ev tb σ H (.int j)) : Ev (tOp (rI0 fun i j => .bl (decide (i < j))) ta tb) σ H (.bl (decide (i < j))) := ev_op ha hb rv_I0
theorem ev_le (ha : Ev ta σ H (.int i)) (hb : Ev tb σ H (.int j)) : Ev (tOp (rI0 fun i j => .bl (decide (i ≤ j))) ta tb) σ H (.bl (decide (i ≤ j))) := ev_op ha hb rv_I0
theorem ev_gt (ha : Ev ta σ H (.int i)) (hb : Ev tb σ H (.int j)) : Ev (tOp (rI0 fun i j => .bl (decide (j < i))) ta tb) σ H (.bl (decide (j < i))) := ev_op ha hb rv_I0
theorem ev_ge (ha : Ev ta σ H (.int i)) (hb : Ev tb σ H (.int j)) : Ev (tOp (rI0 fun i j => .bl (decide (j ≤ i))) ta tb) σ H (.bl (decide (j ≤ i))) := ev_op ha hb rv_I0
theorem ev_pow (ha : Ev ta σ H (.int i)) (hb : Ev tb σ H (.int j)) (h : CPow i j) : Ev (tOp (rI CPow fun i j => .int (i ^ j.toNat)) ta tb) σ H (.int (i ^ j.toNat)) := ev_op ha hb (rv_I (C := CPow) h)
theorem ev_eqI (ha : Ev ta σ H (.int i)) (hb : Ev tb σ H (.int j)) : Ev (tOp rEq ta tb) σ H (.bl (decide (i = j))) := by
  have := ev_op ha hb (rv_eq (H := H) (x := .int i) (y := .int j) rfl)
  rwa [show decide (V.int i = V.int j) = decide (i = j) by by_cases e : i = j <;> simp [e]] at this
end
/-- numbers of the law: less than 1009 -/
def Sm (ns : List Int) : Prop := ∀ n ∈ ns, 0 ≤ n ∧ n < 1009
def NewSm (m : Nat) (H : Hp) : Post := fun v H' => ∃ p ns, v = .ref p ∧ H p = none ∧ H' p = some (.lst (ns.map V.int)) ∧ ns.length = m ∧ Sm ns
theorem Sm.snoc {ns : List Int} {n : Int} (h : Sm ns) (hn : 0 ≤ n ∧ n < 1009) : Sm (ns ++ [n]) := fun x hx => by
  rcases List.mem_append.mp hx with q | q
  · exact h x q
  · rw [List.mem_singleton.mp q]; exact hn
theorem mod1009 (i : Int) : 0 ≤ i % 1009 ∧ i % 1009 < 1009 := ⟨Int.emod_nonneg _ (by decide), Int.emod_lt_of_pos _ (by decide)⟩
section
variable {P : Program} {w : World} {K : PySem.W.Frag} {mg : Str → Option Value} {base : Heap}
def R_law_row : List V → Hp → Post → Prop := fun vs H Po => ∃ c m : Int, vs = [.int c, .int m] ∧ 0 ≤ m ∧ m ≤ 1000 ∧ Po = NewSm m.toNat H
theorem sc_law_row : FnScope ["_law_cell", "_law_many", "_law_row_here", "_law_rest", "_law_mixed", "_law_k"] ["_law_cell", "_law_many"] (defScope s_law_row) := ⟨rfl, rfl, rfl, by decide +kernel, rfl, by decide +kernel, by decide +kernel⟩
theorem ok_law_row (S : Says K mg) : Fn P w K mg base 1 "_law_row" ["_law_cell", "_law_many"] (spR R_law_row) := by
  obtain ⟨fd, F⟩ := S.def_law_row
  refine ⟨⟨_, fd, S.g_law_row, F.kp, F.bindsN (fun _ _ _ _ _ _ us hl => match us, hl with | [_, _], _ => rfl), F.ok sc_law_row (fun vs H Q E h => ?_) (fun cdv A outer s H vs Q E hr h => ?_)⟩⟩
  · obtain ⟨_, ⟨_, _, rfl, _⟩, _⟩ := h
    rfl
  · obtain ⟨_, ⟨c, m, rfl, hm0, hm1, rfl⟩, q⟩ := h
    refine ⟨_, PSs.nox ((pss_cons (ps_set (i := 2) sc_law_row.nd rfl (by first | exact Or.inl rfl | exact Or.inr rfl) (pe_lst pa_nil))
    (pss_cons (ps_set (i := 3) sc_law_row.nd rfl (by first | exact Or.inl rfl | exact Or.inr rfl) (pe_callB call_abs (by rfl) S.f_abs (by decide +kernel) (pa_cons (pv 0) pa_nil)))
    (pss_cons (ps_set (i := 4) sc_law_row.nd rfl (by first | exact Or.inl rfl | exact Or.inr rfl) (pe_op op_mod (pe_callTy call_int1 (by rfl) S.f_int (by decide +kernel) (pa_cons (pe_op op_add (pe_op op_mul (pv 3) pe_int) pe_int) pa_nil)) pe_int))
    (pss_cons (ps_for PassesOwn.never rfl (pi_range1 rfl S.f_range (pa_cons (pv 1) pa_nil)) (pg_name (i := 5) sc_law_row.nd rfl (by first | exact Or.inl rfl | exact Or.inr rfl))
      (pss_cons (ps_set (i := 4) sc_law_row.nd rfl (by first | exact Or.inl rfl | exact Or.inr rfl) (pe_op op_mod (pe_callTy call_int1 (by rfl) S.f_int (by decide +kernel) (pa_cons (pe_op op_add (pe_op op_mul (pv 4) pe_int) (pe_op op_mul pe_int (pe_op op_add (pv 5) pe_int))) pa_nil)) pe_int))
    (pss_one (ps_if (pt_cmpR op_ge (pe_callB call_abs (by rfl) S.f_abs (by decide +kernel) (pa_cons (pv 0) pa_nil)) (pe_op op_pow pe_int pe_int) (nomark _)) (pss_cons (ps_expr (pe_bm PySem.F.plainAttrs_list PySem.F.slot_list_append PySem.F.type_list_append mt_append (pv 2) (pa_cons (pe_op op_mod (pe_callTy call_int1 (by rfl) S.f_int (by decide +kernel) (pa_cons (pv 3) pa_nil)) pe_int) pa_nil)))
    (pss_one (ps_set (i := 3) sc_law_row.nd rfl (by first | exact Or.inl rfl | exact Or.inr rfl) (pe_op op_fdiv (pv 3) pe_int)))) (pss_one (ps_expr (pe_bm PySem.F.plainAttrs_list PySem.F.slot_list_append PySem.F.type_list_append mt_append (pv 2) (pa_cons (pe_op op_mod (pe_callTy call_int1 (by rfl) S.f_int (by decide +kernel) (pa_cons (pe_op op_fdiv (pv 4) pe_int) pa_nil)) pe_int) pa_nil))))))))
    (pss_one (ps_ret (pv 2)))))))), ?_⟩
    refine q_asgL (el_lst ea_nil (by decide)) fun p H1 np e1 hp => ?_
    refine q_asgP (ep_ev (ev_abs (ev_var (by rfl)))) fun v H2 e2 ev => ?_
    subst ev
    refine q_asgP (ep_ev (ev_mod (ev_int (ev_add (ev_mul (ev_var (by rfl)) ev_c (cmul_r (by decide))) ev_c)) ev_c (by decide))) fun v H3 e3 ev => ?_
    subst ev
    refine q_forR1 (ea_cons (ev_var (by rfl)) ea_nil) ⟨hm0, by omega⟩ (fun i σ' H' => (∃ r mx x5, σ' = [some (.int c), some (.int m), some (.ref p), some (.int r), some (.int mx), x5]) ∧ Ex H H' ∧ ∃ ns, H' p = some (.lst (ns.map V.int)) ∧ ns.length = i ∧ Sm ns) (fun H4 e4 => ⟨⟨_, _, _, rfl⟩, e1.trans (e2.trans (e3.trans e4)), [], e4 _ _ (e3 _ _ (e2 _ _ hp)), rfl, fun n hn => by cases hn⟩) (fun i σ' H' hi h => ?_) (fun σ' H' h => ?_)
    · obtain ⟨⟨r, mx, x5, rfl⟩, eH, ns, hns, hl, hsm⟩ := h
      refine q_asgP (ep_ev (ev_mod (ev_int (ev_add (ev_mul (ev_var (by rfl)) ev_c (cmul_r (by decide))) (ev_mul ev_c (ev_add (ev_var (by rfl)) ev_c) (cmul_l (by decide))))) ev_c (by decide))) fun v H4 e4 ev => ?_
      subst ev
      refine r_if (et_test (ev_ge (ev_abs (ev_var (by rfl))) (ev_pow ev_c ev_c ⟨by decide, by decide, by decide⟩))) (fun _ H5 e5 => ?_) (fun _ H5 e5 => ?_)
      · refine r_seq (s_appendP (P := fun v _ => v = .int (r % 1009)) (ev_var (by rfl)) (e5 _ _ (e4 _ _ hns)) (by rw [List.length_map]; omega) (ep_ev (ev_mod (ev_int (ev_var (by rfl))) ev_c (by decide))) fun v H6 e6 ev => ?_)
        subst ev
        refine gn (s_asgP (ep_ev (ev_div (ev_var (by rfl)) ev_c (by decide))) fun v H7 e7 ev => ?_)
        subst ev
        refine gn ⟨⟨_, _, _, rfl⟩, (Ex.mut (eH.trans (e4.trans (e5.trans e6))) np).trans e7, ns ++ [r % 1009], ?_, by simp [hl], hsm.snoc (mod1009 _)⟩
        rw [e7 _ _ upd_same]
        simp
      · refine s_appendP (ev_var (by rfl)) (e5 _ _ (e4 _ _ hns)) (by rw [List.length_map]; omega) (ep_ev (ev_mod (ev_int (ev_div (ev_var (by rfl)) ev_c (by decide))) ev_c (by decide))) fun v H6 e6 ev => ?_
        subst ev
        refine gn ⟨⟨_, _, _, rfl⟩, Ex.mut (eH.trans (e4.trans (e5.trans e6))) np, ns ++ [(mx * 16807 + 271 * ((i : Int) + 3)) % 2147483629 / 7 % 1009], ?_, by simp [hl], hsm.snoc (mod1009 _)⟩
        rw [upd_same, List.map_append]
        rfl
    · obtain ⟨⟨r, mx, x5, rfl⟩, eH, ns, hns, hl, hsm⟩ := h
      exact ⟨_, rfl, q _ H' eH ⟨p, ns, rfl, np, hns, hl, hsm⟩⟩
def R_law_numbers (K : PySem.W.Frag) : List V → Hp → Post → Prop := fun vs H Po => ∃ a ns, vs = [.ref a, .int 170] ∧ SqL K H a ((ns : List Int).map V.int) ∧ ns.length ≤ 63 ∧ Po = NewSm 170 H
theorem sc_law_numbers : FnScope ["_law_script", "_law_many", "_law_cells", "_law_each", "_law_numbers_here", "_law_cell", "_law_number"] ["_law_script", "_law_many"] (defScope s_law_numbers) := ⟨rfl, rfl, rfl, by decide +kernel, rfl, by decide +kernel, by decide +kernel⟩
theorem ok_law_numbers (S : Says K mg) : Fn P w K mg base 2 "_law_numbers" ["_law_script", "_law_many"] (spR (R_law_numbers K)) := by
  have G_law_row := ok_law_row (P := P) (w := w) (base := base) S
  obtain ⟨fd, F⟩ := S.def_law_numbers
  refine ⟨⟨_, fd, S.g_law_numbers, F.kp, F.bindsN (fun _ _ _ _ _ _ us hl => match us, hl with | [_, _], _ => rfl), F.ok sc_law_numbers (fun vs H Q E h => ?_) (fun cdv A outer s H vs Q E hr h => ?_)⟩⟩
  · obtain ⟨_, ⟨_, _, rfl, _⟩, _⟩ := h
    rfl
  · obtain ⟨_, ⟨a, ns, rfl, ha, hl63, rfl⟩, q⟩ := h
    refine ⟨_, PSs.nox ((pss_cons (ps_set (i := 2) sc_law_numbers.nd rfl (by first | exact Or.inl rfl | exact Or.inr rfl) (pe_slice sl_list (pv 0) po_none (po_some pe_int)))
    (pss_cons (ps_set (i := 3) sc_law_numbers.nd rfl (by first | exact Or.inl rfl | exact Or.inr rfl) (pe_op op_add pe_int (pe_op op_fdiv (pv 1) (pe_callB (call_max2 rfl) (by rfl) S.f_max (by decide +kernel) (pa_cons pe_int (pa_cons (pe_callB call_len_seq (by rfl) S.f_len PySem.boot_len (pa_cons (pv 2) pa_nil)) pa_nil))))))
    (pss_cons (ps_set (i := 4) sc_law_numbers.nd rfl (by first | exact Or.inl rfl | exact Or.inr rfl) (pe_lst pa_nil))
    (pss_cons (ps_for PassesOwn.never rfl (pi_list (pv 2)) (pg_name (i := 5) sc_law_numbers.nd rfl (by first | exact Or.inl rfl | exact Or.inr rfl))
      (pss_one (ps_for PassesOwn.never rfl (pi_list (pe_fn G_law_row (hr.mono (by decide)) (pa_cons (pv 5) (pa_cons (pv 3) pa_nil)))) (pg_name (i := 6) sc_law_numbers.nd rfl (by first | exact Or.inl rfl | exact Or.inr rfl))
      (pss_one (ps_expr (pe_bm PySem.F.plainAttrs_list PySem.F.slot_list_append PySem.F.type_list_append mt_append (pv 4) (pa_cons (pv 6) pa_nil)))))))
    (pss_cons (ps_while PassesOwn.never (pt_cmpR op_lt (pe_callB call_len_seq (by rfl) S.f_len PySem.boot_len (pa_cons (pv 4) pa_nil)) (pv 1) (nomark _))
      (pss_one (ps_expr (pe_bm PySem.F.plainAttrs_list PySem.F.slot_list_append PySem.F.type_list_append mt_append (pv 4) (pa_cons pe_int pa_nil)))))
    (pss_one (ps_ret (pe_slice sl_list (pv 4) po_none (po_some (pv 1))))))))))), ?_⟩
    refine q_asgL (el_sl (K := K) (ev_var (by rfl)) eo_none (eo_some ev_c) ha) fun c H1 nc e1 hc => ?_
    have hcut : cutV (ns.map V.int) none (some 63) = (ns.take 63).map V.int := by rw [show (63 : Int) = ((63 : Nat) : Int) from rfl, cutTo, List.map_take]
    rw [hcut] at hc
    obtain ⟨cs, hcs, hcl⟩ : ∃ cs, ns.take 63 = cs ∧ cs.length ≤ 63 := ⟨_, rfl, by rw [List.length_take]; omega⟩
    rw [hcs] at hc
    obtain ⟨d, hd⟩ : ∃ d : Int, d = (if ((cs.map V.int).length : Int) > 1 then ((cs.map V.int).length : Int) else 1) := ⟨_, rfl⟩
    have hlm : (cs.map V.int).length = cs.length := List.length_map ..
    have hd1 : 1 ≤ d ∧ d < 1000 := by rw [hd, hlm]; split <;> omega
    have hdv : 0 ≤ 170 / d ∧ 170 / d ≤ 170 := ⟨Int.ediv_nonneg (by omega) (by omega), Int.ediv_le_self _ (by omega)⟩
    obtain ⟨each, heach⟩ : ∃ each : Int, 1 + 170 / d = each := ⟨_, rfl⟩
    refine q_asgP (P := fun v _ => v = .int each) ?_ fun v H2 e2 ev => ?_
    · have h2 : Ev (tCB (fun xs H Q => ∃ i j, xs = [V.int i, V.int j] ∧ Q (.int (if j > i then j else i)) H) (tCons (tC (.int 1)) (tCons (tCB (rLenS K) (tCons (tVar 2) tNil)) tNil))) [some (.ref a), some (.int 170), some (.ref c), none, none, none, none] H1 (.int d) := by
        rw [hd]
        exact ev_cb (ea_cons ev_c (ea_cons (ev_len (ev_var (by rfl)) (SqL.of hc)) ea_nil)) fun H3 e3 Q3 q3 => ⟨1, _, rfl, q3 H3 (Ex.refl _)⟩
      have h1 := ev_add (i := 1) (j := 170 / d) ev_c (ev_div (ev_var (i := 1) (σ := [some (.ref a), some (.int 170), some (.ref c), none, none, none, none]) (H := H1) (by rfl)) h2 ⟨by omega, by omega⟩)
      rw [heach] at h1
      exact ep_ev h1
    subst ev
    refine q_asgL (el_lst ea_nil (by decide)) fun p H3 np e3 hp => ?_
    have hce3 := e3 _ _ (e2 _ _ hc)
    have hpc : c ≠ p := ne_of_none (e2 _ _ hc) np
    have e03 := e1.trans (e2.trans e3)
    have npH : H p = none := fresh_back (e1.trans e2) np
    refine r_seq (s_forL (ev_var (by rfl)) (SqL.of hce3) (fun i σ' H' => (∃ x5 x6, σ' = [some (.ref a), some (.int 170), some (.ref c), some (.int each), some (.ref p), x5, x6]) ∧ Ex H H' ∧ H' c = some (.lst (cs.map V.int)) ∧ ∃ acc, H' p = some (.lst (acc.map V.int)) ∧ acc.length = i * each.toNat ∧ Sm acc) (fun H4 e4 => ⟨⟨_, _, rfl⟩, e03.trans e4, e4 _ _ hce3, [], e4 _ _ hp, by simp, fun n hn => by cases hn⟩) (fun i σ' H' _ h => SqL.of h.2.2.1) (fun i x σ' H' hx h => ?_) (fun σ' H' h => ?_))
    · obtain ⟨⟨x5, x6, rfl⟩, eH, hcH, acc, hacc, hal, hsm⟩ := h
      obtain ⟨n, hn1, rfl⟩ : ∃ n, cs[i]? = some n ∧ V.int n = x := by
        rw [List.getElem?_map] at hx
        exact Option.map_eq_some_iff.mp hx
      have hi : i < cs.length := (List.getElem?_eq_some_iff.mp hn1).1
      refine r_bind (ep_callF (NewSm each.toNat) (P := NewSm each.toNat H') (ea_cons (ev_var (by rfl)) (ea_cons (ev_var (by rfl)) ea_nil)) (fun H5 e5 => ⟨n, each, rfl, by omega, by omega, rfl⟩) fun H5 e5 v H6 e6 ⟨r, rs, ev, nr, hr2, hrl, hrs⟩ => ⟨r, rs, ev, fresh_back e5 nr, hr2, hrl, hrs⟩) fun v H5 e5 ⟨r, rs, ev, nr, hrr, hrl, hrs⟩ => ?_
      subst ev
      have hrp : p ≠ r := ne_of_none hacc nr
      have hrc : c ≠ r := ne_of_none hcH nr
      refine ⟨r, rfl, ⟨_, SqL.of hrr⟩, for_list (xs := rs.map V.int) (fun j σ' H' => (∃ x6, σ' = [some (.ref a), some (.int 170), some (.ref c), some (.int each), some (.ref p), some (.int n), x6]) ∧ Ex H H' ∧ H' c = some (.lst (cs.map V.int)) ∧ H' r = some (.lst (rs.map V.int)) ∧ ∃ acc, H' p = some (.lst (acc.map V.int)) ∧ acc.length = i * each.toNat + j ∧ Sm acc) ⟨⟨_, rfl⟩, eH.trans e5, e5 _ _ hcH, hrr, acc, e5 _ _ hacc, by simpa using hal, hsm⟩ (fun j σ' H' _ h => SqL.of h.2.2.2.1) (fun j x σ' H' hx h => ?_) (fun σ' H' h => ?_)⟩
      · obtain ⟨⟨x6, rfl⟩, eH', hcH', hrH', acc', hacc', hal', hsm'⟩ := h
        obtain ⟨m, hm1, rfl⟩ : ∃ m, rs[j]? = some m ∧ V.int m = x := by
          rw [List.getElem?_map] at hx
          exact Option.map_eq_some_iff.mp hx
        have hj : j < rs.length := (List.getElem?_eq_some_iff.mp hm1).1
        have hbig : i * each.toNat + j < 100000 := by
          have h1 : i * each.toNat ≤ 63 * 171 := Nat.mul_le_mul (by omega) (by omega)
          omega
        refine s_appendP (P := fun v _ => v = .int m) (ev_var (by rfl)) hacc' (by rw [List.length_map]; omega) (ep_ev (ev_var (by rfl))) fun v H6 e6 ev => ?_
        subst ev
        refine ⟨⟨_, rfl⟩, Ex.mut (eH'.trans e6) npH, by rw [upd_ne hpc]; exact e6 _ _ hcH', by rw [upd_ne (Ne.symm hrp)]; exact e6 _ _ hrH', acc' ++ [m], ?_, by simp; omega, hsm'.snoc (hrs m (List.mem_of_getElem? hm1))⟩
        rw [upd_same, List.map_append]
        rfl
      · obtain ⟨⟨x6, rfl⟩, eH', hcH', hrH', acc', hacc', hal', hsm'⟩ := h
        rw [List.length_map, hrl] at hal'
        refine gn ⟨⟨_, _, rfl⟩, eH', hcH', acc', hacc', ?_, hsm'⟩
        rw [hal', Nat.add_mul, Nat.one_mul]
    · obtain ⟨⟨x5, x6, rfl⟩, eH, hcH, acc, hacc, hal, hsm⟩ := h
      have hbig : acc.length < 50000 := by
        rw [hal, List.length_map]
        have h1 : cs.length * each.toNat ≤ 63 * 171 := Nat.mul_le_mul hcl (by omega)
        omega
      refine gn (r_seq (s_while (fun m σ' H' => (∃ x5 x6, σ' = [some (.ref a), some (.int 170), some (.ref c), some (.int each), some (.ref p), x5, x6]) ∧ Ex H H' ∧ ∃ acc, H' p = some (.lst (acc.map V.int)) ∧ acc.length < 51000 ∧ Sm acc ∧ m = 170 - acc.length) (170 - acc.length) ⟨⟨_, _, rfl⟩, eH, acc, hacc, by omega, hsm, rfl⟩ ?_))
      rintro m σ' H' ⟨⟨x5, x6, rfl⟩, eH', acc', hacc', hb', hsm', rfl⟩
      refine ⟨decide ((acc'.length : Int) < 170), ?_, fun c1 H6 e6 => ?_, fun c1 H6 e6 => ?_⟩
      · have := et_test (ev_lt (ev_len (K := K) (σ := [some (.ref a), some (.int 170), some (.ref c), some (.int each), some (.ref p), x5, x6]) (ev_var (i := 4) (by rfl)) (SqL.of hacc')) (ev_var (i := 1) (by rfl)))
        rwa [List.length_map] at this
      · have hc1 := of_decide_eq_true c1
        refine ⟨_, fun σ2 H2 h => h, s_appendP (P := fun v _ => v = .int 0) (ev_var (by rfl)) (e6 _ _ hacc') (by rw [List.length_map]; omega) (ep_ev ev_c) fun v H7 e7 ev => ?_⟩
        subst ev
        refine gn ⟨170 - (acc' ++ [0]).length, by simp; omega, ⟨_, _, rfl⟩, Ex.mut (eH'.trans (e6.trans e7)) npH, acc' ++ [0], ?_, by simp; omega, hsm'.snoc (by decide), rfl⟩
        rw [upd_same, List.map_append]
        rfl
      · have hc1 := of_decide_eq_false c1
        refine gn (s_retP (ep_evL (el_sl (K := K) (hi := some 170) (ev_var (by rfl)) eo_none (eo_some (ev_var (by rfl))) (SqL.of (e6 _ _ hacc')))) fun v H7 e7 ⟨r, ev, nr, hrr⟩ => q v H7 ((eH'.trans e6).trans e7) ⟨r, acc'.take 170, ev, fresh_back (eH'.trans e6) nr, ?_, ?_, fun n hn => hsm' n (List.mem_of_mem_take hn)⟩)
        · rw [hrr, show (170 : Int) = ((170 : Nat) : Int) from rfl, cutTo, List.map_take]
        · rw [List.length_take]
          omega
end
end EF
set_option maxHeartbeats 4000000
namespace EF
open PySem PySem.Spec PyProof.Rows L2 Evl
/-! ### the law's names -/
def AL : List Nat := ("abcdefghijklmnopqrstuvwxyz0123456789" : Str).cps.toList
theorem AL_len : AL.length = 36 := by decide +kernel
theorem AL_nd : AL.Nodup := by decide +kernel
theorem AL_dig : ∀ c ∈ AL.take 26, c ∉ ("0123456789" : Str).cps.toList := by decide +kernel
def ltr (i : Int) : Nat := AL.getD i.toNat 0
theorem at_AL {i : Int} (h0 : 0 ≤ i) (h1 : i < 36) : atI AL i = some (ltr i) ∧ ltr i ∈ AL ∧ AL[i.toNat]? = some (ltr i) := by
  obtain ⟨j, rfl⟩ : ∃ j : Nat, i = (j : Int) := ⟨i.toNat, by omega⟩
  have hj : j < AL.length := by rw [AL_len]; omega
  have e : AL[j]? = some (ltr (j : Int)) := by
    unfold ltr
    rw [Int.toNat_natCast, List.getD_eq_getElem?_getD, List.getElem?_eq_getElem hj]
    rfl
  exact ⟨atI_nat e, List.mem_of_getElem? e, by rw [Int.toNat_natCast]; exact e⟩
theorem ltr_inj {i j : Int} (h0 : 0 ≤ i) (h1 : i < 36) (k0 : 0 ≤ j) (k1 : j < 36) (h : ltr i = ltr j) : i = j := by
  obtain ⟨_, _, e1⟩ := at_AL h0 h1
  obtain ⟨_, _, e2⟩ := at_AL k0 k1
  by_cases c : i.toNat = j.toNat
  · omega
  · exfalso
    obtain ⟨b1, c1⟩ := List.getElem?_eq_some_iff.mp e1
    obtain ⟨b2, c2⟩ := List.getElem?_eq_some_iff.mp e2
    rcases Nat.lt_or_gt_of_ne c with q | q
    · exact List.pairwise_iff_getElem.mp AL_nd _ _ b1 b2 q (by rw [c1, c2, h])
    · exact List.pairwise_iff_getElem.mp AL_nd _ _ b2 b1 q (by rw [c1, c2, h])
theorem ltr_dig {i : Int} (h0 : 0 ≤ i) (h1 : i < 26) : ltr i ∉ ("0123456789" : Str).cps.toList := by
  obtain ⟨_, _, e1⟩ := at_AL h0 (by omega)
  refine AL_dig _ ?_
  have : (AL.take 26)[i.toNat]? = some (ltr i) := by
    rw [List.getElem?_take, if_pos (by omega)]
    exact e1
  exact List.mem_of_getElem? this
theorem join_ones (cs : List Nat) : (Txt.join "" (cs.map fun c => (⟨#[c]⟩ : Str))).cps.toList = cs := by
  show (Builtin.Str.glued "" (cs.map fun c => (⟨#[c]⟩ : Str))).cps.toList = cs
  rw [StrLaws.glued_eq_join]
  induction cs with
  | nil => rfl
  | cons c cs ih =>
    cases cs with
    | nil => rfl
    | cons d cs =>
      have e : Str.join "" (((c :: d :: cs) : List Nat).map fun c => (⟨#[c]⟩ : Str)) = (⟨#[c]⟩ : Str) ++ "" ++ Str.join "" ((d :: cs).map fun c => (⟨#[c]⟩ : Str)) := rfl
      rw [e]
      show ((#[c] ++ ("" : Str).cps) ++ (Str.join "" ((d :: cs).map fun c => (⟨#[c]⟩ : Str))).cps).toList = _
      rw [Array.toList_append, ih]
      rfl
/-- a name of the law: a letter, signs, a sign, signs -/
def mkName (c1 : Nat) (a : Str) (c2 : Nat) (b : Str) : Str := ((⟨#[c1]⟩ ++ a) ++ ⟨#[c2]⟩) ++ b
theorem mkName_list (c1 : Nat) (a : Str) (c2 : Nat) (b : Str) : (mkName c1 a c2 b).cps.toList = c1 :: (a.cps.toList ++ c2 :: b.cps.toList) := by
  show (((#[c1] ++ a.cps) ++ #[c2]) ++ b.cps).toList = _
  simp
theorem mkName_len (c1 : Nat) (a : Str) (c2 : Nat) (b : Str) : (mkName c1 a c2 b).length = a.length + b.length + 2 := by
  show (mkName c1 a c2 b).cps.size = _
  rw [← Array.length_toList, mkName_list]
  simp only [List.length_cons, List.length_append, Array.length_toList]
  show a.cps.size + (b.cps.size + 1) + 1 = a.cps.size + b.cps.size + 2
  omega
theorem mkName_ok {c1 c2 : Nat} {a b : Str} (h1 : c1 ∈ AL) (hd : c1 ∉ ("0123456789" : Str).cps.toList) (h2 : c2 ∈ AL) (ha : ∀ c ∈ a.cps.toList, c ∈ AL) (hb : ∀ c ∈ b.cps.toList, c ∈ AL) (hl : a.length + b.length ≤ 10) : nameOk (mkName c1 a c2 b) = true := by
  have hlen : (mkName c1 a c2 b).length = a.length + b.length + 2 := by
    show (mkName c1 a c2 b).cps.size = _
    rw [← Array.length_toList, mkName_list]
    simp only [List.length_cons, List.length_append, Array.length_toList]
    show a.cps.size + (b.cps.size + 1) + 1 = a.cps.size + b.cps.size + 2
    omega
  unfold nameOk
  rw [mkName_list, hlen]
  simp only [Bool.and_eq_true, decide_eq_true_eq]
  refine ⟨⟨⟨by omega, by omega⟩, hd⟩, ?_⟩
  rw [List.all_eq_true]
  intro c hc
  refine decide_eq_true (show c ∈ AL from ?_)
  rcases List.mem_cons.mp hc with e | hc
  · rw [e]; exact h1
  · rcases List.mem_append.mp hc with hc | hc
    · exact ha c hc
    · rcases List.mem_cons.mp hc with e | hc
      · rw [e]; exact h2
      · exact hb c hc
theorem cutS_chars {z : Str} {lo hi : Option Int} : ∀ c ∈ (cutS z lo hi).cps.toList, c ∈ z.cps.toList := fun c hc => by
  unfold cutS at hc
  simp only at hc
  exact List.mem_of_mem_drop (List.mem_of_mem_take hc)
theorem cutS_split (z : Str) (j : Nat) (hj : j ≤ z.length) : (cutS z none (some (j : Int))).length + (cutS z (some (j : Int)) none).length = z.length := by
  have e1 : HT.sIx z.length 0 none = 0 := rfl
  have e2 : HT.sIx z.length z.length (some (j : Int)) = min j z.length := HT.sIx_nat _ _ _
  have e3 : HT.sIx z.length 0 (some (j : Int)) = min j z.length := HT.sIx_nat _ _ _
  have e4 : HT.sIx z.length z.length none = z.length := rfl
  show (((z.cps.toList.drop (HT.sIx z.length 0 none)).take (HT.sIx z.length z.length (some (j : Int)) - HT.sIx z.length 0 none)).toArray).size + (((z.cps.toList.drop (HT.sIx z.length 0 (some (j : Int)))).take (HT.sIx z.length z.length none - HT.sIx z.length 0 (some (j : Int)))).toArray).size = z.length
  rw [e1, e2, e3, e4]
  simp only [List.size_toArray, List.length_take, List.length_drop, Array.length_toList]
  have : z.cps.size = z.length := rfl
  omega
theorem cutS_from_len (z : Str) : (cutS z (some 1) none).length = z.length - 1 := by
  have h := cutS_length z (some 1) none
  have e3 : HT.sIx z.length 0 (some (1 : Int)) = min 1 z.length := HT.sIx_nat _ _ 1
  have e4 : HT.sIx z.length z.length none = z.length := rfl
  show (((z.cps.toList.drop (HT.sIx z.length 0 (some (1 : Int)))).take (HT.sIx z.length z.length none - HT.sIx z.length 0 (some (1 : Int)))).toArray).size = z.length - 1
  rw [e3, e4]
  simp only [List.size_toArray, List.length_take, List.length_drop, Array.length_toList]
  have : z.cps.size = z.length := rfl
  omega
/-- names as the law makes them -/
structure NmsOk (n : Int) (xs : List Str) : Prop where
  ok : ∀ x ∈ xs, nameOk x = true
  tw : ∀ x ∈ xs, 2 ≤ x.length
  hd : ∀ (j : Nat) x, xs[j]? = some x → x.cps.toList.head? = some (ltr ((n + 3 * (j : Int)) % 26))
theorem NmsOk.nodup {n : Int} {xs : List Str} (h : NmsOk n xs) (hl : xs.length ≤ 10) : xs.Nodup := by
  unfold List.Nodup
  rw [List.pairwise_iff_getElem]
  intro i j hi hj hij e
  have h1 := h.hd i _ (List.getElem?_eq_getElem hi)
  have h2 := h.hd j _ (List.getElem?_eq_getElem hj)
  rw [e, h2] at h1
  have h3 := Option.some.inj h1
  have := ltr_inj (Int.emod_nonneg _ (by decide)) (by have := Int.emod_lt_of_pos (n + 3 * (j : Int)) (show (0 : Int) < 26 by decide); omega) (Int.emod_nonneg _ (by decide)) (by have := Int.emod_lt_of_pos (n + 3 * (i : Int)) (show (0 : Int) < 26 by decide); omega) h3
  omega
def NewNms (m : Nat) (H : Hp) : Post := fun v H' => ∃ (p : Addr) (xs : List Str), v = .ref p ∧ H p = none ∧ H' p = some (.lst (xs.map V.str)) ∧ xs.length = m ∧ xs.Nodup ∧ (∀ x ∈ xs, nameOk x = true) ∧ ∀ x ∈ xs, 2 ≤ x.length
theorem q_ifSet {tt : TT} {te : TE} {tz : TS} {D : Ends} {σ : L2.St} {H : Hp} {c : Bool} {P : Post} {j : Nat} {v0 : V} (h : EvT tt σ H c) (h0 : σ.set j (some v0) = σ) (hv : c = true → ∀ H1, Ex H H1 → EvP te σ H1 P) (hp : c = false → ∀ H1, Ex H H1 → P v0 H1) (k : ∀ v H1, Ex H H1 → P v H1 → tz D (σ.set j (some v)) H1) :
    tSeq (tIfS tt (tAsg te (gName j)) tNext) tz D σ H := by
  refine r_seq (r_if h (fun hc H1 e1 => ?_) (fun hc H1 e1 => ?_))
  · exact s_asgP (D := { D with nx := tz D }) (hv hc H1 e1) fun v H2 e2 p => k v H2 (e1.trans e2) p
  · have := k v0 H1 e1 (hp hc H1 e1)
    rw [h0] at this
    exact this
section
variable {P : Program} {w : World} {K : PySem.W.Frag} {mg : Str → Option Value} {base : Heap}
def R_law_names : List V → Hp → Post → Prop := fun vs H Po => ∃ n m : Int, vs = [.int n, .int m] ∧ 0 ≤ m ∧ m ≤ 10 ∧ Po = NewNms m.toNat H
theorem sc_law_names : FnScope ["_law_number", "_law_many", "_law_letters", "_law_size", "_law_rest", "_law_k", "_law_place", "_law_names_here", "_law_own", "_law_spot", "_law_step"] ["_law_number", "_law_many"] (defScope s_law_names) := ⟨rfl, rfl, rfl, by decide +kernel, rfl, by decide +kernel, by decide +kernel⟩
theorem ok_law_names (S : Says K mg) : Fn P w K mg base 1 "_law_names" ["_law_number", "_law_many"] (spR R_law_names) := by
  obtain ⟨fd, F⟩ := S.def_law_names
  refine ⟨⟨_, fd, S.g_law_names, F.kp, F.bindsN (fun _ _ _ _ _ _ us hl => match us, hl with | [_, _], _ => rfl), F.ok sc_law_names (fun vs H Q E h => ?_) (fun cdv A outer s H vs Q E hr h => ?_)⟩⟩
  · obtain ⟨_, ⟨_, _, rfl, _⟩, _⟩ := h
    rfl
  · obtain ⟨_, ⟨n, m, rfl, hm0, hm1, rfl⟩, q⟩ := h
    refine ⟨_, PSs.nox ((pss_cons (ps_set (i := 2) sc_law_names.nd rfl (by first | exact Or.inl rfl | exact Or.inr rfl) pe_str)
    (pss_cons (ps_set (i := 3) sc_law_names.nd rfl (by first | exact Or.inl rfl | exact Or.inr rfl) (pe_op op_mod (pe_callTy call_int1 (by rfl) S.f_int (by decide +kernel) (pa_cons (pv 0) pa_nil)) pe_int))
    (pss_cons (ps_set (i := 4) sc_law_names.nd rfl (by first | exact Or.inl rfl | exact Or.inr rfl) (pe_join pe_str (pe_lc (own := [("_law_k", 5)]) (g := (gName 5)) (tt := tYes) (te := (tOp rIxS (tVar 2) (tOp _ (tCB _ (tCons (tOp _ (tVar 0) (tOp _ (tOp _ (tC (.int 7)) (tVar 5)) (tVar 5))) tNil)) (tC (.int 36))))) rfl sc_law_names.nd (pi_range1 rfl S.f_range (pa_cons (pv 3) pa_nil)) (blkOk_by (N := ["_law_number", "_law_many", "_law_letters", "_law_size", "_law_rest", "_law_k", "_law_place", "_law_names_here", "_law_own", "_law_spot", "_law_step"]) (sc := defScope s_law_names) (by decide +kernel)) (fun _ _ _ _ _ => (pg_name (i := 5) sc_law_names.nd rfl (by first | exact Or.inl rfl | exact Or.inr rfl))) (fun _ _ _ _ _ => pts_nil) (fun _ _ _ _ _ => (pe_ix ix_str (pv 2) (pe_op op_mod (pe_callTy call_int1 (by rfl) S.f_int (by decide +kernel) (pa_cons (pe_op op_add (pv 0) (pe_op op_mul (pe_op op_mul pe_int (pv 5)) (pv 5))) pa_nil)) pe_int) (fun _ _ => rfl))))))
    (pss_cons (ps_set (i := 6) sc_law_names.nd rfl (by first | exact Or.inl rfl | exact Or.inr rfl) (pe_op op_mod (pe_op op_fdiv (pv 0) pe_int) (pe_op op_add (pv 3) pe_int)))
    (pss_cons (ps_set (i := 7) sc_law_names.nd rfl (by first | exact Or.inl rfl | exact Or.inr rfl) (pe_lst pa_nil))
    (pss_cons (ps_for PassesOwn.never rfl (pi_range1 rfl S.f_range (pa_cons (pv 1) pa_nil)) (pg_name (i := 5) sc_law_names.nd rfl (by first | exact Or.inl rfl | exact Or.inr rfl))
      (pss_cons (ps_set (i := 8) sc_law_names.nd rfl (by first | exact Or.inl rfl | exact Or.inr rfl) (pv 4))
    (pss_cons (ps_if (pt_cmpR op_eq (pe_op op_mod (pe_callTy call_int1 (by rfl) S.f_int (by decide +kernel) (pa_cons (pe_op op_add (pe_op op_fdiv (pv 0) pe_int) (pv 5)) pa_nil)) pe_int) pe_int (nomark _)) (pss_one (ps_set (i := 8) sc_law_names.nd rfl (by first | exact Or.inl rfl | exact Or.inr rfl) (pe_slice sl_str (pv 4) (po_some pe_int) po_none))) pss_nil)
    (pss_cons (ps_set (i := 9) sc_law_names.nd rfl (by first | exact Or.inl rfl | exact Or.inr rfl) (pe_callB (call_min2 rfl) (by rfl) S.f_min (by decide +kernel) (pa_cons (pv 6) (pa_cons (pe_callB call_len_str (by rfl) S.f_len PySem.boot_len (pa_cons (pv 8) pa_nil)) pa_nil))))
    (pss_cons (ps_set (i := 10) sc_law_names.nd rfl (by first | exact Or.inl rfl | exact Or.inr rfl) pe_int)
    (pss_cons (ps_if (pt_cmpR op_eq (pe_op op_mod (pe_op op_fdiv (pv 0) pe_int) pe_int) pe_int (nomark _)) (pss_one (ps_set (i := 10) sc_law_names.nd rfl (by first | exact Or.inl rfl | exact Or.inr rfl) pe_int)) pss_nil)
    (pss_one (ps_expr (pe_bm PySem.F.plainAttrs_list PySem.F.slot_list_append PySem.F.type_list_append mt_append (pv 7) (pa_cons (pe_op op_add_str (pe_op op_add_str (pe_op op_add_str (pe_ix ix_str (pv 2) (pe_op op_mod (pe_callTy call_int1 (by rfl) S.f_int (by decide +kernel) (pa_cons (pe_op op_add (pv 0) (pe_op op_mul pe_int (pv 5))) pa_nil)) pe_int) (fun _ _ => rfl)) (pe_slice sl_str (pv 8) po_none (po_some (pv 9)))) (pe_ix ix_str (pv 2) (pe_op op_mod (pe_callTy call_int1 (by rfl) S.f_int (by decide +kernel) (pa_cons (pe_op op_add (pv 0) (pe_op op_mul (pv 10) (pv 5))) pa_nil)) pe_int) (fun _ _ => rfl))) (pe_slice sl_str (pv 8) (po_some (pv 9)) po_none)) pa_nil))))))))))
    (pss_one (ps_ret (pv 7)))))))))), ?_⟩
    have hz0 : 0 ≤ n % 11 ∧ n % 11 < 11 := ⟨Int.emod_nonneg _ (by decide), Int.emod_lt_of_pos _ (by decide)⟩
    obtain ⟨z, hz⟩ : ∃ z : Nat, n % 11 = (z : Int) := ⟨(n % 11).toNat, by omega⟩
    have hz1 : z < 11 := by omega
    -- letters, size
    refine q_asgP (ep_ev ev_c) fun v H1 e1 ev => ?_
    subst ev
    refine q_asgP (P := fun v _ => v = .int (z : Int)) ?_ fun v H2 e2 ev => ?_
    · have := ev_mod (ev_int (ev_var (i := 0) (v := .int n) (σ := [some (.int n), some (.int m), some (.str "abcdefghijklmnopqrstuvwxyz0123456789"), none, none, none, none, none, none, none, none]) (H := H1) (by rfl))) (ev_c (v := .int 11)) (by decide)
      rw [hz] at this
      exact ep_ev this
    subst ev
    -- rest
    obtain ⟨cs, hcs⟩ : ∃ cs, (List.range z).map (fun k : Nat => ltr ((n + 7 * (k : Int) * (k : Int)) % 36)) = cs := ⟨_, rfl⟩
    have hcl : cs.length = z := by rw [← hcs]; simp
    have hca : ∀ c ∈ cs, c ∈ AL := fun c hc => by
      rw [← hcs] at hc
      obtain ⟨k, _, rfl⟩ := List.mem_map.mp hc
      exact (at_AL (Int.emod_nonneg _ (by decide)) (Int.emod_lt_of_pos _ (by decide))).2.1
    have hAL : ("abcdefghijklmnopqrstuvwxyz0123456789" : Str).cps.toList = AL := rfl
    have ixA : ∀ {H' : Hp} {i : Int}, 0 ≤ i → i < 36 → RV rIxS (.str "abcdefghijklmnopqrstuvwxyz0123456789") (.int i) H' (.str ⟨#[ltr i]⟩) := fun h0 h1 => rv_ixS (by decide) (by rw [hAL]; exact (at_AL h0 h1).1)
    obtain ⟨rest, hrest⟩ : ∃ rest : Str, Txt.join "" (cs.map fun c => (⟨#[c]⟩ : Str)) = rest := ⟨_, rfl⟩
    have hrl : rest.cps.toList = cs := by rw [← hrest]; exact join_ones cs
    have hrn : rest.length = z := by
      show rest.cps.size = z
      rw [← Array.length_toList, hrl, hcl]
    refine q_asgP (P := fun v _ => v = .str rest) ?_ fun v H3 e3 ev => ?_
    · intro H3 e3 Q3 q3
      refine ⟨⟨"", rfl⟩, ?_⟩
      refine r_bind (ep_lc (List.range z) (fun k : Nat => some (.str ⟨#[ltr ((n + 7 * (k : Int) * (k : Int)) % 36)]⟩)) (ei_range1 (n := (z : Int)) (ea_cons (ev_var (by rfl)) ea_nil) (by omega) (by omega)) (by simp) (by simp; omega) (fun _ _ d h => by cases h; rfl) (fun i x k H4 e4 hk hx => ?_)) fun v H4 e4 ⟨p, ys, ev, np, hp, hd⟩ => ?_
      · subst hx
        obtain ⟨hi, hk2⟩ := List.getElem?_eq_some_iff.mp hk
        rw [List.getElem_range] at hk2
        subst hk2
        rw [List.length_range] at hi
        intro H5 e5 Qk Qn hk5 hn5
        refine lcY rfl ?_
        have hm := Int.emod_nonneg (n + 7 * (i : Int) * (i : Int)) (show (36 : Int) ≠ 0 by decide)
        have hm2 := Int.emod_lt_of_pos (n + 7 * (i : Int) * (i : Int)) (show (0 : Int) < 36 by decide)
        exact r_bind (ep_ev (ev_op (ev_var (by rfl)) (ev_mod (ev_int (ev_add (ev_var (by rfl)) (ev_mul (ev_mul ev_c (ev_var (by rfl)) (cmul_l (by decide))) (ev_var (by rfl)) (cmul_r (by omega))))) ev_c (by decide)) (ixA hm hm2))) fun v H6 e6 ev => by subst ev; exact hk5 _ rfl _ H6 e6 (.str _)
      · subst ev
        have hys : ys = (cs.map fun c => (⟨#[c]⟩ : Str)).map V.str := by
          rw [List.filterMap_eq_map'] at hd
          have e9 : (List.range z).map (fun k : Nat => PyData.str ⟨#[ltr ((n + 7 * (k : Int) * (k : Int)) % 36)]⟩) = (cs.map fun c => (⟨#[c]⟩ : Str)).map .str := by
            rw [← hcs, List.map_map, List.map_map]
            rfl
          rw [e9] at hd
          exact hd.strs
        subst hys
        refine ⟨"", p, cs.map fun c => (⟨#[c]⟩ : Str), rfl, rfl, .inl (SqL.of hp), ?_, ?_⟩
        · have h1 : ((cs.map fun c => (⟨#[c]⟩ : Str)).map (·.length)).sum ≤ cs.length := by
            rw [List.map_map]
            clear hcl hca hrl hp hd hrest hcs
            induction cs with
            | nil => simp
            | cons c cs ih =>
              have : ((fun x : Str => x.length) ∘ fun c => (⟨#[c]⟩ : Str)) c = 1 := rfl
              simp only [List.map_cons, List.sum_cons, List.length_cons, this]
              omega
          have h2 : ("" : Str).length = 0 := by decide +kernel
          rw [h2]
          omega
        · rw [hrest]
          exact q3 _ H4 e4 rfl
    subst ev
    -- place
    have hpl0 : (0 : Int) < (z : Int) + 1 := by omega
    obtain ⟨pl, hpl⟩ : ∃ pl : Int, n / 11 % ((z : Int) + 1) = pl := ⟨_, rfl⟩
    have hplb : 0 ≤ pl := by rw [← hpl]; exact Int.emod_nonneg _ (by omega)
    refine q_asgP (P := fun v _ => v = .int pl) (by
      have := ev_mod (ev_div (ev_var (i := 0) (v := .int n) (σ := [some (.int n), some (.int m), some (.str "abcdefghijklmnopqrstuvwxyz0123456789"), some (.int (z : Int)), some (.str rest), none, none, none, none, none, none]) (H := H3) (by rfl)) (ev_c (v := .int 11)) (by decide)) (ev_add (ev_var (i := 3) (v := .int (z : Int)) (by rfl)) (ev_c (v := .int 1))) hpl0
      rw [hpl] at this
      exact ep_ev this) fun v H4 e4 ev => ?_
    subst ev
    refine q_asgL (el_lst ea_nil (by decide)) fun p H5 np e5 hp => ?_
    have e04 := e1.trans (e2.trans (e3.trans e4))
    have npH := fresh_back e04 np
    refine q_forR1 (ea_cons (ev_var (by rfl)) ea_nil) ⟨hm0, by omega⟩ (fun i σ' H' => (∃ x5 x8 x9 x10, σ' = [some (.int n), some (.int m), some (.str "abcdefghijklmnopqrstuvwxyz0123456789"), some (.int (z : Int)), some (.str rest), x5, some (.int pl), some (.ref p), x8, x9, x10]) ∧ Ex H H' ∧ ∃ xs : List Str, H' p = some (.lst (xs.map V.str)) ∧ xs.length = i ∧ NmsOk n xs) (fun H6 e6 => ⟨⟨_, _, _, _, rfl⟩, e04.trans (e5.trans e6), [], e6 _ _ hp, rfl, ⟨fun x hx => (by cases hx), fun x hx => (by cases hx), fun j x hx => (by simp at hx)⟩⟩) (fun i σ' H' hi h => ?_) (fun σ' H' h => ?_)
    · obtain ⟨⟨x5, x8, x9, x10, rfl⟩, eH, xs, hxs, hxl, hok⟩ := h
      have hrest10 : rest.length ≤ 10 := by omega
      refine q_asgP (ep_ev (ev_var (by rfl))) fun v H6 e6 ev => ?_
      subst ev
      refine q_ifSet (j := 8) (v0 := .str rest) (P := fun v _ => ∃ o : Str, v = .str o ∧ (∀ c ∈ o.cps.toList, c ∈ AL) ∧ o.length ≤ 10) (et_test (ev_eqI (ev_mod (ev_int (ev_add (ev_div (ev_var (by rfl)) ev_c (by decide)) (ev_var (by rfl)))) ev_c (by decide)) ev_c)) (by rfl) (fun _ H7 e7 => (ep_ev (v := .str (cutS rest (some 1) none)) (fun H8 e8 Q8 q8 => ⟨_, rfl, _, rfl, rest, rfl, sz_of (by omega), q8 H8 (Ex.refl _)⟩)).imp fun v H8 e8 ev => ⟨_, ev, fun c hc => hca c (by rw [← hrl]; exact cutS_chars c hc), by have := cutS_length rest (some 1) none; omega⟩) (fun _ H7 e7 => ⟨rest, rfl, fun c hc => hca c (by rw [← hrl]; exact hc), hrest10⟩) fun v H7 e7 ⟨o, ev, hoc, hol⟩ => ?_
      subst ev
      -- spot
      obtain ⟨sp, hsp, hspl⟩ : ∃ sp : Nat, (if ((o.length : Nat) : Int) < pl then ((o.length : Nat) : Int) else pl) = (sp : Int) ∧ sp ≤ o.length := by
        by_cases c : ((o.length : Nat) : Int) < pl
        · exact ⟨o.length, by rw [if_pos c], Nat.le_refl _⟩
        · exact ⟨pl.toNat, by rw [if_neg c]; omega, by omega⟩
      refine q_asgP (P := fun v _ => v = .int (sp : Int)) (fun H8 e8 Q8 q8 => ⟨_, rfl, _, rfl, o, rfl, sz_of (by omega), pl, _, rfl, by rw [hsp]; exact q8 _ H8 (Ex.refl _) rfl⟩) fun v H8 e8 ev => ?_
      subst ev
      -- step
      refine q_asgP (ep_ev ev_c) fun v H9 e9 ev => ?_
      subst ev
      refine q_ifSet (j := 10) (v0 := .int 5) (P := fun v _ => ∃ s : Int, v = .int s ∧ (s = 5 ∨ s = 31)) (et_test (ev_eqI (ev_mod (ev_div (ev_var (by rfl)) ev_c (by decide)) ev_c (by decide)) ev_c)) (by rfl) (fun _ H10 e10 => (ep_ev ev_c).imp fun v H8 e8 ev => ⟨31, ev, .inr rfl⟩) (fun _ H10 e10 => ⟨5, rfl, .inl rfl⟩) fun v H10 e10 ⟨st, ev, hst⟩ => ?_
      subst ev
      have eHH := e6.trans (e7.trans (e8.trans (e9.trans e10)))
      have m1 := Int.emod_nonneg (n + 3 * (i : Int)) (show (26 : Int) ≠ 0 by decide)
      have m2 := Int.emod_lt_of_pos (n + 3 * (i : Int)) (show (0 : Int) < 26 by decide)
      have m3 := Int.emod_nonneg (n + st * (i : Int)) (show (36 : Int) ≠ 0 by decide)
      have m4 := Int.emod_lt_of_pos (n + st * (i : Int)) (show (0 : Int) < 36 by decide)
      obtain ⟨c1, hc1⟩ : ∃ c1, ltr ((n + 3 * (i : Int)) % 26) = c1 := ⟨_, rfl⟩
      obtain ⟨c2, hc2⟩ : ∃ c2, ltr ((n + st * (i : Int)) % 36) = c2 := ⟨_, rfl⟩
      have hsplit := cutS_split o sp hspl
      have hone : ∀ c : Nat, (⟨#[c]⟩ : Str).length = 1 := fun _ => rfl
      have happ : ∀ a b : Str, (a ++ b).length = a.length + b.length := fun a b => by
        show (a.cps ++ b.cps).size = a.cps.size + b.cps.size
        simp
      have rvApp : ∀ {H' : Hp} {a b : Str}, a.length + b.length ≤ 100 → RV (fun x y H Q => ∃ i j, x = V.str i ∧ y = V.str j ∧ i.length + j.length ≤ sizeLine ∧ Q (.str (i ++ j)) H) (.str a) (.str b) H' (.str (a ++ b)) := fun hab H1 _ Q1 q1 => ⟨_, _, rfl, rfl, sz_of (by omega), q1 H1 (Ex.refl _)⟩
      have hname := mkName_ok (c1 := c1) (c2 := c2) (a := cutS o none (some (sp : Int))) (b := cutS o (some (sp : Int)) none) (by rw [← hc1]; exact (at_AL m1 (by omega)).2.1) (by rw [← hc1]; exact ltr_dig m1 m2) (by rw [← hc2]; exact (at_AL m3 m4).2.1) (fun c hc => hoc c (cutS_chars c hc)) (fun c hc => hoc c (cutS_chars c hc)) (by omega)
      refine s_appendP (P := fun v _ => v = .str (mkName c1 (cutS o none (some (sp : Int))) c2 (cutS o (some (sp : Int)) none))) (ev_var (by rfl)) (eHH _ _ hxs) (by rw [List.length_map]; omega) (ep_ev (ev_op (x := .str ((⟨#[c1]⟩ ++ cutS o none (some (sp : Int))) ++ ⟨#[c2]⟩)) (ev_op (x := .str (⟨#[c1]⟩ ++ cutS o none (some (sp : Int)))) (ev_op (x := .str ⟨#[c1]⟩) (y := .str (cutS o none (some (sp : Int)))) (ev_op (ev_var (by rfl)) (ev_mod (ev_int (ev_add (ev_var (by rfl)) (ev_mul ev_c (ev_var (by rfl)) (cmul_l (by decide))))) ev_c (by decide)) (by rw [← hc1]; exact ixA m1 (by omega))) (fun H8 e8 Q8 q8 => ⟨_, rfl, _, rfl, _, rfl, o, rfl, sz_of (by omega), q8 H8 (Ex.refl _)⟩) (rvApp (by rw [hone]; omega))) (ev_op (ev_var (by rfl)) (ev_mod (ev_int (ev_add (ev_var (by rfl)) (ev_mul (i := st) (ev_var (by rfl)) (ev_var (by rfl)) (cmul_l (by rcases hst with e | e <;> subst e <;> decide))))) ev_c (by decide)) (by rw [← hc2]; exact ixA m3 m4)) (rvApp (by rw [happ, hone, hone]; omega))) (fun H8 e8 Q8 q8 => ⟨_, rfl, _, rfl, _, rfl, o, rfl, sz_of (by omega), q8 H8 (Ex.refl _)⟩) (rvApp (by rw [happ, happ, hone, hone]; omega)))) fun v H11 e11 ev => ?_
      subst ev
      refine ⟨⟨_, _, _, _, rfl⟩, Ex.mut (eH.trans (eHH.trans e11)) npH, xs ++ [_], by rw [upd_same, List.map_append]; rfl, by simp [hxl], ⟨fun x hx => ?_, fun x hx => ?_, fun j x hx => ?_⟩⟩
      · rcases List.mem_append.mp hx with q | q
        · exact hok.ok x q
        · rw [List.mem_singleton.mp q]; exact hname
      · rcases List.mem_append.mp hx with q | q
        · exact hok.tw x q
        · rw [List.mem_singleton.mp q, mkName_len]; exact Nat.le_add_left _ _
      · by_cases hj : j < xs.length
        · rw [List.getElem?_append_left hj] at hx
          exact hok.hd j x hx
        · rw [List.getElem?_append_right (by omega)] at hx
          have hj2 : j - xs.length = 0 := by
            have := (List.getElem?_eq_some_iff.mp hx).1
            simp at this
            omega
          rw [hj2] at hx
          have hx := (Option.some.inj hx).symm
          subst hx
          have hji : j = i := by omega
          subst hji
          rw [mkName_list, hc1]
          rfl
    · obtain ⟨⟨x5, x8, x9, x10, rfl⟩, eH, xs, hxs, hxl, hok⟩ := h
      exact ⟨_, rfl, q _ H' eH ⟨p, xs, rfl, npH, hxs, hxl, hok.nodup (by omega), hok.ok, hok.tw⟩⟩
end
end EF
set_option maxHeartbeats 4000000
namespace EF
open PySem PySem.Spec PyProof.Rows L2 Evl
/-! ### arguments told as data -/
def EvAD (ta : TA) (σ : L2.St) (H : Hp) (ds : List PyData) : Prop := EvAP ta σ H (fun vs H' => DtA H' vs ds)
abbrev EvD (te : TE) (σ : L2.St) (H : Hp) (d : PyData) : Prop := EvP te σ H (fun v H' => Dt H' v d)
section
variable {K : PySem.W.Frag} {σ : L2.St} {H : Hp} {te : TE} {ta : TA} {d : PyData} {ds : List PyData}
theorem ead_nil : EvAD tNil σ H [] := fun H1 _ Q q => q [] H1 (Ex.refl _) .nil
theorem ead_cons (h : EvD te σ H d) (hr : EvAD ta σ H ds) : EvAD (tCons te ta) σ H (d :: ds) := fun H1 e Q q => h H1 e _ fun v H2 e2 p => hr H2 (e.trans e2) _ fun vs H3 e3 p3 => q _ H3 (e2.trans e3) (.cons (p.mono e3) p3)
theorem ed_tup (h : EvAD ta σ H ds) (hl : ds.length ≤ 100) : EvD (tTup ta) σ H (.tuple ds) := fun H1 e Q q => h H1 e _ fun vs H2 e2 p => ⟨sz_of (by rw [p.len]; omega), fun a na => q _ _ (e2.trans (Ex.new na)) (.tup (Rd.of upd_same) (p.mono (Ex.new na)))⟩
theorem ep_lstD (h : EvAD ta σ H ds) (hl : ds.length ≤ 100) : EvP (tLst ta) σ H (fun v H' => ∃ p ys, v = .ref p ∧ H p = none ∧ H' p = some (.lst ys) ∧ DtA H' ys ds) := fun H1 e Q q => h H1 e _ fun vs H2 e2 p => ⟨sz_of (by rw [p.len]; omega), fun a na => q _ _ (e2.trans (Ex.new na)) ⟨a, vs, rfl, fresh_back (e.trans e2) na, upd_same, p.mono (Ex.new na)⟩⟩
theorem ed_str {z : Str} (h : Ev te σ H (.str z)) : EvD te σ H (.str z) := (ep_ev h).imp fun v H1 _ e => by rw [e]; exact .str z
theorem ed_int {i : Int} (h : Ev te σ H (.int i)) : EvD te σ H (.int i) := (ep_ev h).imp fun v H1 _ e => by rw [e]; exact .int i
theorem ed_tupL (h : EvP te σ H (fun v H' => ∃ p ys, v = .ref p ∧ H' p = some (.lst ys) ∧ DtA H' ys ds)) : EvD (tCB (rTupOf K) (tCons te tNil)) σ H (.tuple ds) := (ep_tupL h).imp fun v H1 _ ⟨a, ys, ev, hp, hd⟩ => by rw [ev]; exact .tup hp.rd hd
end
/-! ### the law's lands -/
structure PartsV (H : Hp) (v : V) (L : Ld) : Prop where
  ex : ∃ a wa vp vl vt, v = .ref a ∧ H a = some (.lst [.ref wa, vp, vl, vt]) ∧ PlT H wa (L.winds.map V.str) ∧ Dt H vp (.tuple (L.places.map .str)) ∧ Dt H vl (.tuple (L.links.map lnkD)) ∧ Dt H vt (.tuple (L.paths.map pathD))
theorem PartsV.mono {H H' : Hp} {v : V} {L : Ld} (e : Ex H H') (h : PartsV H v L) : PartsV H' v L := by
  obtain ⟨a, wa, vp, vl, vt, h1, h2, h3, h4, h5, h6⟩ := h.ex
  exact ⟨a, wa, vp, vl, vt, h1, e _ _ h2, h3.mono e, h4.mono e, h5.mono e, h6.mono e⟩
/-- lands as the law makes them -/
structure LawLd (L : Ld) : Prop where
  ok : LdOk L
  w : L.winds.length ≤ 3
  p : 2 ≤ L.places.length ∧ L.places.length ≤ 7
  l : L.links.length ≤ 10
  tw : ∀ x ∈ L.places, 2 ≤ x.length
/-- the numbers' list -/
structure NumV (H : Hp) (a : Addr) (ns : List Int) : Prop where
  at_ : H a = some (.lst (ns.map V.int))
  len : ns.length = 170
  sm : Sm ns
theorem NumV.mono {H H' : Hp} {a : Addr} {ns : List Int} (e : Ex H H') (h : NumV H a ns) : NumV H' a ns := ⟨e _ _ h.at_, h.len, h.sm⟩
def nAt (ns : List Int) (i : Nat) : Int := ns.getD i 0
theorem NumV.ix {K : PySem.W.Frag} {H : Hp} {a : Addr} {ns : List Int} (h : NumV H a ns) {σ : L2.St} {ta tb : TE} {i : Int} (ha : Ev ta σ H (.ref a)) (hb : Ev tb σ H (.int i)) (h0 : 0 ≤ i) (h1 : i < 170) : Ev (tOp (rIxL K) ta tb) σ H (.int (nAt ns i.toNat)) := by
  obtain ⟨j, rfl⟩ : ∃ j : Nat, i = (j : Int) := ⟨i.toNat, by omega⟩
  have hj : j < ns.length := by rw [h.len]; omega
  refine ev_op ha hb (rv_ixL (SqL.of h.at_) (atI_nat ?_))
  rw [List.getElem?_map, List.getElem?_eq_getElem hj]
  unfold nAt
  rw [Int.toNat_natCast, List.getD_eq_getElem?_getD, List.getElem?_eq_getElem hj]
  rfl
theorem mod_b (i : Int) {j : Int} (h : 0 < j) : 0 ≤ i % j ∧ i % j < j := ⟨Int.emod_nonneg _ (by omega), Int.emod_lt_of_pos _ h⟩
theorem list_ix {K : PySem.W.Frag} {H : Hp} {p : Addr} {xs : List Str} {i : Int} (hp : SqL K H p (xs.map V.str)) (h0 : 0 ≤ i) (h1 : i < xs.length) : ∃ z, xs[i.toNat]? = some z ∧ RV (rIxL K) (.ref p) (.int i) H (.str z) := by
  obtain ⟨j, rfl⟩ : ∃ j : Nat, i = (j : Int) := ⟨i.toNat, by omega⟩
  have hj : j < xs.length := by omega
  refine ⟨xs[j], by rw [Int.toNat_natCast]; exact List.getElem?_eq_getElem hj, rv_ixL hp (atI_nat ?_)⟩
  rw [List.getElem?_map, List.getElem?_eq_getElem hj]
  rfl
theorem nodup_ix {xs : List Str} (h : xs.Nodup) {i j : Nat} {a b : Str} (ha : xs[i]? = some a) (hb : xs[j]? = some b) (hij : i ≠ j) : a ≠ b := by
  obtain ⟨h1, e1⟩ := List.getElem?_eq_some_iff.mp ha
  obtain ⟨h2, e2⟩ := List.getElem?_eq_some_iff.mp hb
  intro e
  rcases Nat.lt_or_gt_of_ne hij with q | q
  · exact List.pairwise_iff_getElem.mp h _ _ h1 h2 q (by rw [e1, e2, e])
  · exact List.pairwise_iff_getElem.mp h _ _ h2 h1 q (by rw [e1, e2, e])
/-- two ends: the other one is not the same -/
theorem ends_ne (i j n : Int) (hn : 2 ≤ n) : i % n ≠ (i % n + 1 + j % (n - 1)) % n := by
  have h1 := mod_b i (show 0 < n by omega)
  have h2 := mod_b j (show 0 < n - 1 by omega)
  intro e
  have h3 := mod_b (i % n + 1 + j % (n - 1)) (show 0 < n by omega)
  obtain ⟨a, ha⟩ : ∃ a, i % n = a := ⟨_, rfl⟩
  obtain ⟨b, hb⟩ : ∃ b, j % (n - 1) = b := ⟨_, rfl⟩
  rw [ha, hb] at e
  rw [ha] at h1
  rw [hb] at h2
  by_cases c : a + 1 + b < n
  · rw [Int.emod_eq_of_lt (by omega) c] at e
    omega
  · have : (a + 1 + b) % n = a + 1 + b - n := by
      rw [← Int.sub_emod_right, Int.emod_eq_of_lt (by omega) (by omega)]
    rw [this] at e
    omega
theorem ev_lenS {K : PySem.W.Frag} {σ : L2.St} {H : Hp} {ta : TE} {p : Addr} {xs : List Str} {n : Int} (ha : Ev ta σ H (.ref p)) (hp : H p = some (.lst (xs.map V.str))) (hn : (xs.length : Int) = n) : Ev (tCB (fun xs H Q => ∃ p ys, xs = [V.ref p] ∧ (SqL K H p ys ∨ SqT K H p ys) ∧ Q (.int ys.length) H) (tCons ta tNil)) σ H (.int n) := by
  have := ev_lenX (K := K) ha (.inl (SqL.of hp))
  rwa [List.length_map, hn] at this
theorem known_any (kp : List (Str × Str)) (d : Str × Str) : ((kp.map npD).any fun z => PyData.eqv z (npD d)) = decide (d ∈ kp) := by
  induction kp with
  | nil => simp
  | cons a l ih =>
    rw [List.map_cons, List.any_cons, ih, np_eqv]
    by_cases c1 : a = d
    · simp [c1]
    · have c2 : ¬ d = a := fun e => c1 e.symm
      by_cases c3 : d ∈ l <;> simp [c1, c2, c3]
theorem et_notInD {K : PySem.W.Frag} {σ : L2.St} {H : Hp} {ta tb : TE} {y : V} {d : PyData} {ds : List PyData} (ha : EvD ta σ H d) (hb : Ev tb σ H y) (hy : Dt H y (.list ds)) (sd : SeqAt.shaped d = true) (se : SeqAt.shaped (.list ds) = true) : EvT (tTest (tOp (rNotInD K) ta tb)) σ H (!ds.any fun z => PyData.eqv z d) := fun H1 e1 Q q =>
  ha H1 e1 _ fun v H2 e2 hv => hb H2 (e1.trans e2) _ fun H3 e3 => ⟨d, ds, (hv.mono e3).dp, (hy.mono ((e1.trans e2).trans e3)).dp, sd, se, _, rfl, q H3 (e2.trans e3)⟩
/-- the pairs of two ends of the paths, by turning each to a pair -/
theorem ep_pairs {K : PySem.W.Frag} {σ : L2.St} {H : Hp} {i j : Nat} {b : Bool} {tl : TE} {p : Addr} {xs : List V} {pths : List (Str × Str × Int)} (h : Ev tl σ H (.ref p)) (hp : H p = some (.lst xs)) (hd : DtA H xs (pths.map pathD)) (hz : pths.length < 1000)
    (hj : ∀ v : V, ((wipe σ [j]).set j (some v))[j]? = some (some v)) (hw : ∀ v : V, wipe ((wipe σ [j]).set j (some v)) [j] = wipe σ [j]) :
    EvP (tLc (iList K tl) (gName j) tYes (tTup (tCons (tOp (rIxT K) (tVar j) (tC (.int (if b then 0 else 1)))) (tCons (tOp (rIxT K) (tVar j) (tC (.int (if b then 1 else 0)))) tNil))) [j]) σ H (fun v H' => ∃ q ys, v = .ref q ∧ H' q = some (.lst ys) ∧ DtA H' ys ((pths.map fun p => if b then (p.1, p.2.1) else (p.2.1, p.1)).map npD)) :=
  (ep_lc pths (fun p => some (npD (if b then (p.1, p.2.1) else (p.2.1, p.1)))) (ei_list ((ep_ev h).imp fun v H1 e ev => ⟨p, ev, SqL.of (e _ _ hp)⟩)) hd.map_len (by omega) (fun r _ d h => by cases h; simp [npD, noL, noLs]) (fun i x q H1 e1 hq hx => by
    obtain ⟨ba, zs, rfl, hba, hd1⟩ := ((hd.map_at hx hq).mono e1).tup_at
    obtain ⟨x1, r, rfl, g1, d1⟩ := hd1.cons_inv
    obtain ⟨x2, r, rfl, g2, d2⟩ := d1.cons_inv
    have g1 := g1.str_eq
    have g2 := g2.str_eq
    subst g1 g2
    intro H2 e2 Qk Qn hk hn
    refine lcY (hw _) ?_
    have a0 : ∀ {H3}, Ex H2 H3 → RV (rIxT K) (.ref ba) (.int 0) H3 (.str q.1) := fun e => rv_ixT (.inl (ex_rd (e2.trans e) hba)) (atI_nat (j := 0) rfl)
    have a1 : ∀ {H3}, Ex H2 H3 → RV (rIxT K) (.ref ba) (.int 1) H3 (.str q.2.1) := fun e => rv_ixT (.inl (ex_rd (e2.trans e) hba)) (atI_nat (j := 1) rfl)
    cases b with
    | true => exact r_bind (ed_tup (ead_cons (ed_str (ev_op (ev_var (hj _)) ev_c (a0 (Ex.refl _)))) (ead_cons (ed_str (ev_op (ev_var (hj _)) ev_c (a1 (Ex.refl _)))) ead_nil)) (by simp)) fun v H3 e3 hv => hk _ rfl v H3 e3 hv
    | false => exact r_bind (ed_tup (ead_cons (ed_str (ev_op (ev_var (hj _)) ev_c (a1 (Ex.refl _)))) (ead_cons (ed_str (ev_op (ev_var (hj _)) ev_c (a0 (Ex.refl _)))) ead_nil)) (by simp)) fun v H3 e3 hv => hk _ rfl v H3 e3 hv)).imp fun v H1 e1 ⟨q, ys, ev, _, hq, hd2⟩ => ⟨q, ys, ev, hq, by
      rw [List.filterMap_eq_map'] at hd2
      rw [List.map_map]
      exact hd2⟩
section
variable {P : Program} {w : World} {K : PySem.W.Frag} {mg : Str → Option Value} {base : Heap}
def R_law_parts : List V → Hp → Post → Prop := fun vs H Po => ∃ a ns, vs = [.ref a, .int 0] ∧ NumV H a ns ∧ Po = fun v H' => (∃ p, v = .ref p ∧ H p = none) ∧ ∃ L, PartsV H' v L ∧ LawLd L
theorem sc_law_parts : FnScope ["_law_numbers_here", "_law_at", "_law_winds", "_law_places", "_law_names_here", "_law_links", "_law_k", "_law_spot", "_law_one", "_law_other", "_law_times", "_law_j", "_law_least", "_law_paths", "_law_known", "_law_path"] ["_law_numbers_here", "_law_at"] (defScope s_law_parts) := ⟨rfl, rfl, rfl, by decide +kernel, rfl, by decide +kernel, by decide +kernel⟩
theorem ok_law_parts (S : Says K mg) : Fn P w K mg base 2 "_law_parts" ["_law_numbers_here", "_law_at"] (spR R_law_parts) := by
  have G_law_names := ok_law_names (P := P) (w := w) (base := base) S
  obtain ⟨fd, F⟩ := S.def_law_parts
  refine ⟨⟨_, fd, S.g_law_parts, F.kp, F.bindsN (fun _ _ _ _ _ _ us hl => match us, hl with | [_, _], _ => rfl), F.ok sc_law_parts (fun vs H Q E h => ?_) (fun cdv A outer s H vs Q E hr h => ?_)⟩⟩
  · obtain ⟨_, ⟨_, _, rfl, _⟩, _⟩ := h
    rfl
  · obtain ⟨_, ⟨a, ns, rfl, hN, rfl⟩, q⟩ := h
    have hu65 := hu65_of hr
    refine ⟨_, PSs.nox ((pss_cons (ps_set (i := 2) sc_law_parts.nd rfl (by first | exact Or.inl rfl | exact Or.inr rfl) (pe_fn G_law_names (hr.mono (by decide)) (pa_cons (pe_ix ix_list (pv 0) (pv 1) (fun _ _ => rfl)) (pa_cons (pe_op op_add pe_int (pe_op op_mod (pe_callTy call_int1 (by rfl) S.f_int (by decide +kernel) (pa_cons (pe_ix ix_list (pv 0) (pe_op op_add (pv 1) pe_int) (fun _ _ => rfl)) pa_nil)) pe_int)) pa_nil))))
    (pss_cons (ps_set (i := 3) sc_law_parts.nd rfl (by first | exact Or.inl rfl | exact Or.inr rfl) (pe_fn G_law_names (hr.mono (by decide)) (pa_cons (pe_ix ix_list (pv 0) (pe_op op_add (pv 1) pe_int) (fun _ _ => rfl)) (pa_cons (pe_op op_add pe_int (pe_op op_mod (pe_callTy call_int1 (by rfl) S.f_int (by decide +kernel) (pa_cons (pe_ix ix_list (pv 0) (pe_op op_add (pv 1) pe_int) (fun _ _ => rfl)) pa_nil)) pe_int)) pa_nil))))
    (pss_cons (ps_set (i := 4) sc_law_parts.nd rfl (by first | exact Or.inl rfl | exact Or.inr rfl) (pe_fn G_law_names (hr.mono (by decide)) (pa_cons (pe_ix ix_list (pv 0) (pe_op op_add (pv 1) pe_int) (fun _ _ => rfl)) (pa_cons pe_int pa_nil))))
    (pss_cons (ps_set (i := 5) sc_law_parts.nd rfl (by first | exact Or.inl rfl | exact Or.inr rfl) (pe_lst pa_nil))
    (pss_cons (ps_for PassesOwn.never rfl (pi_range1 rfl S.f_range (pa_cons (pe_op op_mod (pe_callTy call_int1 (by rfl) S.f_int (by decide +kernel) (pa_cons (pe_ix ix_list (pv 0) (pe_op op_add (pv 1) pe_int) (fun _ _ => rfl)) pa_nil)) pe_int) pa_nil)) (pg_name (i := 6) sc_law_parts.nd rfl (by first | exact Or.inl rfl | exact Or.inr rfl))
      (pss_cons (ps_set (i := 7) sc_law_parts.nd rfl (by first | exact Or.inl rfl | exact Or.inr rfl) (pe_op op_add (pe_op op_add (pv 1) pe_int) (pe_op op_mul pe_int (pv 6))))
    (pss_cons (ps_set (i := 8) sc_law_parts.nd rfl (by first | exact Or.inl rfl | exact Or.inr rfl) (pe_op op_mod (pe_callTy call_int1 (by rfl) S.f_int (by decide +kernel) (pa_cons (pe_ix ix_list (pv 0) (pv 7) (fun _ _ => rfl)) pa_nil)) (pe_callB call_len_seq (by rfl) S.f_len PySem.boot_len (pa_cons (pv 3) pa_nil))))
    (pss_cons (ps_set (i := 9) sc_law_parts.nd rfl (by first | exact Or.inl rfl | exact Or.inr rfl) (pe_op op_mod (pe_callTy call_int1 (by rfl) S.f_int (by decide +kernel) (pa_cons (pe_op op_add (pe_op op_add (pv 8) pe_int) (pe_op op_mod (pe_callTy call_int1 (by rfl) S.f_int (by decide +kernel) (pa_cons (pe_ix ix_list (pv 0) (pe_op op_add (pv 7) pe_int) (fun _ _ => rfl)) pa_nil)) (pe_op op_sub (pe_callB call_len_seq (by rfl) S.f_len PySem.boot_len (pa_cons (pv 3) pa_nil)) pe_int))) pa_nil)) (pe_callB call_len_seq (by rfl) S.f_len PySem.boot_len (pa_cons (pv 3) pa_nil))))
    (pss_cons (ps_set (i := 10) sc_law_parts.nd rfl (by first | exact Or.inl rfl | exact Or.inr rfl) (pe_lst pa_nil))
    (pss_cons (ps_for PassesOwn.never rfl (pi_range1 rfl S.f_range (pa_cons (pe_callB call_len_seq (by rfl) S.f_len PySem.boot_len (pa_cons (pv 2) pa_nil)) pa_nil)) (pg_name (i := 11) sc_law_parts.nd rfl (by first | exact Or.inl rfl | exact Or.inr rfl))
      (pss_one (ps_if (pt_cmpR op_eq (pe_op op_mod (pe_callTy call_int1 (by rfl) S.f_int (by decide +kernel) (pa_cons (pe_ix ix_list (pv 0) (pe_op op_add (pe_op op_add (pv 7) pe_int) (pv 11)) (fun _ _ => rfl)) pa_nil)) pe_int) pe_int (nomark _)) (pss_one (ps_expr (pe_bm PySem.F.plainAttrs_list PySem.F.slot_list_append PySem.F.type_list_append mt_append (pv 10) (pa_cons pe_non pa_nil)))) (pss_cons (ps_set (i := 12) sc_law_parts.nd rfl (by first | exact Or.inl rfl | exact Or.inr rfl) (pe_op op_add pe_int (pe_op op_mod (pe_callTy call_int1 (by rfl) S.f_int (by decide +kernel) (pa_cons (pe_ix ix_list (pv 0) (pe_op op_add (pe_op op_add (pv 7) pe_int) (pv 11)) (fun _ _ => rfl)) pa_nil)) pe_int)))
    (pss_one (ps_expr (pe_bm PySem.F.plainAttrs_list PySem.F.slot_list_append PySem.F.type_list_append mt_append (pv 10) (pa_cons (pe_tup (pa_cons (pv 12) (pa_cons (pe_op op_add (pv 12) (pe_op op_mod (pe_callTy call_int1 (by rfl) S.f_int (by decide +kernel) (pa_cons (pe_ix ix_list (pv 0) (pe_op op_add (pe_op op_add (pv 7) pe_int) (pv 11)) (fun _ _ => rfl)) pa_nil)) pe_int)) pa_nil))) pa_nil))))))))
    (pss_one (ps_expr (pe_bm PySem.F.plainAttrs_list PySem.F.slot_list_append PySem.F.type_list_append mt_append (pv 5) (pa_cons (pe_tup (pa_cons (pe_ix ix_list (pv 4) (pv 6) (fun _ _ => rfl)) (pa_cons (pe_ix ix_list (pv 3) (pv 8) (fun _ _ => rfl)) (pa_cons (pe_ix ix_list (pv 3) (pv 9) (fun _ _ => rfl)) (pa_cons (pe_callTy call_tupF (by rfl) S.f_tuple (by decide +kernel) (pa_cons (pv 10) pa_nil)) pa_nil))))) pa_nil))))))))))
    (pss_cons (ps_set (i := 13) sc_law_parts.nd rfl (by first | exact Or.inl rfl | exact Or.inr rfl) (pe_lst pa_nil))
    (pss_cons (ps_for PassesOwn.never rfl (pi_range1 rfl S.f_range (pa_cons (pe_op op_mod (pe_callTy call_int1 (by rfl) S.f_int (by decide +kernel) (pa_cons (pe_ix ix_list (pv 0) (pe_op op_add (pv 1) pe_int) (fun _ _ => rfl)) pa_nil)) pe_int) pa_nil)) (pg_name (i := 6) sc_law_parts.nd rfl (by first | exact Or.inl rfl | exact Or.inr rfl))
      (pss_cons (ps_set (i := 8) sc_law_parts.nd rfl (by first | exact Or.inl rfl | exact Or.inr rfl) (pe_op op_mod (pe_callTy call_int1 (by rfl) S.f_int (by decide +kernel) (pa_cons (pe_ix ix_list (pv 0) (pe_op op_add (pe_op op_add (pv 1) pe_int) (pe_op op_mul pe_int (pv 6))) (fun _ _ => rfl)) pa_nil)) (pe_callB call_len_seq (by rfl) S.f_len PySem.boot_len (pa_cons (pv 3) pa_nil))))
    (pss_cons (ps_set (i := 9) sc_law_parts.nd rfl (by first | exact Or.inl rfl | exact Or.inr rfl) (pe_op op_mod (pe_callTy call_int1 (by rfl) S.f_int (by decide +kernel) (pa_cons (pe_op op_add (pe_op op_add (pv 8) pe_int) (pe_op op_mod (pe_callTy call_int1 (by rfl) S.f_int (by decide +kernel) (pa_cons (pe_ix ix_list (pv 0) (pe_op op_add (pe_op op_add (pv 1) pe_int) (pe_op op_mul pe_int (pv 6))) (fun _ _ => rfl)) pa_nil)) (pe_op op_sub (pe_callB call_len_seq (by rfl) S.f_len PySem.boot_len (pa_cons (pv 3) pa_nil)) pe_int))) pa_nil)) (pe_callB call_len_seq (by rfl) S.f_len PySem.boot_len (pa_cons (pv 3) pa_nil))))
    (pss_cons (ps_set (i := 14) sc_law_parts.nd rfl (by first | exact Or.inl rfl | exact Or.inr rfl) (pe_op op_cat (pe_lc (own := [("_law_path", 15)]) (g := (gName 15)) (tt := tYes) (te := (tTup (tCons (tOp (rIxT K) (tVar 15) (tC (.int 0))) (tCons (tOp (rIxT K) (tVar 15) (tC (.int 1))) tNil)))) rfl sc_law_parts.nd (pi_list (pv 13)) (blkOk_by (N := ["_law_numbers_here", "_law_at", "_law_winds", "_law_places", "_law_names_here", "_law_links", "_law_k", "_law_spot", "_law_one", "_law_other", "_law_times", "_law_j", "_law_least", "_law_paths", "_law_known", "_law_path"]) (sc := defScope s_law_parts) (by decide +kernel)) (fun _ _ _ _ _ => (pg_name (i := 15) sc_law_parts.nd rfl (by first | exact Or.inl rfl | exact Or.inr rfl))) (fun _ _ _ _ _ => pts_nil) (fun _ _ _ _ _ => (pe_tup (pa_cons (pe_ix ix_tup (pv 15) pe_int (fun _ _ => rfl)) (pa_cons (pe_ix ix_tup (pv 15) pe_int (fun _ _ => rfl)) pa_nil))))) (pe_lc (own := [("_law_path", 15)]) (g := (gName 15)) (tt := tYes) (te := (tTup (tCons (tOp (rIxT K) (tVar 15) (tC (.int 1))) (tCons (tOp (rIxT K) (tVar 15) (tC (.int 0))) tNil)))) rfl sc_law_parts.nd (pi_list (pv 13)) (blkOk_by (N := ["_law_numbers_here", "_law_at", "_law_winds", "_law_places", "_law_names_here", "_law_links", "_law_k", "_law_spot", "_law_one", "_law_other", "_law_times", "_law_j", "_law_least", "_law_paths", "_law_known", "_law_path"]) (sc := defScope s_law_parts) (by decide +kernel)) (fun _ _ _ _ _ => (pg_name (i := 15) sc_law_parts.nd rfl (by first | exact Or.inl rfl | exact Or.inr rfl))) (fun _ _ _ _ _ => pts_nil) (fun _ _ _ _ _ => (pe_tup (pa_cons (pe_ix ix_tup (pv 15) pe_int (fun _ _ => rfl)) (pa_cons (pe_ix ix_tup (pv 15) pe_int (fun _ _ => rfl)) pa_nil)))))))
    (pss_one (ps_if (pt_cmpR (op_notInD hu65) (pe_tup (pa_cons (pe_ix ix_list (pv 3) (pv 8) (fun _ _ => rfl)) (pa_cons (pe_ix ix_list (pv 3) (pv 9) (fun _ _ => rfl)) pa_nil))) (pv 14) (by with_unfolding_all rfl)) (pss_one (ps_expr (pe_bm PySem.F.plainAttrs_list PySem.F.slot_list_append PySem.F.type_list_append mt_append (pv 13) (pa_cons (pe_tup (pa_cons (pe_ix ix_list (pv 3) (pv 8) (fun _ _ => rfl)) (pa_cons (pe_ix ix_list (pv 3) (pv 9) (fun _ _ => rfl)) (pa_cons (pe_op op_add pe_int (pe_op op_mod (pe_callTy call_int1 (by rfl) S.f_int (by decide +kernel) (pa_cons (pe_ix ix_list (pv 0) (pe_op op_add (pe_op op_add (pv 1) pe_int) (pe_op op_mul pe_int (pv 6))) (fun _ _ => rfl)) pa_nil)) pe_int)) pa_nil)))) pa_nil)))) pss_nil))))))
    (pss_one (ps_ret (pe_lst (pa_cons (pe_callTy call_tupF (by rfl) S.f_tuple (by decide +kernel) (pa_cons (pv 2) pa_nil)) (pa_cons (pe_callTy call_tupF (by rfl) S.f_tuple (by decide +kernel) (pa_cons (pv 3) pa_nil)) (pa_cons (pe_callTy call_tupF (by rfl) S.f_tuple (by decide +kernel) (pa_cons (pv 5) pa_nil)) (pa_cons (pe_callTy call_tupF (by rfl) S.f_tuple (by decide +kernel) (pa_cons (pv 13) pa_nil)) pa_nil))))))))))))))), ?_⟩
    -- winds, places, names
    obtain ⟨mw, hmw, hmw1⟩ : ∃ mw, 1 + nAt ns ((0 : Int) + 1).toNat % 3 = mw ∧ 1 ≤ mw ∧ mw ≤ 3 := ⟨_, rfl, by have := mod_b (nAt ns ((0 : Int) + 1).toNat) (show (0 : Int) < 3 by decide); omega⟩
    obtain ⟨mp, hmp, hmp1⟩ : ∃ mp, 2 + nAt ns ((0 : Int) + 3).toNat % 6 = mp ∧ 2 ≤ mp ∧ mp ≤ 7 := ⟨_, rfl, by have := mod_b (nAt ns ((0 : Int) + 3).toNat) (show (0 : Int) < 6 by decide); omega⟩
    refine q_asgP (ep_callF (R := R_law_names) (NewNms mw.toNat) (P := NewNms mw.toNat H) (ea_cons (hN.ix (ev_var (by rfl)) (ev_var (by rfl)) (by decide) (by decide)) (ea_cons (ev_add ev_c (ev_mod (ev_int (hN.ix (ev_var (by rfl)) (ev_add (ev_var (by rfl)) ev_c) (by decide) (by decide))) ev_c (by decide))) ea_nil)) (fun H1 e1 => ⟨_, _, rfl, by omega, by omega, by rw [hmw]⟩) fun H1 e1 v H2 e2 ⟨p, xs, ev, np, hp, h1, h2, h3⟩ => ⟨p, xs, ev, fresh_back e1 np, hp, h1, h2, h3⟩) fun v H1 e1 ⟨pw, ws, ev, npw, hpw, hwl, hwnd, hwok, _⟩ => ?_
    subst ev
    have hN1 := hN.mono e1
    refine q_asgP (ep_callF (R := R_law_names) (NewNms mp.toNat) (P := NewNms mp.toNat H1) (ea_cons (hN1.ix (ev_var (by rfl)) (ev_add (ev_var (by rfl)) ev_c) (by decide) (by decide)) (ea_cons (ev_add ev_c (ev_mod (ev_int (hN1.ix (ev_var (by rfl)) (ev_add (ev_var (by rfl)) ev_c) (by decide) (by decide))) ev_c (by decide))) ea_nil)) (fun H1 e1 => ⟨_, _, rfl, by omega, by omega, by rw [hmp]⟩) fun H1 e1 v H2 e2 ⟨p, xs, ev, np, hp, h1, h2, h3⟩ => ⟨p, xs, ev, fresh_back e1 np, hp, h1, h2, h3⟩) fun v H2 e2 ⟨pp, ps, ev, npp, hpp, hpl, hpnd, hpok, hptw⟩ => ?_
    subst ev
    have hN2 := hN1.mono e2
    refine q_asgP (ep_callF (R := R_law_names) (NewNms 10) (P := NewNms 10 H2) (ea_cons (hN2.ix (ev_var (by rfl)) (ev_add (ev_var (by rfl)) ev_c) (by decide) (by decide)) (ea_cons ev_c ea_nil)) (fun H1 e1 => ⟨_, _, rfl, by decide, by decide, rfl⟩) fun H1 e1 v H2 e2 ⟨p, xs, ev, np, hp, h1, h2, h3⟩ => ⟨p, xs, ev, fresh_back e1 np, hp, h1, h2, h3⟩) fun v H3 e3 ⟨pn, nms, ev, npn, hpn, hnl, hnnd, hnok, _⟩ => ?_
    subst ev
    have hN3 := hN2.mono e3
    have hwl' : (ws.length : Int) = mw := by omega
    have hpl' : (ps.length : Int) = mp := by omega
    -- links
    refine q_asgL (el_lst ea_nil (by decide)) fun pl H4 npl e4 hpl4 => ?_
    have e04 := e1.trans (e2.trans (e3.trans e4))
    obtain ⟨mk, hmk, hmk1⟩ : ∃ mk, nAt ns ((0 : Int) + 5).toNat % 11 = mk ∧ 0 ≤ mk ∧ mk ≤ 10 := ⟨_, rfl, by have := mod_b (nAt ns ((0 : Int) + 5).toNat) (show (0 : Int) < 11 by decide); omega⟩
    have hpw3 := e3 _ _ (e2 _ _ hpw)
    have hpp3 := e3 _ _ hpp
    have cnt : EvA (tCons (tOp (rI (fun _ j => 0 < j) fun i j => .int (i % j)) (tCB (fun xs H Q => (∃ i, xs = [.int i] ∧ Q (.int i) H) ∨ ∃ k, xs = [.bl k] ∧ Q (.int (if k then 1 else 0)) H) (tCons (tOp (rIxL K) (tVar 0) (tOp (rI0 fun i j => .int (i + j)) (tVar 1) (tC (.int 5)))) tNil)) (tC (.int 11))) tNil) [some (.ref a), some (.int 0), some (.ref pw), some (.ref pp), some (.ref pn), some (.ref pl), none, none, none, none, none, none, none, none, none, none] H4 [.int mk] := by
      have := ev_mod (ev_int (NumV.ix (K := K) (hN3.mono e4) (σ := [some (.ref a), some (.int 0), some (.ref pw), some (.ref pp), some (.ref pn), some (.ref pl), none, none, none, none, none, none, none, none, none, none]) (ev_var (i := 0) (by rfl)) (ev_add (ev_var (i := 1) (by rfl)) (ev_c (v := .int 5))) (by decide) (by decide))) (ev_c (v := .int 11)) (by decide)
      rw [hmk] at this
      exact ea_cons this ea_nil
    refine q_forR1 cnt ⟨hmk1.1, by omega⟩ (fun i σ' H' => (∃ x6 x7 x8 x9 x10 x11 x12, σ' = [some (.ref a), some (.int 0), some (.ref pw), some (.ref pp), some (.ref pn), some (.ref pl), x6, x7, x8, x9, x10, x11, x12, none, none, none]) ∧ Ex H3 H' ∧ ∃ acc lk, H' pl = some (.lst acc) ∧ DtA H' acc ((lk : List Lnk).map lnkD) ∧ lk.length = i ∧ (∀ l ∈ lk, LnkOk ws ps l) ∧ ∀ (j : Nat) (l : Lnk), lk[j]? = some l → nms[j]? = some l.nm) (fun H5 e5 => ⟨⟨_, _, _, _, _, _, _, rfl⟩, e4.trans e5, [], [], e5 _ _ hpl4, .nil, rfl, fun l hl => (by cases hl), fun j l hl => (by simp at hl)⟩) (fun i σ' H' hi h => ?_) (fun σ' H' h => ?_)
    · obtain ⟨⟨x6, x7, x8, x9, x10, x11, x12, rfl⟩, eH, acc, lk, hacc, hdA, hlkl, hlok, hlnm⟩ := h
      have hi9 : i ≤ 9 := by omega
      have hNk := hN3.mono eH
      have hppk := eH _ _ hpp3
      have hpwk := eH _ _ hpw3
      have hpnk := eH _ _ hpn
      refine q_asgP (ep_ev (ev_add (ev_add (ev_var (by rfl)) ev_c) (ev_mul ev_c (ev_var (by rfl)) (cmul_l (by decide))))) fun v H5 e5 ev => ?_
      subst ev
      obtain ⟨sp, hsp, hsp1⟩ : ∃ sp, (0 : Int) + 6 + 8 * (i : Int) = sp ∧ 6 ≤ sp ∧ sp ≤ 78 := ⟨_, rfl, by omega⟩
      rw [hsp]
      refine q_asgP (ep_ev (ev_mod (ev_int (NumV.ix (hNk.mono e5) (ev_var (by rfl)) (ev_var (by rfl)) (by omega) (by omega))) (ev_lenS (K := K) (n := mp) (ev_var (by rfl)) (e5 _ _ hppk) hpl') (by omega))) fun v H6 e6 ev => ?_
      subst ev
      have e56 := e5.trans e6
      obtain ⟨ni, hni⟩ : ∃ x, nAt ns sp.toNat = x := ⟨_, rfl⟩
      rw [hni]
      refine q_asgP (ep_ev (ev_mod (ev_int (ev_add (ev_add (i := ni % mp) (ev_var (by rfl)) ev_c) (ev_mod (ev_int (NumV.ix (hNk.mono e56) (ev_var (by rfl)) (ev_add (i := sp) (ev_var (by rfl)) ev_c) (by omega) (by omega))) (ev_sub (ev_lenS (K := K) (n := mp) (ev_var (by rfl)) (e56 _ _ hppk) hpl') ev_c) (by omega)))) (ev_lenS (K := K) (n := mp) (ev_var (by rfl)) (e56 _ _ hppk) hpl') (by omega))) fun v H7 e7 ev => ?_
      subst ev
      obtain ⟨nj, hnj⟩ : ∃ x, nAt ns (sp + 1).toNat = x := ⟨_, rfl⟩
      rw [hnj]
      have hone := mod_b ni (show 0 < mp by omega)
      have hoth := mod_b (ni % mp + 1 + nj % (mp - 1)) (show 0 < mp by omega)
      have hne := ends_ne ni nj mp (by omega)
      obtain ⟨one, ho⟩ : ∃ x, ni % mp = x := ⟨_, rfl⟩
      rw [ho] at hone hoth hne ⊢
      obtain ⟨oth, hot⟩ : ∃ x, (one + 1 + nj % (mp - 1)) % mp = x := ⟨_, rfl⟩
      rw [hot] at hoth hne ⊢
      refine q_asgL (el_lst ea_nil (by decide)) fun pt H8 npt e8 hpt => ?_
      have eH8 := eH.trans (e56.trans (e7.trans e8))
      have e5678 := e56.trans (e7.trans e8)
      have hacc8 := e5678 _ _ hacc
      have hdA8 := hdA.mono e5678
      have hplt : pl ≠ pt := ne_of_none ((e56.trans e7) _ _ hacc) npt
      have npt3 : H3 pt = none := fresh_back (eH.trans (e56.trans e7)) npt
      have cnt2 : ∀ x11 x12, EvA (tCons (tCB (fun xs H Q => ∃ p ys, xs = [V.ref p] ∧ (SqL K H p ys ∨ SqT K H p ys) ∧ Q (.int ys.length) H) (tCons (tVar 2) tNil)) tNil) [some (.ref a), some (.int 0), some (.ref pw), some (.ref pp), some (.ref pn), some (.ref pl), some (.int (i : Int)), some (.int sp), some (.int one), some (.int oth), some (.ref pt), x11, x12, none, none, none] H8 [.int mw] := fun x11 x12 => ea_cons (ev_lenS (K := K) (n := mw) (ev_var (by rfl)) (e5678 _ _ hpwk) hwl') ea_nil
      refine q_forR1 (cnt2 _ _) ⟨by omega, by omega⟩ (fun j σ' H' => (∃ x11 x12, σ' = [some (.ref a), some (.int 0), some (.ref pw), some (.ref pp), some (.ref pn), some (.ref pl), some (.int (i : Int)), some (.int sp), some (.int one), some (.int oth), some (.ref pt), x11, x12, none, none, none]) ∧ Ex H3 H' ∧ H' pl = some (.lst acc) ∧ DtA H' acc (lk.map lnkD) ∧ ∃ tacc tl, H' pt = some (.lst tacc) ∧ DtA H' tacc ((tl : Tms).map paD) ∧ tl.length = j ∧ ∀ q : Int × Int, some q ∈ tl → 1 ≤ q.1 ∧ q.1 ≤ q.2 ∧ q.2 ≤ 1000) (fun H9 e9 => ⟨⟨_, _, rfl⟩, eH8.trans e9, e9 _ _ hacc8, hdA8.mono e9, [], [], e9 _ _ hpt, .nil, rfl, fun q hq => (by cases hq)⟩) (fun j σ' H' hj h => ?_) (fun σ' H' h => ?_)
      · obtain ⟨⟨x11, x12, rfl⟩, eHj, haccj, hdAj, tacc, tl, htacc, htd, htl, htok⟩ := h
        have hNj := hN3.mono eHj
        have hj2 : (j : Int) ≤ 2 := by omega
        have ntp : ∀ {H9 : Hp}, Ex H' H9 → NoTup (H9 pt) := fun e => by rw [e _ _ htacc]; trivial
        have nlk : noLs (lk.map lnkD) = true := by
          rw [noLs_all]
          intro y hy
          obtain ⟨l, _, rfl⟩ := List.mem_map.mp hy
          exact noL_lnk l
        have ntl : noLs (tl.map paD) = true := by
          rw [noLs_all]
          intro y hy
          obtain ⟨l, _, rfl⟩ := List.mem_map.mp hy
          exact noL_pa l
        have fin : ∀ (o : Option (Int × Int)) (v : V) (H9 : Hp), Ex H' H9 → Dt H9 v (paD o) → (∀ q, o = some q → 1 ≤ q.1 ∧ q.1 ≤ q.2 ∧ q.2 ≤ 1000) → Ex H3 (upd H9 pt (.lst (tacc ++ [v]))) ∧ (upd H9 pt (.lst (tacc ++ [v]))) pl = some (.lst acc) ∧ DtA (upd H9 pt (.lst (tacc ++ [v]))) acc (lk.map lnkD) ∧ ∃ tacc' tl', (upd H9 pt (.lst (tacc ++ [v]))) pt = some (.lst tacc') ∧ DtA (upd H9 pt (.lst (tacc ++ [v]))) tacc' ((tl' : Tms).map paD) ∧ tl'.length = j + 1 ∧ ∀ q : Int × Int, some q ∈ tl' → 1 ≤ q.1 ∧ q.1 ≤ q.2 ∧ q.2 ≤ 1000 := fun o v H9 e9 hv ho => by
          refine ⟨Ex.mut (eHj.trans e9) npt3, by rw [upd_ne hplt]; exact e9 _ _ haccj, DtA.upd (ntp e9) nlk (hdAj.mono e9), tacc ++ [v], tl ++ [o], upd_same, ?_, by simp [htl], fun q hq => ?_⟩
          · rw [List.map_append]
            exact DtA.snoc (DtA.upd (ntp e9) ntl (htd.mono e9)) (Dt.upd (ntp e9) (noL_pa o) hv)
          · rcases List.mem_append.mp hq with z | z
            · exact htok q z
            · exact ho q (List.mem_singleton.mp z).symm
        have hidx2 : 0 ≤ sp + 2 + (j : Int) ∧ sp + 2 + (j : Int) < 170 := by omega
        refine r_if (et_test (ev_eqI (ev_mod (ev_int (NumV.ix hNj (ev_var (by rfl)) (ev_add (ev_add (i := sp) (ev_var (by rfl)) ev_c) (ev_var (by rfl))) hidx2.1 hidx2.2)) ev_c (by decide)) ev_c)) (fun _ H9 e9 => ?_) (fun _ H9 e9 => ?_)
        · refine s_appendP (P := fun v _ => v = .non) (ev_var (by rfl)) (e9 _ _ htacc) (by rw [htd.map_len]; omega) (ep_ev ev_c) fun v H10 e10 ev => ?_
          subst ev
          exact gn ⟨⟨_, _, rfl⟩, fin none .non H10 (e9.trans e10) .non (fun q hq => by cases hq)⟩
        · refine q_asgP (ep_ev (ev_add ev_c (ev_mod (ev_int (NumV.ix (hNj.mono e9) (ev_var (by rfl)) (ev_add (ev_add (i := sp) (ev_var (by rfl)) ev_c) (ev_var (by rfl))) hidx2.1 hidx2.2)) ev_c (by decide)))) fun v H10 e10 ev => ?_
          subst ev
          have b1 := mod_b (nAt ns (sp + 2 + (j : Int)).toNat) (show (0 : Int) < 9 by decide)
          have b2 := mod_b (nAt ns (sp + 5 + (j : Int)).toNat) (show (0 : Int) < 7 by decide)
          obtain ⟨lst, hlst⟩ : ∃ x, 1 + nAt ns (sp + 2 + (j : Int)).toNat % 9 = x := ⟨_, rfl⟩
          rw [hlst]
          refine s_appendP (P := fun v H' => Dt H' v (paD (some (lst, lst + nAt ns (sp + 5 + (j : Int)).toNat % 7)))) (ev_var (by rfl)) (e10 _ _ (e9 _ _ htacc)) (by rw [htd.map_len]; omega) (ed_tup (ead_cons (ed_int (ev_var (by rfl))) (ead_cons (ed_int (ev_add (i := lst) (ev_var (by rfl)) (ev_mod (ev_int (NumV.ix (hNj.mono (e9.trans e10)) (ev_var (by rfl)) (ev_add (ev_add (i := sp) (ev_var (by rfl)) ev_c) (ev_var (by rfl))) (by omega) (by omega))) ev_c (by decide)))) ead_nil)) (by simp)) fun v H11 e11 hv => ?_
          exact gn ⟨⟨_, _, rfl⟩, fin _ v H11 (e9.trans (e10.trans e11)) hv (fun q hq => by cases hq; exact ⟨by show 1 ≤ lst; omega, by show lst ≤ _; omega, by show lst + _ ≤ 1000; omega⟩)⟩
      · obtain ⟨⟨x11, x12, rfl⟩, eHj, haccj, hdAj, tacc, tl, htacc, htd, htl, htok⟩ := h
        have htlw : tl.length = ws.length := by omega
        have hppj := eHj _ _ hpp3
        have hpnj := eHj _ _ hpn
        obtain ⟨z1, hz1, rv1⟩ := list_ix (K := K) (i := one) (SqL.of hppj) hone.1 (by omega)
        obtain ⟨z2, hz2, rv2⟩ := list_ix (K := K) (i := oth) (SqL.of hppj) hoth.1 (by omega)
        obtain ⟨z0, hz0, rv0⟩ := list_ix (K := K) (i := (i : Int)) (SqL.of hpnj) (by omega) (by omega)
        rw [Int.toNat_natCast] at hz0
        have hzne : z1 ≠ z2 := nodup_ix hpnd hz1 hz2 (by omega)
        have lok : LnkOk ws ps ⟨z0, z1, z2, tl⟩ := ⟨hnok z0 (List.mem_of_getElem? hz0), ⟨List.mem_of_getElem? hz1, List.mem_of_getElem? hz2, hzne⟩, htlw, htok⟩
        refine s_appendP (P := fun v H' => Dt H' v (lnkD ⟨z0, z1, z2, tl⟩)) (ev_var (by rfl)) haccj (by rw [hdAj.map_len]; omega) (ed_tup (ead_cons (ed_str (ev_op (ev_var (by rfl)) (ev_var (by rfl)) rv0)) (ead_cons (ed_str (ev_op (ev_var (by rfl)) (ev_var (by rfl)) rv1)) (ead_cons (ed_str (ev_op (ev_var (by rfl)) (ev_var (by rfl)) rv2)) (ead_cons (ed_tupL ((ep_ev (ev_var (by rfl))).imp fun v H9 e9 ev => ⟨pt, tacc, ev, e9 _ _ htacc, htd.mono e9⟩)) ead_nil)))) (by simp)) fun v H9 e9 hv => ?_
        have nlk : noLs (lk.map lnkD) = true := by
          rw [noLs_all]
          intro y hy
          obtain ⟨l, _, rfl⟩ := List.mem_map.mp hy
          exact noL_lnk l
        have ntp : NoTup (H9 pl) := by rw [e9 _ _ haccj]; trivial
        refine gn ⟨⟨_, _, _, _, _, _, _, rfl⟩, Ex.mut (eHj.trans e9) npl, acc ++ [v], lk ++ [⟨z0, z1, z2, tl⟩], upd_same, ?_, by simp [hlkl], fun l hl => ?_, fun m l hl => ?_⟩
        · rw [List.map_append]
          exact DtA.snoc (DtA.upd ntp nlk (hdAj.mono e9)) (Dt.upd ntp (noL_lnk _) hv)
        · rcases List.mem_append.mp hl with z | z
          · exact hlok l z
          · rw [List.mem_singleton.mp z]; exact lok
        · by_cases hm : m < lk.length
          · rw [List.getElem?_append_left hm] at hl
            exact hlnm m l hl
          · rw [List.getElem?_append_right (by omega)] at hl
            have hm2 : m - lk.length = 0 := by
              have := (List.getElem?_eq_some_iff.mp hl).1
              simp at this
              omega
            rw [hm2] at hl
            have hl := (Option.some.inj hl).symm
            subst hl
            have hmi : m = i := by omega
            rw [hmi]
            exact hz0
    · obtain ⟨⟨x6, x7, x8, x9, x10, x11, x12, rfl⟩, eH, acc, lk, hacc, hdA, hlkl, hlok, hlnm⟩ := h
      -- paths
      refine q_asgL (el_lst ea_nil (by decide)) fun pq H5 npq e5 hpq => ?_
      have eH5 := eH.trans e5
      obtain ⟨mq, hmq, hmq1⟩ : ∃ mq, nAt ns ((0 : Int) + 88).toNat % 7 = mq ∧ 0 ≤ mq ∧ mq ≤ 6 := ⟨_, rfl, by have := mod_b (nAt ns ((0 : Int) + 88).toNat) (show (0 : Int) < 7 by decide); omega⟩
      have cnt3 : EvA (tCons (tOp (rI (fun _ j => 0 < j) fun i j => .int (i % j)) (tCB (fun xs H Q => (∃ i, xs = [.int i] ∧ Q (.int i) H) ∨ ∃ k, xs = [.bl k] ∧ Q (.int (if k then 1 else 0)) H) (tCons (tOp (rIxL K) (tVar 0) (tOp (rI0 fun i j => .int (i + j)) (tVar 1) (tC (.int 88)))) tNil)) (tC (.int 7))) tNil) [some (.ref a), some (.int 0), some (.ref pw), some (.ref pp), some (.ref pn), some (.ref pl), x6, x7, x8, x9, x10, x11, x12, some (.ref pq), none, none] H5 [.int mq] := by
        have := ev_mod (ev_int (NumV.ix (K := K) (hN3.mono eH5) (σ := [some (.ref a), some (.int 0), some (.ref pw), some (.ref pp), some (.ref pn), some (.ref pl), x6, x7, x8, x9, x10, x11, x12, some (.ref pq), none, none]) (ev_var (i := 0) (by rfl)) (ev_add (ev_var (i := 1) (by rfl)) (ev_c (v := .int 88))) (by decide) (by decide))) (ev_c (v := .int 7)) (by decide)
        rw [hmq] at this
        exact ea_cons this ea_nil
      refine q_forR1 cnt3 ⟨hmq1.1, by omega⟩ (fun i σ' H'' => (∃ x6 x7 x8 x9 x10 x11 x12 x14 x15, σ' = [some (.ref a), some (.int 0), some (.ref pw), some (.ref pp), some (.ref pn), some (.ref pl), x6, x7, x8, x9, x10, x11, x12, some (.ref pq), x14, x15]) ∧ Ex H' H'' ∧ ∃ pacc pths, H'' pq = some (.lst pacc) ∧ DtA H'' pacc ((pths : List (Str × Str × Int)).map pathD) ∧ pths.length ≤ i ∧
        (∀ p ∈ pths, p.1 ∈ ps ∧ p.2.1 ∈ ps ∧ p.1 ≠ p.2.1 ∧ 1 ≤ p.2.2 ∧ p.2.2 ≤ 1000) ∧ pths.Pairwise fun p q => ¬ (p.1 = q.1 ∧ p.2.1 = q.2.1) ∧ ¬ (p.1 = q.2.1 ∧ p.2.1 = q.1)) (fun H6 e6 => ⟨⟨_, _, _, _, _, _, _, _, _, rfl⟩, e5.trans e6, [], [], e6 _ _ hpq, .nil, Nat.le_refl _, fun p hp => (by cases hp), .nil⟩) (fun i σ' H'' hi h => ?_) (fun σ' H'' h => ?_)
      · obtain ⟨⟨y6, y7, y8, y9, y10, y11, y12, y14, y15, rfl⟩, eP, pacc, pths, hpacc, hpd, hpln, hpok2, hppw⟩ := h
        have hi5 : i ≤ 5 := by omega
        have e3P := eH.trans eP
        have hNk := hN3.mono e3P
        have hppk := e3P _ _ hpp3
        have hx1 : 0 ≤ (0 : Int) + 89 + 3 * (i : Int) ∧ (0 : Int) + 89 + 3 * (i : Int) < 170 := by omega
        have hx2 : 0 ≤ (0 : Int) + 90 + 3 * (i : Int) ∧ (0 : Int) + 90 + 3 * (i : Int) < 170 := by omega
        have hx3 : 0 ≤ (0 : Int) + 91 + 3 * (i : Int) ∧ (0 : Int) + 91 + 3 * (i : Int) < 170 := by omega
        refine q_asgP (ep_ev (ev_mod (ev_int (NumV.ix hNk (ev_var (by rfl)) (ev_add (ev_add (ev_var (by rfl)) ev_c) (ev_mul ev_c (ev_var (by rfl)) (cmul_l (by decide)))) hx1.1 hx1.2)) (ev_lenS (K := K) (n := mp) (ev_var (by rfl)) hppk hpl') (by omega))) fun v H6 e6 ev => ?_
        subst ev
        obtain ⟨ni, hni⟩ : ∃ x, nAt ns ((0 : Int) + 89 + 3 * (i : Int)).toNat = x := ⟨_, rfl⟩
        rw [hni]
        refine q_asgP (ep_ev (ev_mod (ev_int (ev_add (ev_add (i := ni % mp) (ev_var (by rfl)) ev_c) (ev_mod (ev_int (NumV.ix (hNk.mono e6) (ev_var (by rfl)) (ev_add (ev_add (ev_var (by rfl)) ev_c) (ev_mul ev_c (ev_var (by rfl)) (cmul_l (by decide)))) hx2.1 hx2.2)) (ev_sub (ev_lenS (K := K) (n := mp) (ev_var (by rfl)) (e6 _ _ hppk) hpl') ev_c) (by omega)))) (ev_lenS (K := K) (n := mp) (ev_var (by rfl)) (e6 _ _ hppk) hpl') (by omega))) fun v H7 e7 ev => ?_
        subst ev
        obtain ⟨nj, hnj⟩ : ∃ x, nAt ns ((0 : Int) + 90 + 3 * (i : Int)).toNat = x := ⟨_, rfl⟩
        rw [hnj]
        have hone := mod_b ni (show 0 < mp by omega)
        have hoth := mod_b (ni % mp + 1 + nj % (mp - 1)) (show 0 < mp by omega)
        have hne := ends_ne ni nj mp (by omega)
        obtain ⟨one, ho⟩ : ∃ x, ni % mp = x := ⟨_, rfl⟩
        rw [ho] at hone hoth hne ⊢
        obtain ⟨oth, hot⟩ : ∃ x, (one + 1 + nj % (mp - 1)) % mp = x := ⟨_, rfl⟩
        rw [hot] at hoth hne ⊢
        have e67 := e6.trans e7
        have hpp7 := e67 _ _ hppk
        obtain ⟨z1, hz1, rv1⟩ := list_ix (K := K) (i := one) (SqL.of hpp7) hone.1 (by omega)
        obtain ⟨z2, hz2, rv2⟩ := list_ix (K := K) (i := oth) (SqL.of hpp7) hoth.1 (by omega)
        have hzne : z1 ≠ z2 := nodup_ix hpnd hz1 hz2 (by omega)
        have hz1m := List.mem_of_getElem? hz1
        have hz2m := List.mem_of_getElem? hz2
        have hpd7 := hpd.mono e67
        have hpa7 := e67 _ _ hpacc
        obtain ⟨kp, hkp⟩ : ∃ kp : List (Str × Str), (pths.map fun p => (p.1, p.2.1)) ++ (pths.map fun p => (p.2.1, p.1)) = kp := ⟨_, rfl⟩
        refine q_asgP (P := fun v Hk => ∃ q ys, v = .ref q ∧ Hk q = some (.lst ys) ∧ DtA Hk ys (kp.map npD)) (fun H8 e8 Q8 q8 => ?_) fun v H8 e8 ⟨kq, kys, ev, hkq, hkd⟩ => ?_
        · refine ep_pairs (K := K) (i := 0) (b := true) (ev_var (by rfl)) (e8 _ _ hpa7) (hpd7.mono e8) (by omega) (fun _ => rfl) (fun _ => rfl) H8 (Ex.refl _) _ fun v1 H9 e9 ⟨q1, ys1, ev1, hq1, hd1⟩ => ?_
          refine ep_pairs (K := K) (i := 0) (b := false) (ev_var (by rfl)) (e9 _ _ (e8 _ _ hpa7)) ((hpd7.mono e8).mono e9) (by omega) (fun _ => rfl) (fun _ => rfl) H9 (Ex.refl _) _ fun v2 H10 e10 ⟨q2, ys2, ev2, hq2, hd2⟩ => ?_
          subst ev1 ev2
          have l1 := hd1.map_len
          have l2 := hd2.map_len
          rw [List.length_map] at l1 l2
          refine ⟨q1, q2, ys1, ys2, rfl, rfl, e10 _ _ hq1, hq2, sz_of (by omega), fun q3 n3 => q8 _ _ ((e9.trans e10).trans (Ex.new n3)) ⟨q3, _, rfl, upd_same, ?_⟩⟩
          rw [← hkp, List.map_append]
          exact DtA.append ((hd1.mono e10).mono (Ex.new n3)) (hd2.mono (Ex.new n3))
        subst ev
        have hkpok : ∀ q ∈ kp, PyData.strOk q.1 = true ∧ PyData.strOk q.2 = true := fun q hq => by
          rw [← hkp] at hq
          rcases List.mem_append.mp hq with z | z
          · obtain ⟨p, hp, rfl⟩ := List.mem_map.mp z
            exact ⟨nameOk_str (hpok _ (hpok2 p hp).1), nameOk_str (hpok _ (hpok2 p hp).2.1)⟩
          · obtain ⟨p, hp, rfl⟩ := List.mem_map.mp z
            exact ⟨nameOk_str (hpok _ (hpok2 p hp).2.1), nameOk_str (hpok _ (hpok2 p hp).1)⟩
        have tupE : ∀ {H9 : Hp} {y : Option V}, Ex H7 H9 → EvD (tTup (tCons (tOp (rIxL K) (tVar 3) (tVar 8)) (tCons (tOp (rIxL K) (tVar 3) (tVar 9)) tNil))) [some (.ref a), some (.int 0), some (.ref pw), some (.ref pp), some (.ref pn), some (.ref pl), some (.int (i : Int)), y7, some (.int one), some (.int oth), y10, y11, y12, some (.ref pq), some (.ref kq), y] H9 (npD (z1, z2)) := fun {H9 y} e9 => ed_tup (ead_cons (ed_str (ev_op (ev_var (by rfl)) (ev_var (by rfl)) fun H1 e1 Q1 q1 => rv1 H1 (e9.trans e1) Q1 q1)) (ead_cons (ed_str (ev_op (ev_var (by rfl)) (ev_var (by rfl)) fun H1 e1 Q1 q1 => rv2 H1 (e9.trans e1) Q1 q1)) ead_nil)) (by simp)
        refine r_if (c := !decide ((z1, z2) ∈ kp)) (et_is (et_notInD (d := npD (z1, z2)) (ds := kp.map npD) (tupE e8) (ev_var (by rfl)) (.lst hkq hkd) (np_shaped ⟨nameOk_str (hpok _ hz1m), nameOk_str (hpok _ hz2m)⟩) (nps_shaped hkpok)) (by rw [known_any])) (fun c H9 e9 => ?_) (fun c H9 e9 => ?_)
        · have hnk : (z1, z2) ∉ kp := by simpa using c
          have b3 := mod_b (nAt ns ((0 : Int) + 91 + 3 * (i : Int)).toNat) (show (0 : Int) < 9 by decide)
          obtain ⟨mn, hmn⟩ : ∃ x, 1 + nAt ns ((0 : Int) + 91 + 3 * (i : Int)).toNat % 9 = x := ⟨_, rfl⟩
          have e789 := e67.trans (e8.trans e9)
          have hexp := ev_add (ev_c (v := .int 1)) (ev_mod (ev_int (NumV.ix (K := K) (hNk.mono e789) (σ := [some (.ref a), some (.int 0), some (.ref pw), some (.ref pp), some (.ref pn), some (.ref pl), some (.int (i : Int)), y7, some (.int one), some (.int oth), y10, y11, y12, some (.ref pq), some (.ref kq), y15]) (ev_var (i := 0) (by rfl)) (ev_add (ev_add (ev_var (i := 1) (by rfl)) (ev_c (v := .int 91))) (ev_mul (ev_c (v := .int 3)) (ev_var (i := 6) (by rfl)) (cmul_l (by decide)))) hx3.1 hx3.2)) (ev_c (v := .int 9)) (by decide))
          rw [hmn] at hexp
          refine s_appendP (P := fun v Hv => Dt Hv v (pathD (z1, z2, mn))) (ev_var (by rfl)) (e9 _ _ (e8 _ _ hpa7)) (by rw [hpd.map_len]; omega) (ed_tup (ead_cons (ed_str (ev_op (ev_var (by rfl)) (ev_var (by rfl)) fun H1 e1 Q1 q1 => rv1 H1 ((e8.trans e9).trans e1) Q1 q1)) (ead_cons (ed_str (ev_op (ev_var (by rfl)) (ev_var (by rfl)) fun H1 e1 Q1 q1 => rv2 H1 ((e8.trans e9).trans e1) Q1 q1)) (ead_cons (ed_int hexp) ead_nil))) (by simp)) fun v H10 e10 hv => ?_
          have eAll := e789.trans e10
          have ntp : NoTup (H10 pq) := by rw [eAll _ _ hpacc]; trivial
          have npl2 : noLs (pths.map pathD) = true := by
            rw [noLs_all]
            intro y hy
            obtain ⟨l, _, rfl⟩ := List.mem_map.mp hy
            exact noL_path l
          refine ⟨⟨_, _, _, _, _, _, _, _, _, rfl⟩, Ex.mut (eP.trans eAll) npq, pacc ++ [v], pths ++ [(z1, z2, mn)], upd_same, ?_, by simp; omega, fun p hp => ?_, ?_⟩
          · rw [List.map_append]
            exact DtA.snoc (DtA.upd ntp npl2 (hpd.mono eAll)) (Dt.upd ntp (noL_path _) hv)
          · rcases List.mem_append.mp hp with z | z
            · exact hpok2 p z
            · rw [List.mem_singleton.mp z]
              exact ⟨hz1m, hz2m, hzne, by show 1 ≤ mn; omega, by show mn ≤ 1000; omega⟩
          · rw [List.pairwise_append]
            refine ⟨hppw, by simp, fun p hp q hq => ?_⟩
            rw [List.mem_singleton.mp hq]
            rw [← hkp] at hnk
            simp only [List.mem_append, List.mem_map, not_or, not_exists, not_and, Prod.mk.injEq] at hnk
            exact ⟨fun e => hnk.1 p hp e.1 e.2, fun e => hnk.2 p hp e.2 e.1⟩
        · exact gn ⟨⟨_, _, _, _, _, _, _, _, _, rfl⟩, eP.trans (e67.trans (e8.trans e9)), pacc, pths, e9 _ _ (e8 _ _ hpa7), hpd7.mono (e8.trans e9), by omega, hpok2, hppw⟩
      · obtain ⟨⟨y6, y7, y8, y9, y10, y11, y12, y14, y15, rfl⟩, eP, pacc, pths, hpacc, hpd, hpln, hpok2, hppw⟩ := h
        have e3P := eH.trans eP
        have hpw9 := e3P _ _ hpw3
        have hpp9 := e3P _ _ hpp3
        have hpl9 := eP _ _ hacc
        have hld9 := hdA.mono eP
        refine s_retP (P := fun v Hv => (∃ p, v = .ref p ∧ H p = none) ∧ PartsV Hv v ⟨ws, ps, lk, pths⟩) (fun H6 e6 Q6 q6 => ?_) fun v H6 e6 ⟨hvp, hv⟩ => q v H6 ((e1.trans (e2.trans e3)).trans (e3P.trans e6)) ⟨hvp, _, hv, ?_⟩
        · refine eap_p (P := fun v Hv => ∃ b, v = .ref b ∧ PlT Hv b (ws.map V.str)) ((ep_tupL (ds := ws.map .str) ((ep_ev (ev_var (by rfl))).imp fun v H7 e7 ev => ⟨pw, ws.map V.str, ev, e7 _ _ hpw9, DtA.of_strs ws⟩)).imp fun v H7 e7 ⟨b, ys, ev, hpl, hd⟩ => ⟨b, ev, by rw [← hd.strs]; exact hpl⟩)
            (eap_p (P := fun v Hv => Dt Hv v (.tuple (ps.map .str))) (ed_tupL ((ep_ev (ev_var (by rfl))).imp fun v H7 e7 ev => ⟨pp, ps.map V.str, ev, e7 _ _ hpp9, DtA.of_strs ps⟩))
            (eap_p (P := fun v Hv => Dt Hv v (.tuple (lk.map lnkD))) (ed_tupL ((ep_ev (ev_var (by rfl))).imp fun v H7 e7 ev => ⟨pl, acc, ev, e7 _ _ hpl9, hld9.mono e7⟩))
            (eap_p (P := fun v Hv => Dt Hv v (.tuple (pths.map pathD))) (ed_tupL ((ep_ev (ev_var (by rfl))).imp fun v H7 e7 ev => ⟨pq, pacc, ev, e7 _ _ hpacc, hpd.mono e7⟩)) eap_nil (fun v H1 H2 e h => h.mono e)) (fun v H1 H2 e h => h.mono e)) (fun v H1 H2 e h => h.mono e)) (fun v H1 H2 e ⟨b, ev, h⟩ => ⟨b, ev, h.mono e⟩) H6 e6 _ fun vs H7 e7 ⟨v1, r1, ev1, ⟨b, eb, hb⟩, v2, r2, ev2, h2, v3, r3, ev3, h3, v4, r4, ev4, h4, ev5⟩ => ?_
          subst ev5 ev4 ev3 ev2 ev1 eb
          refine ⟨sz_of (by simp), fun p np => q6 _ _ (e7.trans (Ex.new np)) ⟨⟨p, rfl, fresh_back ((((e1.trans (e2.trans e3)).trans e3P).trans e6).trans e7) np⟩, ⟨p, b, v2, v3, v4, rfl, upd_same, hb.mono (Ex.new np), h2.mono (Ex.new np), h3.mono (Ex.new np), h4.mono (Ex.new np)⟩⟩⟩
        · refine ⟨⟨⟨by show 1 ≤ ws.length; omega, by show ws.length ≤ 4; omega⟩, hwok, hwnd, ⟨by show 1 ≤ ps.length; omega, by show ps.length ≤ 24; omega⟩, hpok, hpnd, by show lk.length ≤ 60; omega, fun l hl => (hlok l hl).n, fun l hl => (hlok l hl).e, fun l hl => ⟨(hlok l hl).t, (hlok l hl).q⟩, ?_, by show pths.length ≤ 60; omega, hpok2, hppw⟩, by show ws.length ≤ 3; omega, ⟨by show 2 ≤ ps.length; omega, by show ps.length ≤ 7; omega⟩, by show lk.length ≤ 10; omega, hptw⟩
          show (lk.map (·.nm)).Nodup
          unfold List.Nodup
          rw [List.pairwise_iff_getElem]
          intro x y hx hy hxy
          rw [List.getElem_map, List.getElem_map]
          rw [List.length_map] at hx hy
          have g1 := hlnm x _ (List.getElem?_eq_getElem hx)
          have g2 := hlnm y _ (List.getElem?_eq_getElem hy)
          exact nodup_ix hnnd g1 g2 (by omega)
end
end EF
set_option maxHeartbeats 4000000
namespace EF
open PySem PySem.Spec PyProof.Rows L2 Evl
section
variable {K : PySem.W.Frag} {σ : L2.St} {H : Hp} {ta tb tc : TE} {v : V} {L : Ld}
theorem PartsV.ix0 (h : PartsV H v L) (ha : Ev ta σ H v) : ∃ wa, PlT H wa (L.winds.map V.str) ∧ Ev (tOp (rIxL K) ta (tC (.int 0))) σ H (.ref wa) := by
  obtain ⟨a, wa, vp, vl, vt, rfl, h2, h3, h4, h5, h6⟩ := h.ex
  exact ⟨wa, h3, ev_op ha ev_c (rv_ixL (SqL.of h2) (atI_nat (j := 0) rfl))⟩
theorem PartsV.ix1 (h : PartsV H v L) (ha : Ev ta σ H v) : ∃ p, Rd H p (.tup (L.places.map V.str)) ∧ Ev (tOp (rIxL K) ta (tC (.int 1))) σ H (.ref p) := by
  obtain ⟨a, wa, vp, vl, vt, rfl, h2, h3, h4, h5, h6⟩ := h.ex
  obtain ⟨p, ps, rfl, hp, hd⟩ := h4.tup_at
  rw [hd.strs] at hp
  exact ⟨p, hp, ev_op ha ev_c (rv_ixL (SqL.of h2) (atI_nat (j := 1) rfl))⟩
theorem PartsV.ix2 (h : PartsV H v L) (ha : Ev ta σ H v) : ∃ p xs, Rd H p (.tup xs) ∧ DtA H xs (L.links.map lnkD) ∧ Ev (tOp (rIxL K) ta (tC (.int 2))) σ H (.ref p) := by
  obtain ⟨a, wa, vp, vl, vt, rfl, h2, h3, h4, h5, h6⟩ := h.ex
  obtain ⟨p, ps, rfl, hp, hd⟩ := h5.tup_at
  exact ⟨p, ps, hp, hd, ev_op ha ev_c (rv_ixL (SqL.of h2) (atI_nat (j := 2) rfl))⟩
theorem PartsV.ix3 (h : PartsV H v L) (ha : Ev ta σ H v) : ∃ u, Dt H u (.tuple (L.paths.map pathD)) ∧ Ev (tOp (rIxL K) ta (tC (.int 3))) σ H u := by
  obtain ⟨a, wa, vp, vl, vt, rfl, h2, h3, h4, h5, h6⟩ := h.ex
  exact ⟨vt, h6, ev_op ha ev_c (rv_ixL (SqL.of h2) (atI_nat (j := 3) rfl))⟩
theorem tup_ix {p : Addr} {xs : List Str} {i : Int} (hp : Rd H p (.tup (xs.map V.str))) (h0 : 0 ≤ i) (h1 : i < xs.length) : ∃ z, xs[i.toNat]? = some z ∧ RV (rIxT K) (.ref p) (.int i) H (.str z) := by
  obtain ⟨j, rfl⟩ : ∃ j : Nat, i = (j : Int) := ⟨i.toNat, by omega⟩
  have hj : j < xs.length := by omega
  refine ⟨xs[j], by rw [Int.toNat_natCast]; exact List.getElem?_eq_getElem hj, rv_ixT (.inl hp) (atI_nat ?_)⟩
  rw [List.getElem?_map, List.getElem?_eq_getElem hj]
  rfl
theorem ev_lenTS {p : Addr} {xs : List Str} (ha : Ev ta σ H (.ref p)) (hp : Rd H p (.tup (xs.map V.str))) : Ev (tCB (fun xs H Q => ∃ p ys, xs = [V.ref p] ∧ (SqL K H p ys ∨ SqT K H p ys) ∧ Q (.int ys.length) H) (tCons ta tNil)) σ H (.int (xs.length : Int)) := by
  have := ev_lenX (K := K) ha (.inr (.inl hp))
  rwa [List.length_map] at this
/-- one of the winds, by a number -/
theorem PartsV.wind (h : PartsV H v L) (hn : 1 ≤ L.winds.length) (ha : Ev ta σ H v) {tb : TE} {n : Int} (hb : Ev tb σ H (.int n)) : ∃ z, z ∈ L.winds ∧
    Ev (tOp (rIxT K) (tOp (rIxL K) ta (tC (.int 0))) (tOp (rI (fun _ j => 0 < j) fun i j => .int (i % j)) (tCB (fun xs H Q => (∃ i, xs = [.int i] ∧ Q (.int i) H) ∨ ∃ k, xs = [.bl k] ∧ Q (.int (if k then 1 else 0)) H) (tCons tb tNil)) (tCB (fun xs H Q => ∃ p ys, xs = [V.ref p] ∧ (SqL K H p ys ∨ SqT K H p ys) ∧ Q (.int ys.length) H) (tCons (tOp (rIxL K) ta (tC (.int 0))) tNil)))) σ H (.str z) := by
  obtain ⟨wa, hw, h0⟩ := h.ix0 (K := K) ha
  have hb2 := mod_b n (show (0 : Int) < (L.winds.length : Int) by omega)
  obtain ⟨z, hz, rv⟩ := tup_ix (K := K) hw.rd hb2.1 hb2.2
  exact ⟨z, List.mem_of_getElem? hz, ev_op h0 (ev_mod (ev_int hb) (ev_lenTS h0 hw.rd) (by omega)) rv⟩
theorem PartsV.place (h : PartsV H v L) (hn : 1 ≤ L.places.length) (ha : Ev ta σ H v) {tb : TE} {n : Int} (hb : Ev tb σ H (.int n)) : ∃ z, z ∈ L.places ∧
    Ev (tOp (rIxT K) (tOp (rIxL K) ta (tC (.int 1))) (tOp (rI (fun _ j => 0 < j) fun i j => .int (i % j)) (tCB (fun xs H Q => (∃ i, xs = [.int i] ∧ Q (.int i) H) ∨ ∃ k, xs = [.bl k] ∧ Q (.int (if k then 1 else 0)) H) (tCons tb tNil)) (tCB (fun xs H Q => ∃ p ys, xs = [V.ref p] ∧ (SqL K H p ys ∨ SqT K H p ys) ∧ Q (.int ys.length) H) (tCons (tOp (rIxL K) ta (tC (.int 1))) tNil)))) σ H (.str z) := by
  obtain ⟨wa, hw, h0⟩ := h.ix1 (K := K) ha
  have hb2 := mod_b n (show (0 : Int) < (L.places.length : Int) by omega)
  obtain ⟨z, hz, rv⟩ := tup_ix (K := K) hw hb2.1 hb2.2
  exact ⟨z, List.mem_of_getElem? hz, ev_op h0 (ev_mod (ev_int hb) (ev_lenTS h0 hw) (by omega)) rv⟩
end
theorem noLs_map {α : Type} {f : α → PyData} (h : ∀ a, noL (f a) = true) (l : List α) : noLs (l.map f) = true := by
  rw [noLs_all]
  intro y hy
  obtain ⟨a, _, rfl⟩ := List.mem_map.mp hy
  exact h a
section
variable {P : Program} {w : World} {K : PySem.W.Frag} {mg : Str → Option Value} {base : Heap}
def R_law_weather : List V → Hp → Post → Prop := fun vs H Po => ∃ a ns vp L, vs = [.ref a, .int 110, vp] ∧ NumV H a ns ∧ PartsV H vp L ∧ LawLd L ∧ Po = fun v H' => ∃ W, Dt H' v (weaD W) ∧ WeaOk L.winds W ∧ W.length ≤ 4 ∧ ∀ r ∈ W, r.1 ≤ 1000
theorem sc_law_weather : FnScope ["_law_numbers_here", "_law_at", "_law_parts_here", "_law_weather_here", "_law_k"] ["_law_numbers_here", "_law_at", "_law_parts_here"] (defScope s_law_weather) := ⟨rfl, rfl, rfl, by decide +kernel, rfl, by decide +kernel, by decide +kernel⟩
theorem ok_law_weather (S : Says K mg) : Fn P w K mg base 1 "_law_weather" ["_law_numbers_here", "_law_at", "_law_parts_here"] (spR R_law_weather) := by
  obtain ⟨fd, F⟩ := S.def_law_weather
  refine ⟨⟨_, fd, S.g_law_weather, F.kp, F.bindsN (fun _ _ _ _ _ _ us hl => match us, hl with | [_, _, _], _ => rfl), F.ok sc_law_weather (fun vs H Q E h => ?_) (fun cdv A outer s H vs Q E hr h => ?_)⟩⟩
  · obtain ⟨_, ⟨_, _, _, _, rfl, _⟩, _⟩ := h
    rfl
  · obtain ⟨_, ⟨a, ns, vp, L, rfl, hN, hP, hL, rfl⟩, q⟩ := h
    refine ⟨_, PSs.nox ((pss_cons (ps_set (i := 3) sc_law_weather.nd rfl (by first | exact Or.inl rfl | exact Or.inr rfl) (pe_lst (pa_cons (pe_tup (pa_cons pe_int (pa_cons (pe_ix ix_tup (pe_ix ix_list (pv 2) pe_int (fun _ _ => rfl)) (pe_op op_mod (pe_callTy call_int1 (by rfl) S.f_int (by decide +kernel) (pa_cons (pe_ix ix_list (pv 0) (pv 1) (fun _ _ => rfl)) pa_nil)) (pe_callB call_len_seq (by rfl) S.f_len PySem.boot_len (pa_cons (pe_ix ix_list (pv 2) pe_int (fun _ _ => rfl)) pa_nil))) (fun _ _ => rfl)) pa_nil))) pa_nil)))
    (pss_cons (ps_for PassesOwn.never rfl (pi_range1 rfl S.f_range (pa_cons (pe_op op_mod (pe_callTy call_int1 (by rfl) S.f_int (by decide +kernel) (pa_cons (pe_ix ix_list (pv 0) (pe_op op_add (pv 1) pe_int) (fun _ _ => rfl)) pa_nil)) pe_int) pa_nil)) (pg_name (i := 4) sc_law_weather.nd rfl (by first | exact Or.inl rfl | exact Or.inr rfl))
      (pss_one (ps_expr (pe_bm PySem.F.plainAttrs_list PySem.F.slot_list_append PySem.F.type_list_append mt_append (pv 3) (pa_cons (pe_tup (pa_cons (pe_op op_add (pe_op op_add (pe_ix ix_tup (pe_ix ix_list (pv 3) (pv 4) (fun _ _ => rfl)) pe_int (fun _ _ => rfl)) pe_int) (pe_op op_mod (pe_callTy call_int1 (by rfl) S.f_int (by decide +kernel) (pa_cons (pe_ix ix_list (pv 0) (pe_op op_add (pe_op op_add (pv 1) pe_int) (pv 4)) (fun _ _ => rfl)) pa_nil)) pe_int)) (pa_cons (pe_ix ix_tup (pe_ix ix_list (pv 2) pe_int (fun _ _ => rfl)) (pe_op op_mod (pe_callTy call_int1 (by rfl) S.f_int (by decide +kernel) (pa_cons (pe_ix ix_list (pv 0) (pe_op op_add (pe_op op_add (pv 1) pe_int) (pv 4)) (fun _ _ => rfl)) pa_nil)) (pe_callB call_len_seq (by rfl) S.f_len PySem.boot_len (pa_cons (pe_ix ix_list (pv 2) pe_int (fun _ _ => rfl)) pa_nil))) (fun _ _ => rfl)) pa_nil))) pa_nil)))))
    (pss_one (ps_ret (pv 3)))))), ?_⟩
    have hw1 := hL.ok.w1.1
    obtain ⟨z0, hz0, ev0⟩ := hP.wind (K := K) (σ := [some (.ref a), some (.int 110), some vp, none, none]) hw1 (ev_var (i := 2) (by rfl)) (hN.ix (K := K) (ev_var (i := 0) (by rfl)) (ev_var (i := 1) (v := .int 110) (by rfl)) (by decide) (by decide))
    refine q_asgP (ep_lstD (ead_cons (ed_tup (ead_cons (ed_int ev_c) (ead_cons (ed_str ev0) ead_nil)) (by simp)) ead_nil) (by simp)) fun v H1 e1 ⟨p, ys, ev, np, hp, hd⟩ => ?_
    subst ev
    obtain ⟨mk, hmk, hmk1⟩ : ∃ mk, nAt ns ((110 : Int) + 1).toNat % 4 = mk ∧ 0 ≤ mk ∧ mk ≤ 3 := ⟨_, rfl, by have := mod_b (nAt ns ((110 : Int) + 1).toNat) (show (0 : Int) < 4 by decide); omega⟩
    have cnt := ev_mod (ev_int (NumV.ix (K := K) (hN.mono e1) (σ := [some (.ref a), some (.int 110), some vp, some (.ref p), none]) (ev_var (i := 0) (by rfl)) (ev_add (ev_var (i := 1) (by rfl)) (ev_c (v := .int 1))) (by decide) (by decide))) (ev_c (v := .int 4)) (by decide)
    rw [hmk] at cnt
    refine q_forR1 (ea_cons cnt ea_nil) ⟨hmk1.1, by omega⟩ (fun i σ' H' => (∃ x4, σ' = [some (.ref a), some (.int 110), some vp, some (.ref p), x4]) ∧ Ex H H' ∧ ∃ acc W, H' p = some (.lst acc) ∧ DtA H' acc ((W : Wea).map prD) ∧ W.length = i + 1 ∧ (∃ r, W = (0, z0) :: r) ∧ W.Pairwise (fun a b => a.1 < b.1) ∧ (∀ r ∈ W, r.2 ∈ L.winds ∧ r.1 ≤ 13 * (i : Int)) ∧ ∀ r ∈ W, ∀ s, W[i]? = some s → r.1 ≤ s.1) (fun H2 e2 => ⟨⟨_, rfl⟩, e1.trans e2, ys, [(0, z0)], e2 _ _ hp, hd.mono e2, rfl, ⟨[], rfl⟩, by simp, fun r hr => by rw [List.mem_singleton.mp hr]; exact ⟨hz0, by simp⟩, fun r hr s hs => by rw [List.mem_singleton.mp hr]; cases hs; exact Int.le_refl _⟩) (fun i σ' H' hi h => ?_) (fun σ' H' h => ?_)
    · obtain ⟨⟨x4, rfl⟩, eH, acc, W, hacc, hdA, hWl, hW0, hWp, hWm, hWx⟩ := h
      have hi2 : i ≤ 2 := by omega
      have hNk := hN.mono eH
      have hPk := hP.mono eH
      obtain ⟨r, hr1⟩ : ∃ r, W[i]? = some r := ⟨_, List.getElem?_eq_getElem (by omega)⟩
      obtain ⟨xr, hxr⟩ : ∃ x, acc[i]? = some x := ⟨_, List.getElem?_eq_getElem (by rw [hdA.map_len]; omega)⟩
      obtain ⟨b, rfl, hb⟩ := dt_pr (hdA.map_at hxr hr1)
      obtain ⟨z, hz, evz⟩ := hPk.wind (K := K) (σ := [some (.ref a), some (.int 110), some vp, some (.ref p), some (.int (i : Int))]) hw1 (ev_var (i := 2) (by rfl)) (hNk.ix (K := K) (ev_var (i := 0) (by rfl)) (ev_add (ev_add (ev_var (i := 1) (v := .int 110) (by rfl)) (ev_c (v := .int 5))) (ev_var (i := 4) (by rfl))) (by omega) (by omega))
      have b1 := mod_b (nAt ns ((110 : Int) + 2 + (i : Int)).toNat) (show (0 : Int) < 12 by decide)
      refine s_appendP (P := fun v H' => Dt H' v (prD (r.1 + 1 + nAt ns ((110 : Int) + 2 + (i : Int)).toNat % 12, z))) (ev_var (by rfl)) hacc (by rw [hdA.map_len]; omega) (ed_tup (ead_cons (ed_int (ev_add (ev_add (ev_op (ev_op (ev_var (by rfl)) (ev_var (by rfl)) (rv_ixL (K := K) (SqL.of hacc) (atI_nat hxr))) ev_c (rv_ixT (K := K) (.inl hb) (atI_nat (j := 0) rfl))) ev_c) (ev_mod (ev_int (hNk.ix (K := K) (ev_var (by rfl)) (ev_add (ev_add (i := 110) (ev_var (by rfl)) ev_c) (ev_var (by rfl))) (by omega) (by omega))) ev_c (by decide)))) (ead_cons (ed_str evz) ead_nil)) (by simp)) fun v H2 e2 hv => ?_
      obtain ⟨mm, hmm⟩ : ∃ mm, r.1 + 1 + nAt ns ((110 : Int) + 2 + (i : Int)).toNat % 12 = mm := ⟨_, rfl⟩
      rw [hmm] at hv
      have nt : NoTup (H2 p) := by rw [e2 _ _ hacc]; trivial
      have hrm := hWm r (List.mem_of_getElem? hr1)
      have hlast : ∀ s ∈ W, s.1 < mm := fun s hs => by have := hWx s hs r hr1; omega
      refine ⟨⟨_, rfl⟩, Ex.mut (eH.trans e2) np, acc ++ [v], W ++ [(mm, z)], upd_same, ?_, by simp [hWl], ?_, ?_, fun s hs => ?_, fun s hs t ht => ?_⟩
      · rw [List.map_append]
        exact DtA.snoc (DtA.upd nt (noLs_map noL_pr W) (hdA.mono e2)) (Dt.upd nt (noL_pr _) hv)
      · obtain ⟨r', hr'⟩ := hW0
        exact ⟨r' ++ [(mm, z)], by rw [hr']; rfl⟩
      · rw [List.pairwise_append]
        exact ⟨hWp, by simp, fun s hs t ht => by rw [List.mem_singleton.mp ht]; exact hlast s hs⟩
      · rcases List.mem_append.mp hs with c | c
        · have := hWm s c
          exact ⟨this.1, by omega⟩
        · rw [List.mem_singleton.mp c]
          exact ⟨hz, by show mm ≤ _; omega⟩
      · have ht2 : t = (mm, z) := by
          rw [List.getElem?_append_right (by omega)] at ht
          have e0 : i + 1 - W.length = 0 := by omega
          rw [e0] at ht
          exact (Option.some.inj ht).symm
        rw [ht2]
        rcases List.mem_append.mp hs with c | c
        · exact Int.le_of_lt (hlast s c)
        · rw [List.mem_singleton.mp c]; exact Int.le_refl _
    · obtain ⟨⟨x4, rfl⟩, eH, acc, W, hacc, hdA, hWl, ⟨r0, hr0⟩, hWp, hWm, _⟩ := h
      refine ⟨_, rfl, q _ H' eH ⟨W, .lst hacc hdA, ⟨⟨z0, r0, hr0⟩, hWp, fun r hr => (hWm r hr).1, by omega⟩, by omega, fun r hr => by have := (hWm r hr).2; omega⟩⟩
end
end EF
set_option maxHeartbeats 4000000
namespace EF
open PySem PySem.Spec PyProof.Rows L2 Evl
theorem blow_snoc (W : Wea) (r : Int × Str) (m : Int) : blow (W ++ [r]) m = if r.1 ≤ m then some r.2 else blow W m := by
  unfold blow
  rw [List.filter_append]
  by_cases c : r.1 ≤ m
  · rw [if_pos c]
    simp [c]
  · rw [if_neg c]
    simp [c]
/-- the law's way to the least -/
def cstep (f : Int → Option Int) (o : Option Int) (s : Int) : Option Int := match f s with
  | none => o
  | some y => match o with
    | none => some y
    | some c => if y < c then some y else some c
theorem cfold (f : Int → Option Int) : ∀ (l : List Int) (o : Option Int), l.foldl (cstep f) o = (o.toList ++ l.filterMap f).min?
  | [], none => rfl
  | [], some c => rfl
  | s :: l, o => by
    rw [List.foldl_cons, cfold f l]
    unfold cstep
    cases hf : f s with
    | none => rw [List.filterMap_cons, hf]
    | some y =>
      rw [List.filterMap_cons, hf]
      cases o with
      | none => rfl
      | some c =>
        have e : (some c).toList ++ y :: l.filterMap f = c :: y :: l.filterMap f := rfl
        have e2 : (c :: y :: l.filterMap f).min? = (min c y :: l.filterMap f).min? := rfl
        simp only
        rw [e, e2]
        split
        · rename_i h
          rw [Int.min_eq_right (by omega)]
          rfl
        · rename_i h
          rw [Int.min_eq_left (by omega)]
          rfl
theorem through_fold (winds : List Str) (W : Wea) (row : List (Option Int)) (m : Int) : through winds W row m = (chance W m).foldl (cstep fun s => (numAt winds W row s).map (s + ·)) none := by
  rw [cfold]
  rfl
section
variable {P : Program} {w : World} {K : PySem.W.Frag} {mg : Str → Option Value} {base : Heap}
def R_law_wind : List V → Hp → Post → Prop := fun vs H Po => ∃ vp vw m L W z, vs = [vp, vw, .int m] ∧ PartsV H vp L ∧ Dt H vw (weaD W) ∧ WeaOk L.winds W ∧ 0 ≤ m ∧ blow W m = some z ∧ Po = fun v _ => v = .int (L.winds.idxOf z : Nat)
theorem sc_law_wind : FnScope ["_law_parts_here", "_law_weather_here", "_law_minute", "_law_wind_here", "_law_row_here"] ["_law_parts_here", "_law_weather_here", "_law_minute"] (defScope s_law_wind) := ⟨rfl, rfl, rfl, by decide +kernel, rfl, by decide +kernel, by decide +kernel⟩
theorem ok_law_wind (S : Says K mg) : Fn P w K mg base 1 "_law_wind" ["_law_parts_here", "_law_weather_here", "_law_minute"] (spR R_law_wind) := by
  obtain ⟨fd, F⟩ := S.def_law_wind
  refine ⟨⟨_, fd, S.g_law_wind, F.kp, F.bindsN (fun _ _ _ _ _ _ us hl => match us, hl with | [_, _, _], _ => rfl), F.ok sc_law_wind (fun vs H Q E h => ?_) (fun cdv A outer s H vs Q E hr h => ?_)⟩⟩
  · obtain ⟨_, ⟨_, _, _, _, _, _, rfl, _⟩, _⟩ := h
    rfl
  · obtain ⟨_, ⟨vp, vw, m, L, W, z, rfl, hP, hW, hO, hm, hz, rfl⟩, q⟩ := h
    obtain ⟨a, xs, rfl, ha, hd⟩ := hW.lst_at
    have hl := hd.map_len
    obtain ⟨z0, r0, hr0⟩ := hO.zero
    have hne : ∃ x0, xs[0]? = some x0 := ⟨_, List.getElem?_eq_getElem (by rw [hl, hr0]; simp)⟩
    obtain ⟨x0, hx0⟩ := hne
    obtain ⟨b0, rfl, hb0⟩ := dt_pr (hd.map_at hx0 (show W[0]? = some (0, z0) by rw [hr0]; rfl))
    refine ⟨_, PSs.nox ((pss_cons (ps_set (i := 3) sc_law_wind.nd rfl (by first | exact Or.inl rfl | exact Or.inr rfl) (pe_ix ix_tup (pe_ix ix_list (pv 1) pe_int (fun _ _ => rfl)) pe_int (fun _ _ => rfl)))
    (pss_cons (ps_for PassesOwn.never rfl (pi_list (pv 1)) (pg_name (i := 4) sc_law_wind.nd rfl (by first | exact Or.inl rfl | exact Or.inr rfl))
      (pss_one (ps_if (pt_cmpR op_le (pe_ix ix_tup (pv 4) pe_int (fun _ _ => rfl)) (pv 2) (nomark _)) (pss_one (ps_set (i := 3) sc_law_wind.nd rfl (by first | exact Or.inl rfl | exact Or.inr rfl) (pe_ix ix_tup (pv 4) pe_int (fun _ _ => rfl)))) pss_nil)))
    (pss_one (ps_ret (pe_tix (pe_ix ix_list (pv 0) pe_int (fun _ _ => rfl)) (pa_cons (pv 3) pa_nil))))))), ?_⟩
    refine q_asgP (ep_ev (ev_op (ev_op (ev_var (by rfl)) ev_c (rv_ixL (K := K) (SqL.of ha) (atI_nat (j := 0) hx0))) ev_c (rv_ixT (K := K) (.inl hb0) (atI_nat (j := 1) rfl)))) fun v H1 e1 ev => ?_
    subst ev
    refine r_seq (s_forL (ev_var (by rfl)) (SqL.of (e1 _ _ ha)) (fun i σ' H' => (∃ y x4, σ' = [some vp, some (.ref a), some (.int m), some (.str y), x4] ∧ ∀ z', blow (W.take i) m = some z' → y = z') ∧ Ex H H') (fun H2 e2 => ⟨⟨_, _, rfl, fun z' hz' => by simp [blow] at hz'⟩, e1.trans e2⟩) (fun i σ' H' _ h => SqL.of (h.2 _ _ ha)) (fun i x σ' H' hx h => ?_) (fun σ' H' h => ?_))
    · obtain ⟨⟨y, x4, rfl, hy⟩, eH⟩ := h
      have hi : i < W.length := by have := (List.getElem?_eq_some_iff.mp hx).1; omega
      obtain ⟨r, hr1⟩ : ∃ r, W[i]? = some r := ⟨_, List.getElem?_eq_getElem hi⟩
      obtain ⟨b, rfl, hb⟩ := dt_pr ((hd.map_at hx hr1).mono eH)
      have ht : W.take (i + 1) = W.take i ++ [r] := by rw [List.take_succ, hr1]; rfl
      refine r_if (et_test (ev_le (ev_op (ev_var (by rfl)) ev_c (rv_ixT (K := K) (.inl hb) (atI_nat (j := 0) rfl))) (ev_var (by rfl)))) (fun c H2 e2 => ?_) (fun c H2 e2 => ?_)
      · refine s_asgP (ep_ev (ev_op (ev_var (by rfl)) ev_c (rv_ixT (K := K) (.inl (ex_rd e2 hb)) (atI_nat (j := 1) rfl)))) fun v H3 e3 ev => ?_
        subst ev
        refine ⟨⟨_, _, rfl, fun z' hz' => ?_⟩, eH.trans (e2.trans e3)⟩
        rw [ht, blow_snoc, if_pos (of_decide_eq_true c)] at hz'
        exact Option.some.inj hz'
      · refine gn ⟨⟨_, _, rfl, fun z' hz' => ?_⟩, eH.trans e2⟩
        rw [ht, blow_snoc, if_neg (of_decide_eq_false c)] at hz'
        exact hy z' hz'
    · obtain ⟨⟨y, x4, rfl, hy⟩, eH⟩ := h
      rw [hl, List.take_length] at hy
      have hyz := hy z hz
      subst hyz
      obtain ⟨wa, hwa, ev0⟩ := (hP.mono eH).ix0 (K := K) (σ := [some vp, some (.ref a), some (.int m), some (.str y), x4]) (ev_var (i := 0) (by rfl))
      obtain ⟨y2, hy2, hmem⟩ := hO.blow hm
      rw [hz] at hy2
      cases hy2
      obtain ⟨j1, j2⟩ := idxOf_at hmem
      refine gn (r_ret (ev0 H' (Ex.refl _) _ fun H2 e2 => ⟨wa, _, rfl, hwa.mono e2, _, rfl, L.winds, y, L.winds.idxOf y, hwa.mono e2, rfl, j1, j2, q _ H2 (eH.trans e2) rfl⟩))
def R_law_caught : List V → Hp → Post → Prop := fun vs H Po => ∃ vp vw vk L W l m sd, vs = [vp, vw, vk, .int m, .int (if sd then 1 else 0)] ∧ PartsV H vp L ∧ Dt H vw (weaD W) ∧ WeaOk L.winds W ∧ Dt H vk (lnkD l) ∧ l.times.length = L.winds.length ∧ 0 ≤ m ∧ Po = fun v _ => v = oiV (pass L W sd l m)
theorem sc_law_caught : FnScope ["_law_parts_here", "_law_weather_here", "_law_link", "_law_minute", "_law_side", "_law_caught_here", "_law_start", "_law_row_here", "_law_bounds"] ["_law_parts_here", "_law_weather_here", "_law_link", "_law_minute", "_law_side"] (defScope s_law_caught) := ⟨rfl, rfl, rfl, by decide +kernel, rfl, by decide +kernel, by decide +kernel⟩
theorem ok_law_caught (S : Says K mg) : Fn P w K mg base 2 "_law_caught" ["_law_parts_here", "_law_weather_here", "_law_link", "_law_minute", "_law_side"] (spR R_law_caught) := by
  have G_law_wind := ok_law_wind (P := P) (w := w) (base := base) S
  obtain ⟨fd, F⟩ := S.def_law_caught
  refine ⟨⟨_, fd, S.g_law_caught, F.kp, F.bindsN (fun _ _ _ _ _ _ us hl => match us, hl with | [_, _, _, _, _], _ => rfl), F.ok sc_law_caught (fun vs H Q E h => ?_) (fun cdv A outer s H vs Q E hr h => ?_)⟩⟩
  · obtain ⟨_, ⟨_, _, _, _, _, _, _, _, rfl, _⟩, _⟩ := h
    rfl
  · obtain ⟨_, ⟨vp, vw, vk, L, W, l, m, sd, rfl, hP, hW, hO, hk, hkl, hm, rfl⟩, q⟩ := h
    obtain ⟨a, xs, rfl, ha, hd⟩ := hW.lst_at
    have hl := hd.map_len
    have hfew := hO.few
    obtain ⟨ba, tv, rfl, hba, htv⟩ := dt_lnk hk
    obtain ⟨ta, ts, rfl, hta, htd⟩ := htv.tup_at
    have htl := htd.map_len
    refine ⟨_, PSs.nox ((pss_cons (ps_set (i := 5) sc_law_caught.nd rfl (by first | exact Or.inl rfl | exact Or.inr rfl) pe_non)
    (pss_cons (ps_for PassesOwn.never rfl (pi_list (pe_op op_cat (pe_lst (pa_cons (pv 3) pa_nil)) (pe_lc (own := [("_law_row_here", 7)]) (g := (gName 7)) (tt := (tTest (tOp _ (tOp (rIxT K) (tVar 7) (tC (.int 0))) (tVar 3)))) (te := (tOp (rIxT K) (tVar 7) (tC (.int 0)))) rfl sc_law_caught.nd (pi_list (pv 1)) (blkOk_by (N := ["_law_parts_here", "_law_weather_here", "_law_link", "_law_minute", "_law_side", "_law_caught_here", "_law_start", "_law_row_here", "_law_bounds"]) (sc := defScope s_law_caught) (by decide +kernel)) (fun _ _ _ _ _ => (pg_name (i := 7) sc_law_caught.nd rfl (by first | exact Or.inl rfl | exact Or.inr rfl))) (fun _ _ _ _ _ => (pts_one (pt_cmpR op_gt (pe_ix ix_tup (pv 7) pe_int (fun _ _ => rfl)) (pv 3) (nomark _)))) (fun _ _ _ _ _ => (pe_ix ix_tup (pv 7) pe_int (fun _ _ => rfl)))))) (pg_name (i := 6) sc_law_caught.nd rfl (by first | exact Or.inl rfl | exact Or.inr rfl))
      (pss_cons (ps_set (i := 8) sc_law_caught.nd rfl (by first | exact Or.inl rfl | exact Or.inr rfl) (pe_ix ix_tup (pe_ix ix_tup (pv 2) pe_int (fun _ _ => rfl)) (pe_fn G_law_wind (hr.mono (by decide)) (pa_cons (pv 0) (pa_cons (pv 1) (pa_cons (pv 6) pa_nil)))) (fun _ _ => rfl)))
    (pss_one (ps_if (PW.pt (pw_and (pt_cmpR op_notN (pv 8) pe_non (nomark _)) (pw_and1 (PW.pt (pw_or (pt_cmpR op_isN (pv 5) pe_non (nomark _)) (pw_or1 (pt_cmpR op_lt (pe_op op_add (pv 6) (pe_ix ix_tup (pv 8) (pv 4) (fun _ _ => rfl))) (pv 5) (nomark _)))))))) (pss_one (ps_set (i := 5) sc_law_caught.nd rfl (by first | exact Or.inl rfl | exact Or.inr rfl) (pe_op op_add (pv 6) (pe_ix ix_tup (pv 8) (pv 4) (fun _ _ => rfl))))) pss_nil))))
    (pss_one (ps_ret (pv 5)))))), ?_⟩
    refine q_asgP (ep_ev ev_c) fun v H1 e1 ev => ?_
    subst ev
    -- the minutes to be tried
    refine r_seq (r_bind (P := fun v H' => ∃ p, v = .ref p ∧ H' p = some (.lst ((chance W m).map V.int))) (fun H2 e2 Q2 q2 => ?_) fun v H2 e2 ⟨c, ev, hc⟩ => ?_)
    · refine el_lst (ea_cons (ev_var (v := .int m) (by rfl)) ea_nil) (by simp) H2 (Ex.refl _) _ fun p1 H3 np1 e3 hp1 => ?_
      refine ep_lc W (fun r => if m < r.1 then some (.int r.1) else none) (ei_list ((ep_ev (ev_var (by rfl))).imp fun v H4 e4 ev => ⟨a, ev, SqL.of (e4 _ _ (e3 _ _ (e2 _ _ (e1 _ _ ha))))⟩)) hl (by omega) (fun r _ d h => ?_) (fun i x r H4 e4 hr1 hx => ?_) H3 (Ex.refl _) _ fun v4 H4 e4 ⟨p2, ys, ev2, np2, hp2, hd2⟩ => ?_
      · split at h
        · cases h; rfl
        · cases h
      · obtain ⟨b, rfl, hb⟩ := dt_pr ((hd.map_at hx hr1).mono (e1.trans (e2.trans (e3.trans e4))))
        intro H5 e5 Qk Qn hk5 hn5
        refine ⟨rfl, _, rfl, b, _, 0, _, rfl, rfl, .inl (ex_rd e5 hb), atI_nat (j := 0) rfl, _, rfl, _, _, rfl, rfl, _, rfl, ?_⟩
        by_cases c : m < r.1
        · rw [decide_eq_true c]
          exact iteT ⟨_, rfl, b, _, 0, _, rfl, rfl, .inl (ex_rd e5 hb), atI_nat (j := 0) rfl, hk5 (.int r.1) (if_pos c) _ H5 (Ex.refl _) (.int _)⟩
        · rw [decide_eq_false c]
          exact iteF (hn5 (if_neg c) H5 (Ex.refl _))
      · have e5 : W.filterMap (fun r => if m < r.1 then some (PyData.int r.1) else none) = (((W.filter fun r => decide (m < r.1)).map (·.1))).map .int := by
          rw [List.map_map, ← List.filterMap_eq_filter, ← List.filterMap_eq_map, List.filterMap_filterMap]
          congr 1
          funext r
          by_cases c : m < r.1 <;> simp [c, Option.guard]
        rw [e5] at hd2
        have hys := hd2.ints
        subst ev2 hys
        have hlen := List.length_filter_le (fun r : Int × Str => decide (m < r.1)) W
        refine ⟨p1, p2, _, _, rfl, rfl, e4 _ _ hp1, hp2, sz_of (by simp; omega), fun p3 n3 => q2 _ _ ((e3.trans e4).trans (Ex.new n3)) ⟨p3, rfl, upd_same⟩⟩
    subst ev
    obtain ⟨f, hf⟩ : ∃ f : Int → Option Int, (fun s => (numAt L.winds W (rowOf sd l) s).map (s + ·)) = f := ⟨_, rfl⟩
    refine ⟨c, rfl, ⟨_, SqL.of hc⟩, for_list (xs := (chance W m).map V.int) (fun i σ' H' => (∃ x6 x7 x8, σ' = [some vp, some (.ref a), some (.ref ba), some (.int m), some (.int (if sd then 1 else 0)), some (oiV (((chance W m).take i).foldl (cstep f) none)), x6, x7, x8]) ∧ Ex H H' ∧ H' c = some (.lst ((chance W m).map V.int))) ⟨⟨_, _, _, rfl⟩, e1.trans e2, hc⟩ (fun i σ' H' _ h => SqL.of h.2.2) (fun i x σ' H' hx h => ?_) (fun σ' H' h => ?_)⟩
    · obtain ⟨⟨x6, x7, x8, rfl⟩, eH, hcH⟩ := h
      obtain ⟨s1, hs1, rfl⟩ : ∃ s1, (chance W m)[i]? = some s1 ∧ V.int s1 = x := by
        rw [List.getElem?_map] at hx
        exact Option.map_eq_some_iff.mp hx
      have hs0 : 0 ≤ s1 := by have := chance_ge (List.mem_of_getElem? hs1); omega
      obtain ⟨z, hz, hzm⟩ := hO.blow hs0
      obtain ⟨j1, _⟩ := idxOf_at hzm
      have hj : L.winds.idxOf z < l.times.length := by rw [hkl]; exact (List.getElem?_eq_some_iff.mp j1).1
      obtain ⟨o, ho⟩ : ∃ o, l.times[L.winds.idxOf z]? = some o := ⟨_, List.getElem?_eq_getElem hj⟩
      obtain ⟨xo, hxo⟩ : ∃ xo, ts[L.winds.idxOf z]? = some xo := ⟨_, List.getElem?_eq_getElem (by omega)⟩
      have hxd := (htd.map_at hxo ho).mono eH
      have hnum : numAt L.winds W (rowOf sd l) s1 = pickN sd o := by
        unfold numAt
        rw [hz, Option.bind_some, List.getD_eq_getElem?_getD, rowOf, List.getElem?_map, ho]
        rfl
      have hstep : ((chance W m).take (i + 1)).foldl (cstep f) none = cstep f (((chance W m).take i).foldl (cstep f) none) s1 := by
        rw [List.take_succ, hs1, List.foldl_append]
        rfl
      obtain ⟨o5, ho5⟩ : ∃ o5, ((chance W m).take i).foldl (cstep f) none = o5 := ⟨_, rfl⟩
      rw [ho5] at hstep ⊢
      have hfs : f s1 = (pickN sd o).map (s1 + ·) := by rw [← hf, ← hnum]
      refine q_asgP (P := fun v _ => v = xo) ((ep_ev (ev_op (x := .ref ta) (y := .int (L.winds.idxOf z : Nat)) (ev_op (ev_var (by rfl)) ev_c (rv_ixT (K := K) (.inl (ex_rd eH hba)) (atI_nat (j := 3) rfl))) (EvP.ev (ep_call (R := R_law_wind) (ea_cons (ev_var (by rfl)) (ea_cons (ev_var (by rfl)) (ea_cons (ev_var (by rfl)) ea_nil))) fun H3 e3 => ⟨vp, .ref a, s1, L, W, z, rfl, hP.mono (eH.trans e3), hW.mono (eH.trans e3), hO, hs0, hz, rfl⟩)) (rv_ixT (K := K) (.inl (ex_rd eH hta)) (atI_nat hxo))))) fun v H3 e3 ev => ?_
      subst ev
      cases o with
      | none =>
        have ex := hxd.non_eq
        subst ex
        refine r_if (c := false) (et_is (et_and (a := false) (b := false) (et_test (ev_op (x := .non) (ev_var (by rfl)) ev_c rv_notN)) (fun c => by cases c)) rfl) (fun c => by cases c) fun _ H4 e4 => gn ⟨⟨some (.int s1), x7, some .non, ?_⟩, eH.trans (e3.trans e4), e4 _ _ (e3 _ _ hcH)⟩
        rw [hstep]
        unfold cstep
        rw [hfs]
        rfl
      | some ab =>
        obtain ⟨pa, y1, y2, rfl, hpr, g1, g2⟩ := dt_tup2 hxd
        have g1 := g1.int_eq
        have g2 := g2.int_eq
        subst g1 g2
        have hfs2 : f s1 = some (s1 + (if sd then ab.2 else ab.1)) := hfs
        have hbnd : ∀ {H4 : Hp}, Ex H3 H4 → RV (rIxT K) (.ref pa) (.int (if sd then 1 else 0)) H4 (.int (if sd then ab.2 else ab.1)) := by
          intro H4 e4
          cases sd with
          | true => exact rv_ixT (.inl (ex_rd (e3.trans e4) hpr)) (atI_nat (j := 1) rfl)
          | false => exact rv_ixT (.inl (ex_rd (e3.trans e4) hpr)) (atI_nat (j := 0) rfl)
        obtain ⟨bn, hbn⟩ : ∃ bn, (if sd then ab.2 else ab.1) = bn := ⟨_, rfl⟩
        rw [hbn] at hfs2
        rw [hbn] at hbnd
        obtain ⟨si, hsi⟩ : ∃ si : Int, (if sd then (1 : Int) else 0) = si := ⟨_, rfl⟩
        rw [hsi] at hbnd ⊢
        cases o5 with
        | none =>
          refine r_if (c := true) (et_is (et_and (a := true) (b := true) (et_test (ev_op (x := .ref pa) (ev_var (by rfl)) ev_c rv_notN)) (fun _ => et_is (et_or (a := true) (b := true) (et_test (ev_op (x := .non) (ev_var (by rfl)) ev_c rv_isN)) (fun c => by cases c)) rfl)) rfl) (fun _ H4 e4 => ?_) (fun c => by cases c)
          refine s_asgP (ep_ev (ev_add (ev_var (by rfl)) (ev_op (ev_var (by rfl)) (ev_var (by rfl)) (hbnd e4)))) fun v H5 e5 ev => ?_
          subst ev
          refine ⟨⟨some (.int s1), x7, some (.ref pa), ?_⟩, eH.trans (e3.trans (e4.trans e5)), e5 _ _ (e4 _ _ (e3 _ _ hcH))⟩
          rw [hstep]
          unfold cstep
          rw [hfs2]
          rfl
        | some c5 =>
          refine r_if (c := decide (s1 + bn < c5)) (et_is (et_and (a := true) (et_test (ev_op (x := .ref pa) (ev_var (by rfl)) ev_c rv_notN)) (fun _ => et_or (a := false) (et_is (et_test (ev_op (x := .int c5) (ev_var (by rfl)) ev_c rv_isN)) rfl) (fun _ => et_test (ev_lt (ev_add (ev_var (by rfl)) (ev_op (ev_var (by rfl)) (ev_var (by rfl)) (hbnd (Ex.refl _)))) (ev_var (by rfl)))))) (by simp)) (fun c H4 e4 => ?_) (fun c H4 e4 => ?_)
          · refine s_asgP (ep_ev (ev_add (ev_var (by rfl)) (ev_op (ev_var (by rfl)) (ev_var (by rfl)) (hbnd e4)))) fun v H5 e5 ev => ?_
            subst ev
            refine ⟨⟨some (.int s1), x7, some (.ref pa), ?_⟩, eH.trans (e3.trans (e4.trans e5)), e5 _ _ (e4 _ _ (e3 _ _ hcH))⟩
            rw [hstep]
            unfold cstep
            rw [hfs2]
            simp only
            rw [if_pos (of_decide_eq_true c)]
            rfl
          · refine gn ⟨⟨some (.int s1), x7, some (.ref pa), ?_⟩, eH.trans (e3.trans e4), e4 _ _ (e3 _ _ hcH)⟩
            rw [hstep]
            unfold cstep
            rw [hfs2]
            simp only
            rw [if_neg (of_decide_eq_false c)]
            rfl
    · obtain ⟨⟨x6, x7, x8, rfl⟩, eH, hcH⟩ := h
      rw [List.length_map, List.take_length]
      refine gn ⟨_, rfl, q _ H' eH ?_⟩
      unfold pass
      rw [through_fold, hf]
end
end EF
set_option maxHeartbeats 4000000
namespace EF
open PySem PySem.Spec PyProof.Rows L2 Evl
/-! ### two lists of two dicts, compared -/
def eqDB (l m : Rws) : Bool := l.length == m.length && l.all fun q => decide (look m q.1 = some q.2)
theorem sub_of_len {α : Type} [DecidableEq α] : ∀ {a b : List α}, a.Nodup → (∀ x ∈ a, x ∈ b) → b.length ≤ a.length → ∀ x ∈ b, x ∈ a
  | [], b, _, _, h, x, hx => by
    have : b = [] := List.length_eq_zero_iff.mp (by simpa using h)
    rw [this] at hx
    exact hx
  | y :: a, b, hn, hs, h, x, hx => by
    rw [List.nodup_cons] at hn
    by_cases e : x = y
    · rw [e]; exact List.mem_cons_self
    · have hy : y ∈ b := hs y List.mem_cons_self
      have hlen : (b.erase y).length = b.length - 1 := List.length_erase_of_mem hy
      have ih := sub_of_len (a := a) (b := b.erase y) hn.2 (fun z hz => by
        have : z ≠ y := fun e2 => hn.1 (e2 ▸ hz)
        exact (List.mem_erase_of_ne this).mpr (hs z (List.mem_cons_of_mem _ hz))) (by simp at h; omega)
      exact List.mem_cons_of_mem _ (ih x ((List.mem_erase_of_ne e).mpr hx))
theorem len_of_sub {α : Type} [DecidableEq α] : ∀ {a b : List α}, a.Nodup → (∀ x ∈ a, x ∈ b) → a.length ≤ b.length
  | [], b, _, _ => by simp
  | y :: a, b, hn, hs => by
    rw [List.nodup_cons] at hn
    have hy : y ∈ b := hs y List.mem_cons_self
    have hlen : (b.erase y).length = b.length - 1 := List.length_erase_of_mem hy
    have hpos : 0 < b.length := List.length_pos_of_mem hy
    have ih := len_of_sub (a := a) (b := b.erase y) hn.2 fun z hz => by
      have : z ≠ y := fun e2 => hn.1 (e2 ▸ hz)
      exact (List.mem_erase_of_ne this).mpr (hs z (List.mem_cons_of_mem _ hz))
    simp only [List.length_cons]
    omega
theorem eqDB_iff {l m : Rws} (hl : KN l) (hm : KN m) : eqDB l m = true ↔ look l = look m := by
  unfold eqDB
  rw [Bool.and_eq_true, beq_iff_eq, List.all_eq_true]
  constructor
  · rintro ⟨h1, h2⟩
    have sub : ∀ x ∈ l.map (·.1), x ∈ m.map (·.1) := fun x hx => by
      obtain ⟨q, hq, rfl⟩ := List.mem_map.mp hx
      exact List.mem_map.mpr ⟨_, look_mem (of_decide_eq_true (h2 q hq)), rfl⟩
    have sup := sub_of_len hl sub (by rw [List.length_map, List.length_map]; omega)
    funext p
    cases z : look l p with
    | some t => rw [of_decide_eq_true (h2 _ (look_mem z))]
    | none =>
      cases y : look m p with
      | none => rfl
      | some t =>
        have := sup p (List.mem_map.mpr ⟨_, look_mem y, rfl⟩)
        obtain ⟨q, hq, e⟩ := List.mem_map.mp this
        exact absurd e (look_none.mp z q hq)
  · intro h
    have k1 : ∀ {a b : Rws}, KN a → look a = look b → ∀ x ∈ a.map (·.1), x ∈ b.map (·.1) := fun {a b} ha e x hx => by
      obtain ⟨q, hq, rfl⟩ := List.mem_map.mp hx
      have := mem_look ha (show (q.1, q.2) ∈ a from hq)
      rw [e] at this
      exact List.mem_map.mpr ⟨_, look_mem this, rfl⟩
    have len : ∀ {a b : Rws}, KN a → look a = look b → a.length ≤ b.length := fun {a b} ha e => by
      have := len_of_sub ha (k1 ha e)
      rwa [List.length_map, List.length_map] at this
    exact ⟨Nat.le_antisymm (len hl h) (len hm h.symm), fun q hq => decide_eq_true (by rw [← h]; exact mem_look hl hq)⟩
theorem hits_map {P : Program} {w : World} {A : Around} {s : Shared} {m : Rws} {vb : List (Key × Value)} (rb : KV (mapD m) vb) : ∀ (l : Rws) {va : List (Key × Value)}, KV (mapD l) va → PySem.W.KeqHitsP P w A s vb va (l.all fun q => decide (look m q.1 = some q.2))
  | [], va, ra => by
    unfold KV at ra
    cases ra
    exact .nil
  | q :: l, va, ra => by
    unfold KV at ra
    cases ra with
    | @cons _ x _ r h t =>
      obtain ⟨key, v⟩ := x
      obtain ⟨h1, h2⟩ := h
      have h1 : (Sum.inr q.1 : Key) = key := h1
      subst h1
      have h2 : RelV (.int q.2) v := h2
      have ih := hits_map (P := P) (w := w) (A := A) (s := s) rb l (show KV (mapD l) r from t)
      have rr := rb.val (Sum.inr q.1 : Key)
      rw [valV_mapD] at rr
      rw [List.all_cons]
      cases z : look m q.1 with
      | none =>
        rw [z] at rr
        cases y : valueAt vb (Sum.inr q.1 : Key) with
        | some u => rw [y] at rr; exact rr.elim
        | none =>
          rw [show decide ((none : Option Int) = some q.2) = false by simp, Bool.false_and]
          exact .miss y
      | some k =>
        rw [z] at rr
        obtain ⟨y, hy, ry⟩ := RelO.some_of rr
        have heq := (eqAt_V (A := A) (s := s) h2 ry rfl rfl).eqP (prog := P) (w := w)
        have e : eqV (.int q.2) (.int k) = decide (some k = some q.2) := by
          show (q.2 == k) = _
          by_cases c : q.2 = k
          · subst c; simp
          · have c2 : ¬ k = q.2 := fun e => c e.symm
            simp [c, c2]
        rw [← e]
        exact .hit hy heq ih
/-- a list of two dicts -/
structure DDV (H : Hp) (v : V) (l0 l1 : Rws) : Prop where
  ex : ∃ p d0 d1, v = .ref p ∧ H p = some (.lst [.ref d0, .ref d1]) ∧ H d0 = some (.dK (mapD l0)) ∧ H d1 = some (.dK (mapD l1))
  k0 : KN l0
  k1 : KN l1
theorem DDV.mono {H H' : Hp} {v : V} {l0 l1 : Rws} (e : Ex H H') (h : DDV H v l0 l1) : DDV H' v l0 l1 := by
  obtain ⟨p, d0, d1, h1, h2, h3, h4⟩ := h.ex
  exact ⟨⟨p, d0, d1, h1, e _ _ h2, e _ _ h3, e _ _ h4⟩, h.k0, h.k1⟩
def rEqDD (K : PySem.W.Frag) : R2 := fun x y H Q => ∃ l0 l1 m0 m1, DDV H x l0 l1 ∧ DDV H y m0 m1 ∧ Q (.bl (eqDB l0 m0 && eqDB l1 m1)) H
theorem eqDB_self {l : Rws} (h : KN l) : eqDB l l = true := (eqDB_iff h h).mpr rfl
theorem dict_eqP {X : Cx} {pins : List (Addr × Obj)} {σ : L2.St} {H : Hp} {s : Shared} (I : Inv X pins σ H s) {A : Around} (hu : A.units < cLine) {a b : Addr} {l m : Rws} (ha : H a = some (.dK (mapD l))) (hb : H b = some (.dK (mapD m))) (hk : KN l) :
    SeqAt.EqP X.prog X.w A s (.ref a) (.ref b) (eqDB l m) := by
  by_cases e : a = b
  · subst e
    have e2 : mapD l = mapD m := by
      have h3 := Option.some.inj (ha.symm.trans hb)
      injection h3
    have e3 : l = m := by
      clear ha hb hk
      induction l generalizing m with
      | nil =>
        cases m with
        | nil => rfl
        | cons _ _ => cases e2
      | cons q l ih =>
        cases m with
        | nil => cases e2
        | cons r m =>
          have h4 : ((Sum.inr q.1 : Key), V.int q.2) = (Sum.inr r.1, V.int r.2) ∧ mapD l = mapD m := by
            simpa [mapD] using e2
          have h5 := Prod.mk.inj h4.1
          have h6 : q = r := Prod.ext (Sum.inr.inj h5.1) (V.int.inj h5.2)
          rw [h6, ih h4.2]
    subst e3
    rw [eqDB_self hk]
    exact (SeqAt.EqAt.same _).eqP
  · refine SeqAt.eqP_refs e fun E Q q => ?_
    obtain ⟨_, ya, va, ra, da⟩ := (show ObjOk X.prog X.w H s.heap a (.dK (mapD l)) from I.hok a _ ha)
    obtain ⟨_, yb, vb, rb, db⟩ := (show ObjOk X.prog X.w H s.heap b (.dK (mapD m)) from I.hok b _ hb)
    refine PySem.W.rcP_dicts (knd := mixKind X.prog X.w) (r := l.all fun q => decide (look m q.1 = some q.2)) ya yb da db hu (fun _ => hits_map rb l ra) E Q ?_
    have e1 : va.length = l.length := by rw [← ra.length]; exact mapD_len l
    have e2 : vb.length = m.length := by rw [← rb.length]; exact mapD_len m
    rw [e1, e2]
    exact q
theorem op_eqDD {X : Cx} (hu : X.A.units + 64 < cLine) : OpR X (compareOp .Eq) (rEqDD X.K) := by
  intro pins s σ H x y v u Q I rx ry h
  obtain ⟨l0, l1, m0, m1, hx, hy, q⟩ := h
  obtain ⟨p, d0, d1, rfl, hp, h0, h1⟩ := hx.ex
  obtain ⟨p', e0, e1, rfl, hp', g0, g1⟩ := hy.ex
  obtain rfl : v = Value.ref p := rx
  obtain rfl : u = Value.ref p' := ry
  obtain ⟨us, r1, pl1, _⟩ := I.list (SqL.of hp)
  obtain ⟨ws, r2, pl2, _⟩ := I.list (SqL.of hp')
  obtain ⟨u0, u1, rfl, a0, a1⟩ := vals2 r1
  obtain ⟨w0, w1, rfl, b0, b1⟩ := vals2 r2
  cases a0
  cases a1
  cases b0
  cases b1
  refine SeqAt.rcP_lists (A := X.A) (e := fun j => if j = 0 then eqDB l0 m0 else eqDB l1 m1) pl1.isList pl2.isList rfl (by omega) (fun j c1 c2 => ?_) _ _ ?_
  · have hu1 : X.A.in1.units < cLine := by show X.A.units + 1 < cLine; omega
    have c3 : j < 2 := c1
    match j, c3 with
    | 0, _ => exact dict_eqP I hu1 h0 g0 hx.k0
    | 1, _ => exact dict_eqP I hu1 h1 g1 hx.k1
  · refine ⟨.bl (eqDB l0 m0 && eqDB l1 m1), H, I, ?_, q⟩
    show Value.bool _ = _
    congr 1
    simp [List.range, List.range.loop]
end EF
set_option maxHeartbeats 4000000
namespace EF
open PySem PySem.Spec PyProof.Rows L2 Evl
theorem et_lessB {σ : L2.St} {H : Hp} {tk td tm : TE} {b : Addr} {l : Rws} {p : Str} {m : Int} (h : Ev tk σ H (.str p)) (hd : Ev td σ H (.ref b)) (hm : Ev tm σ H (.int m)) (hb : H b = some (.dK (mapD l))) :
    EvT (tOr (tB (tDNotIn tk td)) (tTest (tOp (rI0 fun i j => .bl (decide (i < j))) tm (tDGet td tk)))) σ H (lessB (look l p) m) := by
  cases z : look l p with
  | none =>
    refine et_is (et_or (b := false) (et_B (ev_dnotin h hd hb)) fun c => ?_) (by rw [z]; rfl)
    rw [z] at c
    cases c
  | some k =>
    refine et_is (et_or (et_B (ev_dnotin h hd hb)) fun c => et_test (ev_op hm (ev_dget h hd hb z) rv_I0)) (by rw [z]; rfl)
/-! ### the law's dicts: keys, minutes -/
def NN (d : Rws) : Prop := ∀ p t, look d p = some t → 0 ≤ t
theorem bput_kn {d : Rws} (h : KN d) (p : Str) (m : Int) : KN (bput d p m) := by
  unfold bput
  split
  · exact h.put _ _
  · exact h
theorem bput_nn {d : Rws} (h : NN d) {p : Str} {m : Int} (hm : 0 ≤ m) : NN (bput d p m) := fun q t hq => by
  rcases bput_from hq with c | ⟨_, c⟩
  · exact h q t c
  · omega
theorem sstep_kn {B d : Rws} (h : KN d) (q : Str × Int) : KN (sstep B d q) := by
  unfold sstep
  split
  · exact bput_kn h _ _
  · exact h
theorem sstep_nn {B d : Rws} (h : NN d) {q : Str × Int} (hq : 0 ≤ q.2) : NN (sstep B d q) := by
  unfold sstep
  split
  · exact bput_nn h hq
  · exact h
theorem sstep_len (B d : Rws) (q : Str × Int) : (sstep B d q).length ≤ d.length + 1 := by
  unfold sstep
  split
  · exact bput_len _ _ _
  · omega
section
variable {L : Ld} {W : Wea} {B : Rws} {sd : Bool}
theorem rstep_kn {d : Rws} (h : KN d) (l : Lnk) : KN (rstep L W B sd d l) := by
  unfold rstep
  split
  · exact h
  · split
    · exact h
    · split
      · exact bput_kn h _ _
      · exact h
theorem rstep_nn {d : Rws} (hk : LkOk L) (h : NN d) {l : Lnk} (hl : l ∈ L.links) : NN (rstep L W B sd d l) := by
  unfold rstep
  split
  · exact h
  · rename_i m hm
    split
    · exact h
    · rename_i e he
      split
      · have := pass_gt hk hl he
        have := h _ _ hm
        exact bput_nn h (by omega)
      · exact h
theorem sfold_all : ∀ (R d : Rws), KN d → NN d → (∀ q ∈ R, 0 ≤ q.2) → KN (R.foldl (sstep B) d) ∧ NN (R.foldl (sstep B) d) ∧ (R.foldl (sstep B) d).length ≤ d.length + R.length
  | [], d, h1, h2, _ => ⟨h1, h2, by simp⟩
  | q :: R, d, h1, h2, h3 => by
    obtain ⟨k1, k2, k3⟩ := sfold_all R (sstep B d q) (sstep_kn h1 q) (sstep_nn h2 (h3 q (by simp))) (fun r hr => h3 r (by simp [hr]))
    have := sstep_len B d q
    exact ⟨k1, k2, by simp only [List.foldl_cons, List.length_cons]; omega⟩
theorem rfold_all (hk : LkOk L) : ∀ (ls : List Lnk) (d : Rws), KN d → NN d → (∀ l ∈ ls, l ∈ L.links) → KN (ls.foldl (rstep L W B sd) d) ∧ NN (ls.foldl (rstep L W B sd) d) ∧ (ls.foldl (rstep L W B sd) d).length ≤ d.length + ls.length
  | [], d, h1, h2, _ => ⟨h1, h2, by simp⟩
  | l :: ls, d, h1, h2, h3 => by
    obtain ⟨k1, k2, k3⟩ := rfold_all hk ls (rstep L W B sd d l) (rstep_kn h1 l) (rstep_nn hk h2 (h3 l (by simp))) (fun r hr => h3 r (by simp [hr]))
    have := rstep_len (L := L) (W := W) (B := B) (sd := sd) d l
    exact ⟨k1, k2, by simp only [List.foldl_cons, List.length_cons]; omega⟩
theorem lawN_all (hk : LkOk L) {d : Rws} (h1 : KN d) (h2 : NN d) : ∀ k, KN (lawN L W B sd k d) ∧ NN (lawN L W B sd k d) ∧ (lawN L W B sd k d).length ≤ d.length + k * L.links.length
  | 0 => ⟨h1, h2, by simp [lawN]⟩
  | k + 1 => by
    obtain ⟨k1, k2, k3⟩ := lawN_all hk h1 h2 k
    obtain ⟨g1, g2, g3⟩ := rfold_all (W := W) (B := B) (sd := sd) hk L.links _ k1 k2 (fun _ h => h)
    refine ⟨g1, g2, ?_⟩
    have : (k + 1) * L.links.length = k * L.links.length + L.links.length := by rw [Nat.add_mul, Nat.one_mul]
    show (L.links.foldl (rstep L W B sd) (lawN L W B sd k d)).length ≤ _
    omega
end
section
variable {P : Program} {w : World} {K : PySem.W.Frag} {mg : Str → Option Value} {base : Heap}
/-- what the law asks of its own fires -/
structure LawQ (H : Hp) (vp vw vs vb : V) (L : Ld) (W : Wea) (S B : Rws) : Prop where
  p : PartsV H vp L
  l : LawLd L
  w : Dt H vw (weaD W)
  s : Dt H vs (rwsD S)
  b : Dt H vb (rwsD B)
  g : Good L W S B
  sl : S.length ≤ 20
theorem LawQ.mono {H H' : Hp} {vp vw vs vb : V} {L : Ld} {W : Wea} {S B : Rws} (e : Ex H H') (h : LawQ H vp vw vs vb L W S B) : LawQ H' vp vw vs vb L W S B := ⟨h.p.mono e, h.l, h.w.mono e, h.s.mono e, h.b.mono e, h.g, h.sl⟩
def R_law_fire : List V → Hp → Post → Prop := fun vs H Po => ∃ vp vw vs' vb L W St B sd, vs = [vp, vw, vs', vb, .int (if sd then 1 else 0)] ∧ LawQ H vp vw vs' vb L W St B ∧ Po = fun v H' => ∃ p l, v = .ref p ∧ H' p = some (.dK (mapD l)) ∧ KN l ∧ look l = fire L W St B sd
theorem sc_law_fire : FnScope ["_law_parts_here", "_law_weather_here", "_law_starts", "_law_breaks", "_law_side", "_law_ends", "_law_place", "_law_minute", "_law_burns", "_law_turn", "_law_link", "_law_caught_here"] ["_law_parts_here", "_law_weather_here", "_law_starts", "_law_breaks", "_law_side"] (defScope s_law_fire) := ⟨rfl, rfl, rfl, by decide +kernel, rfl, by decide +kernel, by decide +kernel⟩
theorem ok_law_fire (S : Says K mg) : Fn P w K mg base 3 "_law_fire" ["_law_parts_here", "_law_weather_here", "_law_starts", "_law_breaks", "_law_side"] (spR R_law_fire) := by
  have G_law_caught := ok_law_caught (P := P) (w := w) (base := base) S
  obtain ⟨fd, F⟩ := S.def_law_fire
  refine ⟨⟨_, fd, S.g_law_fire, F.kp, F.bindsN (fun _ _ _ _ _ _ us hl => match us, hl with | [_, _, _, _, _], _ => rfl), F.ok sc_law_fire (fun vs H Q E h => ?_) (fun cdv A outer s H vs Q E hr h => ?_)⟩⟩
  · obtain ⟨_, ⟨_, _, _, _, _, _, _, _, _, rfl, _⟩, _⟩ := h
    rfl
  · obtain ⟨_, ⟨vp, vw, vs', vb, L, W, St, B, sd, rfl, a, rfl⟩, q⟩ := h
    have hu := hu_of hr
    refine ⟨_, PSs.nox ((pss_cons (ps_set (i := 5) sc_law_fire.nd rfl (by first | exact Or.inl rfl | exact Or.inr rfl) pe_dnewK)
    (pss_cons (ps_for PassesOwn.never rfl (pi_list (pv 3)) (pg_tup rfl (pgs_cons (pg_name (i := 6) sc_law_fire.nd rfl (by first | exact Or.inl rfl | exact Or.inr rfl)) (pgs_cons (pg_name (i := 7) sc_law_fire.nd rfl (by first | exact Or.inl rfl | exact Or.inr rfl)) pgs_nil)))
      (pss_one (ps_dput hu (pv 5) (pv 6) (pe_callB (call_min2 rfl) (by rfl) S.f_min (by decide +kernel) (pa_cons (pv 7) (pa_cons (pe_dget2 hu (pv 5) (pv 6) (pv 7) ⟨rfl, rfl, rfl, rfl⟩) pa_nil))) rfl)))
    (pss_cons (ps_set (i := 8) sc_law_fire.nd rfl (by first | exact Or.inl rfl | exact Or.inr rfl) pe_dnewK)
    (pss_cons (ps_for PassesOwn.never rfl (pi_list (pv 2)) (pg_tup rfl (pgs_cons (pg_name (i := 6) sc_law_fire.nd rfl (by first | exact Or.inl rfl | exact Or.inr rfl)) (pgs_cons (pg_name (i := 7) sc_law_fire.nd rfl (by first | exact Or.inl rfl | exact Or.inr rfl)) pgs_nil)))
      (pss_one (ps_if (PW.pt (pw_and (PW.pt (pw_or (pt_cmp (pc_dnotin hu (pv 6) (pv 5)) (by rfl)) (pw_or1 (pt_cmpR op_lt (pv 7) (pe_dget hu (pv 5) (pv 6) (fun _ _ => rfl)) (nomark _))))) (pw_and1 (PW.pt (pw_or (pt_cmp (pc_dnotin hu (pv 6) (pv 8)) (by rfl)) (pw_or1 (pt_cmpR op_lt (pv 7) (pe_dget hu (pv 8) (pv 6) (fun _ _ => rfl)) (nomark _)))))))) (pss_one (ps_dput hu (pv 8) (pv 6) (pv 7) rfl)) pss_nil)))
    (pss_cons (ps_for PassesOwn.never rfl (pi_range1 rfl S.f_range (pa_cons (pe_op op_add (pe_callB call_len_seq (by rfl) S.f_len PySem.boot_len (pa_cons (pe_ix ix_list (pv 0) pe_int (fun _ _ => rfl)) pa_nil)) pe_int) pa_nil)) (pg_name (i := 9) sc_law_fire.nd rfl (by first | exact Or.inl rfl | exact Or.inr rfl))
      (pss_one (ps_for PassesOwn.never rfl (pi_tup (pe_ix ix_list (pv 0) pe_int (fun _ _ => rfl))) (pg_name (i := 10) sc_law_fire.nd rfl (by first | exact Or.inl rfl | exact Or.inr rfl))
      (pss_one (ps_if (pt_cmp (pc_din hu (pe_ix ix_tup (pv 10) pe_int (fun _ _ => rfl)) (pv 8)) (by rfl)) (pss_cons (ps_set (i := 11) sc_law_fire.nd rfl (by first | exact Or.inl rfl | exact Or.inr rfl) (pe_fn G_law_caught (hr.mono (by decide)) (pa_cons (pv 0) (pa_cons (pv 1) (pa_cons (pv 10) (pa_cons (pe_dget hu (pv 8) (pe_ix ix_tup (pv 10) pe_int (fun _ _ => rfl)) (fun _ _ => rfl)) (pa_cons (pv 4) pa_nil)))))))
    (pss_one (ps_if (PW.pt (pw_and (pt_cmpR op_notN (pv 11) pe_non (nomark _)) (pw_and1 (PW.pt (pw_or (pt_cmp (pc_dnotin hu (pe_ix ix_tup (pv 10) pe_int (fun _ _ => rfl)) (pv 5)) (by rfl)) (pw_or1 (pt_cmpR op_lt (pv 11) (pe_dget hu (pv 5) (pe_ix ix_tup (pv 10) pe_int (fun _ _ => rfl)) (fun _ _ => rfl)) (nomark _)))))))) (pss_one (ps_if (PW.pt (pw_or (pt_cmp (pc_dnotin hu (pe_ix ix_tup (pv 10) pe_int (fun _ _ => rfl)) (pv 8)) (by rfl)) (pw_or1 (pt_cmpR op_lt (pv 11) (pe_dget hu (pv 8) (pe_ix ix_tup (pv 10) pe_int (fun _ _ => rfl)) (fun _ _ => rfl)) (nomark _))))) (pss_one (ps_dput hu (pv 8) (pe_ix ix_tup (pv 10) pe_int (fun _ _ => rfl)) (pv 11) rfl)) pss_nil)) pss_nil))) pss_nil)))))
    (pss_one (ps_ret (pv 8))))))))), ?_⟩
    obtain ⟨ba, bs, rfl, hba, hbd⟩ := a.b.lst_at
    obtain ⟨sa, ss, rfl, hsa, hsd⟩ := a.s.lst_at
    have hbl := hbd.map_len
    have hsl := hsd.map_len
    have hB := a.g.bl
    -- the breaks
    refine fun ep ne => ?_
    have hbe : ba ≠ ep := ne_of_none hba ne
    refine gn (r_seq (s_forL (ev_var (by rfl)) (SqL.of (by rw [upd_ne hbe]; exact hba)) (fun i σ' H' => (∃ x6 x7, σ' = [some vp, some vw, some (.ref sa), some (.ref ba), some (.int (if sd then 1 else 0)), some (.ref ep), x6, x7, none, none, none, none]) ∧ Ex H H' ∧ H' ep = some (.dK (mapD ((B.take i).foldl lstep [])))) (fun H1 e1 => ⟨⟨_, _, rfl⟩, (Ex.new ne).trans e1, e1 _ _ upd_same⟩) (fun i σ' H' _ h => SqL.of (h.2.1 _ _ hba)) (fun i x σ' H' hx h => ?_) (fun σ' H' h => ?_)))
    · obtain ⟨⟨x6, x7, rfl⟩, eH, hp⟩ := h
      have hi : i < B.length := by have := (List.getElem?_eq_some_iff.mp hx).1; omega
      obtain ⟨r, hr1⟩ : ∃ r, B[i]? = some r := ⟨_, List.getElem?_eq_getElem hi⟩
      obtain ⟨b, rfl, hb⟩ := dt_rw ((hbd.map_at hx hr1).mono eH)
      refine ⟨b, _, rfl, .inl hb, rfl, _, _, rfl, _, _, rfl, rfl, ?_⟩
      have hg := DGet.k (k := Sum.inr r.1) hp
      rw [valV_mapD] at hg
      refine ⟨_, rfl, _, rfl, ep, rfl, .inl ⟨_, Rd.of hp⟩, _, rfl, _, rfl, _, hg, ?_⟩
      have e1 : ((look ((B.take i).foldl lstep []) r.1).map V.int).getD (V.int r.2) = V.int ((look ((B.take i).foldl lstep []) r.1).getD r.2) := by
        cases look ((B.take i).foldl lstep []) r.1 <;> rfl
      rw [e1]
      have hlen := lfold_len (B.take i) []
      have htk : (B.take i).length ≤ B.length := List.length_take_le' _ _
      refine ⟨_, _, rfl, _, rfl, _, rfl, ep, _, rfl, DPut.k (k := Sum.inr r.1) hp (by rw [mapD_len]; simp at hlen; exact sz_lt (by omega)), ?_⟩
      refine ⟨⟨_, _, rfl⟩, Ex.mut eH ne, ?_⟩
      rw [upd_same, putK_mapD, List.take_succ, hr1, List.foldl_append]
      rfl
    · obtain ⟨⟨x6, x7, rfl⟩, eH, hep⟩ := h
      rw [hbl, List.take_length] at hep
      have hep : H' ep = some (.dK (mapD (lmin B))) := hep
      -- the starts
      refine gn ?_
      refine fun up nu => ?_
      have nuH : H up = none := fresh_back eH nu
      have heu : ep ≠ up := ne_of_none hep nu
      have hsu : sa ≠ up := ne_of_none (eH _ _ hsa) nu
      refine gn (r_seq (s_forL (ev_var (by rfl)) (SqL.of (by rw [upd_ne hsu]; exact eH _ _ hsa)) (fun i σ' H2 => (∃ x6 x7, σ' = [some vp, some vw, some (.ref sa), some (.ref ba), some (.int (if sd then 1 else 0)), some (.ref ep), x6, x7, some (.ref up), none, none, none]) ∧ Ex H H2 ∧ H2 ep = some (.dK (mapD (lmin B))) ∧ H2 up = some (.dK (mapD ((St.take i).foldl (sstep B) [])))) (fun H1 e1 => ⟨⟨_, _, rfl⟩, (eH.trans (Ex.new nu)).trans e1, e1 _ _ (by rw [upd_ne heu]; exact hep), e1 _ _ upd_same⟩) (fun i σ' H2 _ h => SqL.of (h.2.1 _ _ hsa)) (fun i x σ' H2 hx h => ?_) (fun σ' H2 h => ?_)))
      · obtain ⟨⟨x6, x7, rfl⟩, eH2, hep2, hup2⟩ := h
        have hi : i < St.length := by have := (List.getElem?_eq_some_iff.mp hx).1; omega
        obtain ⟨r, hr1⟩ : ∃ r, St[i]? = some r := ⟨_, List.getElem?_eq_getElem hi⟩
        obtain ⟨b, rfl, hb⟩ := dt_rw ((hsd.map_at hx hr1).mono eH2)
        refine ⟨b, _, rfl, .inl hb, rfl, _, _, rfl, _, _, rfl, rfl, ?_⟩
        have htake : (St.take (i + 1)).foldl (sstep B) [] = sstep B ((St.take i).foldl (sstep B) []) r := by
          rw [List.take_succ, hr1, List.foldl_append]; rfl
        obtain ⟨_, _, hlen⟩ := sfold_all (B := B) (St.take i) [] (by simp [KN]) (fun p t h => by simp [look] at h) (fun q hq => (a.g.s q (List.mem_of_mem_take hq)).2)
        have htk : (St.take i).length ≤ St.length := List.length_take_le' _ _
        have hs20 := a.sl
        generalize (St.take i).foldl (sstep B) [] = d at *
        refine r_if (c := okB B r.1 r.2 && lessB (look d r.1) r.2) (et_and (et_okB (p := r.1) (m := r.2) (B := B) (ev_var (by rfl)) (ev_var (by rfl)) (ev_var (by rfl)) hep2) fun _ => et_lessB (p := r.1) (m := r.2) (l := d) (ev_var (by rfl)) (ev_var (by rfl)) (ev_var (by rfl)) hup2) (fun c H6 e6 => ?_) (fun c H6 e6 => ?_)
        · rw [Bool.and_eq_true] at c
          refine ⟨_, rfl, _, rfl, _, rfl, up, _, rfl, DPut.k (k := Sum.inr r.1) (e6 _ _ hup2) (by rw [mapD_len]; simp at hlen; exact sz_lt (by omega)), ?_⟩
          refine ⟨⟨_, _, rfl⟩, Ex.mut (eH2.trans e6) nuH, by rw [upd_ne heu]; exact e6 _ _ hep2, ?_⟩
          rw [upd_same, putK_mapD, htake]
          unfold sstep bput
          rw [if_pos c.1, if_pos c.2]
        · refine gn ⟨⟨_, _, rfl⟩, eH2.trans e6, e6 _ _ hep2, ?_⟩
          rw [htake]
          unfold sstep bput
          by_cases c1 : okB B r.1 r.2 = true
          · rw [if_pos c1, if_neg (by intro c2; rw [c1, c2] at c; cases c)]
            exact e6 _ _ hup2
          · rw [if_neg c1]
            exact e6 _ _ hup2
      · obtain ⟨⟨x6, x7, rfl⟩, eH2, hep2, hup2⟩ := h
        rw [hsl, List.take_length] at hup2
        have hup2 : H2 up = some (.dK (mapD (lawStart St B))) := hup2
        obtain ⟨s1, s2, s3⟩ := sfold_all (B := B) St [] (by simp [KN]) (fun p t h => by simp [look] at h) (fun q hq => (a.g.s q hq).2)
        have s1 : KN (lawStart St B) := s1
        have s2 : NN (lawStart St B) := s2
        have s3 : (lawStart St B).length ≤ 20 := by have := a.sl; simp at s3; exact Nat.le_trans s3 this
        have hlk := a.g.lko
        have hp7 := a.l.p.2
        have hl10 := a.l.l
        -- the rounds
        obtain ⟨pl, hpl, ev1⟩ := (a.p.mono eH2).ix1 (K := K) (σ := [some vp, some vw, some (.ref sa), some (.ref ba), some (.int (if sd then 1 else 0)), some (.ref ep), x6, x7, some (.ref up), none, none, none]) (ev_var (i := 0) (by rfl))
        refine gn (q_forR1 (n := (L.places.length : Int) + 1) (ea_cons (ev_add (ev_lenTS ev1 hpl) ev_c) ea_nil) ⟨by omega, by omega⟩ (fun i σ' H3 => (∃ x6 x7 x9 x10 x11, σ' = [some vp, some vw, some (.ref sa), some (.ref ba), some (.int (if sd then 1 else 0)), some (.ref ep), x6, x7, some (.ref up), x9, x10, x11]) ∧ Ex H H3 ∧ H3 ep = some (.dK (mapD (lmin B))) ∧ H3 up = some (.dK (mapD (lawN L W B sd i (lawStart St B))))) (fun H3 e3 => ⟨⟨_, _, _, _, _, rfl⟩, eH2.trans e3, e3 _ _ hep2, e3 _ _ hup2⟩) (fun i σ' H3 hi h => ?_) (fun σ' H3 h => ?_))
        · obtain ⟨⟨y6, y7, y9, y10, y11, rfl⟩, eH3, hep3, hup3⟩ := h
          have hi7 : i ≤ 7 := by omega
          obtain ⟨n1, n2, n3⟩ := lawN_all (W := W) (B := B) (sd := sd) hlk s1 s2 i
          have n4 : (lawN L W B sd i (lawStart St B)).length ≤ 90 := by
            have : i * L.links.length ≤ 7 * 10 := Nat.mul_le_mul hi7 hl10
            omega
          obtain ⟨D, hD⟩ : ∃ D, lawN L W B sd i (lawStart St B) = D := ⟨_, rfl⟩
          rw [hD] at n1 n2 n4 hup3
          obtain ⟨kl, ks, hkl, hkd, ev2⟩ := (a.p.mono eH3).ix2 (K := K) (σ := [some vp, some vw, some (.ref sa), some (.ref ba), some (.int (if sd then 1 else 0)), some (.ref ep), y6, y7, some (.ref up), some (.int (i : Int)), y10, y11]) (ev_var (i := 0) (by rfl))
          have hkn := hkd.map_len
          refine ev2 H3 (Ex.refl _) _ fun H4 e4 => ⟨kl, rfl, ⟨ks, .inl (ex_rd e4 hkl)⟩, for_tup (xs := ks) (fun j σ' H5 => (∃ x6 x7 x10 x11, σ' = [some vp, some vw, some (.ref sa), some (.ref ba), some (.int (if sd then 1 else 0)), some (.ref ep), x6, x7, some (.ref up), some (.int (i : Int)), x10, x11]) ∧ Ex H H5 ∧ Rd H5 kl (.tup ks) ∧ DtA H5 ks (L.links.map lnkD) ∧ H5 ep = some (.dK (mapD (lmin B))) ∧ H5 up = some (.dK (mapD ((L.links.take j).foldl (rstep L W B sd) D)))) ⟨⟨_, _, _, _, rfl⟩, eH3.trans e4, ex_rd e4 hkl, hkd.mono e4, e4 _ _ hep3, e4 _ _ hup3⟩ (fun j σ' H5 _ h => .inl h.2.2.1) (fun j x σ' H5 hx h => ?_) (fun σ' H5 h => ?_)⟩
          · obtain ⟨⟨z6, z7, z10, z11, rfl⟩, eH5, hkl5, hkd5, hep5, hup5⟩ := h
            have hj : j < L.links.length := by have := (List.getElem?_eq_some_iff.mp hx).1; omega
            obtain ⟨l, hl⟩ : ∃ l, L.links[j]? = some l := ⟨_, List.getElem?_eq_getElem hj⟩
            have hlm := List.mem_of_getElem? hl
            have htake : (L.links.take (j + 1)).foldl (rstep L W B sd) D = rstep L W B sd ((L.links.take j).foldl (rstep L W B sd) D) l := by
              rw [List.take_succ, hl, List.foldl_append]; rfl
            obtain ⟨r1, r2, r3⟩ := rfold_all (W := W) (B := B) (sd := sd) hlk (L.links.take j) D n1 n2 (fun l hl => List.mem_of_mem_take hl)
            have htk : (L.links.take j).length ≤ L.links.length := List.length_take_le' _ _
            generalize (L.links.take j).foldl (rstep L W B sd) D = d at *
            have hxd := hkd5.map_at hx hl
            obtain ⟨xa, tv, rfl, hxa, htv⟩ := dt_lnk hxd
            have ix1 : ∀ {H' : Hp}, Ex H5 H' → RV (rIxT K) (.ref xa) (.int 1) H' (.str l.one) := fun e => rv_ixT (.inl (ex_rd e hxa)) (atI_nat (j := 1) rfl)
            have ix2 : ∀ {H' : Hp}, Ex H5 H' → RV (rIxT K) (.ref xa) (.int 2) H' (.str l.other) := fun e => rv_ixT (.inl (ex_rd e hxa)) (atI_nat (j := 2) rfl)
            have nlk : noLs (L.links.map lnkD) = true := noLs_map noL_lnk _
            -- what stands as it stood
            have stay : ∀ {y7 y10 y11 : Option V} {H6 : Hp}, Ex H5 H6 → rstep L W B sd d l = d → (∃ x6 x7 x10 x11, ([some vp, some vw, some (.ref sa), some (.ref ba), some (.int (if sd then 1 else 0)), some (.ref ep), z6, y7, some (.ref up), some (.int (i : Int)), y10, y11] : L2.St) = [some vp, some vw, some (.ref sa), some (.ref ba), some (.int (if sd then 1 else 0)), some (.ref ep), x6, x7, some (.ref up), some (.int (i : Int)), x10, x11]) ∧ Ex H H6 ∧ Rd H6 kl (.tup ks) ∧ DtA H6 ks (L.links.map lnkD) ∧ H6 ep = some (.dK (mapD (lmin B))) ∧ H6 up = some (.dK (mapD ((L.links.take (j + 1)).foldl (rstep L W B sd) D))) := fun e6 hst => by
              refine ⟨⟨_, _, _, _, rfl⟩, eH5.trans e6, ex_rd e6 hkl5, hkd5.mono e6, e6 _ _ hep5, ?_⟩
              rw [htake, hst]
              exact e6 _ _ hup5
            refine r_if (et_B (ev_din (p := l.one) (l := d) (ev_op (ev_var (by rfl)) ev_c (ix1 (Ex.refl _))) (ev_var (by rfl)) hup5)) (fun c H6 e6 => ?_) (fun c H6 e6 => ?_)
            · obtain ⟨m, hm⟩ : ∃ m, look d l.one = some m := by
                cases z : look d l.one with
                | none => rw [z] at c; cases c
                | some m => exact ⟨m, rfl⟩
              have hm0 := r2 _ _ hm
              refine q_asgP (ep_call (R := R_law_caught) (P := fun v _ => v = oiV (pass L W sd l m)) (ea_cons (ev_var (by rfl)) (ea_cons (ev_var (by rfl)) (ea_cons (ev_var (by rfl)) (ea_cons (ev_dget (p := l.one) (l := d) (ev_op (ev_var (by rfl)) ev_c (ix1 e6)) (ev_var (by rfl)) (e6 _ _ hup5) hm) (ea_cons (ev_var (by rfl)) ea_nil))))) fun H7 e7 => ⟨vp, vw, .ref xa, L, W, l, m, sd, rfl, a.p.mono ((eH5.trans e6).trans e7), a.w.mono ((eH5.trans e6).trans e7), a.g.w, hxd.mono (e6.trans e7), (a.g.lk.lt l hlm).1, hm0, rfl⟩) fun v H7 e7 ev => ?_
              subst ev
              have e67 := e6.trans e7
              cases hz : pass L W sd l m with
              | none =>
                refine r_if (c := false) (et_is (et_and (a := false) (b := false) (et_test (ev_op (x := .non) (ev_var (by rfl)) ev_c rv_notN)) (fun c => by cases c)) rfl) (fun c => by cases c) fun _ H8 e8 => ?_
                exact gn (stay (e67.trans e8) (by unfold rstep; rw [hm]; simp only; rw [hz]))
              | some e =>
                refine r_if (c := okB B l.other e) (et_is (et_and (a := true) (et_test (ev_op (x := .int e) (ev_var (by rfl)) ev_c rv_notN)) (fun c => et_okB (p := l.other) (m := e) (B := B) (ev_op (ev_var (by rfl)) ev_c (ix2 e67)) (ev_var (by rfl)) (ev_var (by rfl)) (e67 _ _ hep5))) (by simp)) (fun c H8 e8 => ?_) (fun c H8 e8 => ?_)
                · have e68 := e67.trans e8
                  refine r_if (c := lessB (look d l.other) e) (et_lessB (p := l.other) (m := e) (l := d) (ev_op (ev_var (by rfl)) ev_c (ix2 e68)) (ev_var (by rfl)) (ev_var (by rfl)) (e68 _ _ hup5)) (fun c2 H9 e9 => ?_) (fun c2 H9 e9 => ?_)
                  · have e69 := e68.trans e9
                    refine ⟨_, rfl, _, rfl, _, rfl, xa, _, 2, .str l.other, rfl, rfl, .inl (ex_rd e69 hxa), atI_nat (j := 2) rfl, up, _, rfl, DPut.k (k := Sum.inr l.other) (e69 _ _ hup5) (by rw [mapD_len]; exact sz_lt (by omega)), ?_⟩
                    have nt : NoTup (H9 up) := by rw [e69 _ _ hup5]; trivial
                    refine ⟨⟨_, _, _, _, rfl⟩, Ex.mut (eH5.trans e69) nuH, rd_upd nt (ex_rd e69 hkl5), DtA.upd nt nlk (hkd5.mono e69), by rw [upd_ne heu]; exact e69 _ _ hep5, ?_⟩
                    rw [upd_same, show oiV (some e) = V.int e from rfl, putK_mapD, htake]
                    unfold rstep
                    rw [hm]
                    simp only
                    rw [hz]
                    simp only
                    rw [if_pos c]
                    unfold bput
                    rw [if_pos c2]
                  · refine gn (stay (e68.trans e9) ?_)
                    unfold rstep
                    rw [hm]
                    simp only
                    rw [hz]
                    simp only
                    rw [if_pos c]
                    unfold bput
                    rw [if_neg (by rw [c2]; decide)]
                · refine gn (stay (e67.trans e8) ?_)
                  unfold rstep
                  rw [hm]
                  simp only
                  rw [hz]
                  simp only
                  rw [if_neg (by rw [c]; decide)]
            · refine gn (stay e6 ?_)
              have hm : look d l.one = none := by
                cases z : look d l.one with
                | none => rfl
                | some m => rw [z] at c; cases c
              unfold rstep
              rw [hm]
          · obtain ⟨⟨z6, z7, z10, z11, rfl⟩, eH5, hkl5, hkd5, hep5, hup5⟩ := h
            rw [hkn, List.take_length] at hup5
            refine gn ⟨⟨_, _, _, _, _, rfl⟩, eH5, hep5, ?_⟩
            rw [← hD] at hup5
            exact hup5
        · obtain ⟨⟨y6, y7, y9, y10, y11, rfl⟩, eH3, hep3, hup3⟩ := h
          have ek : ((L.places.length : Int) + 1).toNat = L.places.length + 1 := by omega
          rw [ek] at hup3
          obtain ⟨n1, _, _⟩ := lawN_all (W := W) (B := B) (sd := sd) hlk s1 s2 (L.places.length + 1)
          exact ⟨_, rfl, q _ H3 eH3 ⟨up, _, rfl, hup3, n1, law_fire a.g.q (fun l hl => (a.g.lk.le l hl).1) (by omega)⟩⟩
end
end EF
set_option maxHeartbeats 4000000
namespace EF
open PySem PySem.Spec PyProof.Rows L2 Evl
/-- a comprehension whose items are told by a word -/
theorem ep_lcP {PE : Nat → V → Hp → Prop} {wi : TI} {g : TG} {te : TE} {vs : List Nat} {σ : L2.St} {H : Hp} {I : Nat → Post} {n : Nat} (mono : ∀ i v H H', Ex H H' → PE i v H → PE i v H') (st : ∀ i v H D xs ys, H D = some (.lst xs) → PE i v H → PE i v (upd H D (.lst ys))) (hn : n < 100000) (hi : EvI wi σ H n I)
    (hs : ∀ i x H1, Ex H H1 → i < n → I i x H1 → ∀ H2, Ex H1 H2 → ∀ Qk : VK, (∀ v H3, Ex H2 H3 → PE i v H3 → Qk v H3) → g x (wipe σ vs) H2 fun σ2 H3 => wipe σ2 vs = wipe σ vs ∧ te σ2 H3 Qk) :
    EvP (tLc wi g tYes te vs) σ H (fun v H' => ∃ p ys, v = .ref p ∧ H p = none ∧ H' p = some (.lst ys) ∧ ys.length = n ∧ ∀ i y, ys[i]? = some y → PE i y H') := by
  intro H1 e1 Q q
  refine hi H1 e1 _ fun J H2 e2 ⟨G, Y, w, hG, mG, hY⟩ => ?_
  intro D hD
  have e02 := e1.trans e2
  refine lc_it w (fun i H' => ∃ acc, Ex H2 H' ∧ H' D = some (.lst acc) ∧ acc.length = i ∧ ∀ j y, acc[j]? = some y → PE j y H') ⟨[], Ex.new hD, upd_same, rfl, fun j y h => by simp at h⟩ (fun i H' _ ⟨acc, e, _⟩ => mG _ _ e hG) ?_ ?_
  · intro i x H3 H4 hlt ⟨acc, e3, hacc, hla, hd⟩ hy
    obtain ⟨e34, hI⟩ := hY i H3 x H4 hlt (mG _ _ e3 hG) hy
    have e24 := e3.trans e34
    have e04 := e02.trans e24
    have key : ∀ v H5, Ex H4 H5 → PE i v H5 → ∃ acc', H5 D = some (.lst acc') ∧ acc'.length < sizeLine ∧ ∃ acc2, Ex H2 (upd H5 D (.lst (acc' ++ [v]))) ∧ (upd H5 D (.lst (acc' ++ [v]))) D = some (.lst acc2) ∧ acc2.length = i + 1 ∧ ∀ j y, acc2[j]? = some y → PE j y (upd H5 D (.lst (acc' ++ [v]))) := fun v H5 e5 pv => by
      have h5 : H5 D = some (.lst acc) := e5 _ _ (e34 _ _ hacc)
      refine ⟨acc, h5, sz_lt (by omega), acc ++ [v], Ex.mut (e24.trans e5) hD, upd_same, by simp [hla], fun j y hj => ?_⟩
      by_cases c : j < acc.length
      · rw [List.getElem?_append_left c] at hj
        exact st _ _ _ _ _ _ h5 (mono _ _ _ _ (e34.trans e5) (hd j y hj))
      · rw [List.getElem?_append_right (by omega)] at hj
        have c0 : j - acc.length = 0 := by
          have := (List.getElem?_eq_some_iff.mp hj).1
          simp at this
          omega
        rw [c0] at hj
        have hj := (Option.some.inj hj).symm
        subst hj
        have hji : j = i := by omega
        rw [hji]
        exact st _ _ _ _ _ _ h5 pv
    exact hs i x H4 e04 hlt hI H4 (Ex.refl _) _ key
  · intro H3 ⟨acc, e3, hacc, hla, hd⟩
    exact q _ H3 (e2.trans e3) ⟨D, acc, rfl, fresh_back e02 hD, hacc, hla, hd⟩
section
variable {K : PySem.W.Frag} {σ : L2.St} {H : Hp} {ta tb te : TE} {ds d1 d2 : List PyData}
theorem sl_whole_take {n k : Nat} : (HT.sIx n 0 none = 0 ∧ HT.sIx n n (some (k : Int)) = n) ↔ n ≤ k := by
  rw [HT.sIx_nat]
  show (0 = 0 ∧ min k n = n) ↔ n ≤ k
  omega
theorem ed_slTake {k : Nat} (h : EvD te σ H (.tuple ds)) (hb : Ev tb σ H (.int (k : Int))) : EvD (tSl (rSlA K) te tNoPart (tPart tb)) σ H (.tuple (ds.take k)) := fun H1 e Q q =>
  h H1 e _ fun v H2 e2 hv => hb H2 (e.trans e2) _ fun H3 e3 => ⟨k, rfl, by
    obtain ⟨a, xs, rfl, ha, hd⟩ := (hv.mono e3).tup_at
    refine ⟨a, xs, rfl, .inl ha, fun hw => ?_, fun hw p np => ?_⟩
    · have := sl_whole_take.mp hw
      rw [hd.len] at this
      rw [List.take_of_length_le this] at q
      exact q _ H3 (e2.trans e3) (.tup ha hd)
    · refine q _ _ ((e2.trans e3).trans (Ex.new np)) (.tup (Rd.of upd_same) ?_)
      rw [cutTo]
      exact (hd.take k).mono (Ex.new np)⟩
theorem cutFrom (xs : List V) (k : Nat) : cutV xs (some (k : Int)) none = xs.drop k := by
  unfold cutV
  have e : HT.sIx xs.length xs.length none = xs.length := rfl
  rw [e, HT.sIx_nat]
  by_cases c : k ≤ xs.length
  · rw [Nat.min_eq_left c]
    apply List.take_of_length_le
    simp
  · rw [Nat.min_eq_right (by omega), List.drop_of_length_le (by omega : xs.length ≤ xs.length), List.drop_of_length_le (by omega : xs.length ≤ k)]
    simp
theorem ed_slDrop {k : Nat} (h : EvD te σ H (.tuple ds)) (hb : Ev tb σ H (.int (k : Int))) : EvD (tSl (rSlA K) te (tPart tb) tNoPart) σ H (.tuple (ds.drop k)) := fun H1 e Q q =>
  h H1 e _ fun v H2 e2 hv => hb H2 (e.trans e2) _ fun H3 e3 => ⟨k, rfl, by
    obtain ⟨a, xs, rfl, ha, hd⟩ := (hv.mono e3).tup_at
    refine ⟨a, xs, rfl, .inl ha, fun hw => ?_, fun hw p np => ?_⟩
    · have h0 : min k xs.length = 0 := by have := hw.1; rwa [HT.sIx_nat] at this
      have hdr : ds.drop k = ds := by
        by_cases c : k = 0
        · rw [c]; rfl
        · have : xs.length = 0 := by omega
          rw [hd.len] at this
          rw [List.length_eq_zero_iff.mp this]
          simp
      rw [hdr] at q
      exact q _ H3 (e2.trans e3) (.tup ha hd)
    · refine q _ _ ((e2.trans e3).trans (Ex.new np)) (.tup (Rd.of upd_same) ?_)
      rw [cutFrom]
      exact (hd.drop k).mono (Ex.new np)⟩
theorem ed_catA (ha : EvD ta σ H (.tuple d1)) (hb : EvD tb σ H (.tuple d2)) (hl : d1.length + d2.length ≤ 1000) : EvD (tOp (rCatA K) ta tb) σ H (.tuple (d1 ++ d2)) := fun H1 e Q q =>
  ha H1 e _ fun v H2 e2 hv => hb H2 (e.trans e2) _ fun u H3 e3 hu => by
    obtain ⟨a, xs, rfl, hxa, hxd⟩ := (hv.mono e3).tup_at
    obtain ⟨b, ys, rfl, hyb, hyd⟩ := hu.tup_at
    have l1 := hxd.len
    have l2 := hyd.len
    refine ⟨a, b, xs, ys, rfl, rfl, .inl hxa, .inl hyb, sz_of (by omega), fun hx => ?_, fun hx hy => ?_, fun hx hy p np => ?_⟩
    · have : d1 = [] := by rw [hx] at l1; exact List.length_eq_zero_iff.mp l1.symm
      rw [this] at q
      exact q _ H3 (e2.trans e3) (.tup hyb hyd)
    · have : d2 = [] := by rw [hy] at l2; exact List.length_eq_zero_iff.mp l2.symm
      rw [this, List.append_nil] at q
      exact q _ H3 (e2.trans e3) (.tup hxa hxd)
    · exact q _ _ ((e2.trans e3).trans (Ex.new np)) (.tup (Rd.of upd_same) ((hxd.append hyd).mono (Ex.new np)))
end
theorem eraseIdx_cut {α : Type} (l : List α) (k : Nat) : l.eraseIdx k = l.take k ++ l.drop (k + 1) := by
  rw [List.eraseIdx_eq_take_drop_succ]
/-- the k-th link left out is the link of its name left out -/
theorem erase_name : ∀ {l : List Lnk} {k : Nat} {x : Lnk}, (l.map (·.nm)).Nodup → l[k]? = some x → l.eraseIdx k = l.filter fun y => decide (y.nm ≠ x.nm)
  | [], _, _, _, h => by simp at h
  | y :: l, 0, x, hn, h => by
    rw [List.map_cons, List.nodup_cons] at hn
    have hx : y = x := by simpa using h
    subst hx
    rw [List.eraseIdx_cons_zero, List.filter_cons, if_neg (by simp)]
    rw [List.filter_eq_self.mpr]
    intro z hz
    refine decide_eq_true fun e => hn.1 ?_
    exact List.mem_map.mpr ⟨z, hz, e⟩
  | y :: l, k + 1, x, hn, h => by
    rw [List.map_cons, List.nodup_cons] at hn
    have h' : l[k]? = some x := by simpa using h
    have hne : y.nm ≠ x.nm := fun e => hn.1 (List.mem_map.mpr ⟨x, List.mem_of_getElem? h', e.symm⟩)
    rw [List.eraseIdx_cons_succ, erase_name hn.2 h', List.filter_cons, if_pos (by simpa using hne)]
def eraseL (L : Ld) (k : Nat) : Ld := withLinks L (L.links.eraseIdx k)
theorem eraseL_eq {L : Ld} (h : LdOk L) {k : Nat} {x : Lnk} (hx : L.links[k]? = some x) : eraseL L k = without L x.nm := by
  unfold eraseL without
  rw [erase_name h.ld hx]
section
variable {P : Program} {w : World} {K : PySem.W.Frag} {mg : Str → Option Value} {base : Heap}
def R_law_fires : List V → Hp → Post → Prop := fun vs H Po => ∃ vp vw vs' vb L W St B, vs = [vp, vw, vs', vb] ∧ LawQ H vp vw vs' vb L W St B ∧ Po = fun v H' => ∃ l0 l1, DDV H' v l0 l1 ∧ look l0 = fire L W St B false ∧ look l1 = fire L W St B true
theorem sc_law_fires : FnScope ["_law_parts_here", "_law_weather_here", "_law_starts", "_law_breaks", "_law_side"] ["_law_parts_here", "_law_weather_here", "_law_starts", "_law_breaks"] (defScope s_law_fires) := ⟨rfl, rfl, rfl, by decide +kernel, rfl, by decide +kernel, by decide +kernel⟩
theorem ok_law_fires (S : Says K mg) : Fn P w K mg base 4 "_law_fires" ["_law_parts_here", "_law_weather_here", "_law_starts", "_law_breaks"] (spR R_law_fires) := by
  have G_law_fire := ok_law_fire (P := P) (w := w) (base := base) S
  obtain ⟨fd, F⟩ := S.def_law_fires
  refine ⟨⟨_, fd, S.g_law_fires, F.kp, F.bindsN (fun _ _ _ _ _ _ us hl => match us, hl with | [_, _, _, _], _ => rfl), F.ok sc_law_fires (fun vs H Q E h => ?_) (fun cdv A outer s H vs Q E hr h => ?_)⟩⟩
  · obtain ⟨_, ⟨_, _, _, _, _, _, _, _, rfl, _⟩, _⟩ := h
    rfl
  · obtain ⟨_, ⟨vp, vw, vs', vb, L, W, St, B, rfl, a, rfl⟩, q⟩ := h
    refine ⟨_, PSs.nox ((pss_one (ps_ret (pe_lc (own := [("_law_side", 4)]) (g := (gName 4)) (tt := tYes) (te := (tCl _ E0 (tCons (tVar 0) (tCons (tVar 1) (tCons (tVar 2) (tCons (tVar 3) (tCons (tVar 4) tNil))))))) rfl sc_law_fires.nd (pi_range1 rfl S.f_range (pa_cons pe_int pa_nil)) (blkOk_by (N := ["_law_parts_here", "_law_weather_here", "_law_starts", "_law_breaks", "_law_side"]) (sc := defScope s_law_fires) (by decide +kernel)) (fun _ _ _ _ _ => (pg_name (i := 4) sc_law_fires.nd rfl (by first | exact Or.inl rfl | exact Or.inr rfl))) (fun _ _ _ _ _ => pts_nil) (fun _ _ _ _ _ => (pe_fn G_law_fire (hr.mono (by decide)) (pa_cons (pv 0) (pa_cons (pv 1) (pa_cons (pv 2) (pa_cons (pv 3) (pa_cons (pv 4) pa_nil))))))))))), ?_⟩
    refine s_retP (ep_lcP (PE := fun i v H' => ∃ p l, v = .ref p ∧ H' p = some (.dK (mapD l)) ∧ KN l ∧ look l = fire L W St B (decide (i = 1))) (n := 2) (fun i v H H' e ⟨p, l, h1, h2, h3⟩ => ⟨p, l, h1, e _ _ h2, h3⟩) (fun i v H D xs ys hD ⟨p, l, h1, h2, h3⟩ => ⟨p, l, h1, by rw [upd_ne (fun e => by rw [e, hD] at h2; cases h2)]; exact h2, h3⟩) (by decide) (ei_range1 (n := 2) (ea_cons ev_c ea_nil) (by decide) (by decide)) (fun i x H1 e1 hi hx H2 e2 Qk hk => ?_)) fun v H1 e1 ⟨p, ys, ev, np, hp, hl, hy⟩ => q v H1 e1 ?_
    · subst hx
      refine ⟨rfl, ?_⟩
      have hsd : V.int ((i : Nat) : Int) = V.int (if decide (i = 1) then 1 else 0) := by
        match i, hi with
        | 0, _ => rfl
        | 1, _ => rfl
      refine r_bind (ep_call (R := R_law_fire) (ea_cons (ev_var (by rfl)) (ea_cons (ev_var (by rfl)) (ea_cons (ev_var (by rfl)) (ea_cons (ev_var (by rfl)) (ea_cons (ev_var (v := .int (i : Int)) (by rfl)) ea_nil))))) fun H3 e3 => ⟨vp, vw, vs', vb, L, W, St, B, decide (i = 1), by rw [hsd], a.mono ((e1.trans e2).trans e3), rfl⟩) fun v H3 e3 hv => hk v H3 e3 hv
    · match ys, hl with
      | [y0, y1], _ =>
        obtain ⟨d0, l0, rfl, h0, k0, f0⟩ := hy 0 y0 rfl
        obtain ⟨d1, l1, rfl, h1, k1, f1⟩ := hy 1 y1 rfl
        exact ⟨l0, l1, ⟨⟨p, d0, d1, ev, hp, h0, h1⟩, k0, k1⟩, f0, f1⟩
def R_law_rows : List V → Hp → Post → Prop := fun vs H Po => ∃ a ns at_ many most vp L, vs = [.ref a, .int (at_ : Nat), .int (many : Nat), vp, .int most] ∧ NumV H a ns ∧ PartsV H vp L ∧ LawLd L ∧ at_ + 2 * many ≤ 170 ∧ many ≤ 10 ∧ 0 < most ∧ Po = fun v H' => ∃ R : Rws, Dt H' v (rwsD R) ∧ R.length = many ∧ ∀ q ∈ R, q.1 ∈ L.places ∧ 0 ≤ q.2
theorem sc_law_rows : FnScope ["_law_numbers_here", "_law_at", "_law_many", "_law_parts_here", "_law_most", "_law_k"] ["_law_numbers_here", "_law_at", "_law_many", "_law_parts_here", "_law_most"] (defScope s_law_rows) := ⟨rfl, rfl, rfl, by decide +kernel, rfl, by decide +kernel, by decide +kernel⟩
theorem ok_law_rows (S : Says K mg) : Fn P w K mg base 1 "_law_rows" ["_law_numbers_here", "_law_at", "_law_many", "_law_parts_here", "_law_most"] (spR R_law_rows) := by
  obtain ⟨fd, F⟩ := S.def_law_rows
  refine ⟨⟨_, fd, S.g_law_rows, F.kp, F.bindsN (fun _ _ _ _ _ _ us hl => match us, hl with | [_, _, _, _, _], _ => rfl), F.ok sc_law_rows (fun vs H Q E h => ?_) (fun cdv A outer s H vs Q E hr h => ?_)⟩⟩
  · obtain ⟨_, ⟨_, _, _, _, _, _, _, rfl, _⟩, _⟩ := h
    rfl
  · obtain ⟨_, ⟨a, ns, at_, many, most, vp, L, rfl, hN, hP, hL, hat, hm10, hmost, rfl⟩, q⟩ := h
    refine ⟨_, PSs.nox ((pss_one (ps_ret (pe_lc (own := [("_law_k", 5)]) (g := (gName 5)) (tt := tYes) (te := (tTup (tCons (tOp (rIxT K) (tOp (rIxL K) (tVar 3) (tC (.int 1))) (tOp _ (tCB _ (tCons (tOp (rIxL K) (tVar 0) (tOp _ (tVar 1) (tOp _ (tC (.int 2)) (tVar 5)))) tNil)) (tCB (rLenS K) (tCons (tOp (rIxL K) (tVar 3) (tC (.int 1))) tNil)))) (tCons (tOp _ (tCB _ (tCons (tOp (rIxL K) (tVar 0) (tOp _ (tOp _ (tVar 1) (tOp _ (tC (.int 2)) (tVar 5))) (tC (.int 1)))) tNil)) (tVar 4)) tNil)))) rfl sc_law_rows.nd (pi_range1 rfl S.f_range (pa_cons (pv 2) pa_nil)) (blkOk_by (N := ["_law_numbers_here", "_law_at", "_law_many", "_law_parts_here", "_law_most", "_law_k"]) (sc := defScope s_law_rows) (by decide +kernel)) (fun _ _ _ _ _ => (pg_name (i := 5) sc_law_rows.nd rfl (by first | exact Or.inl rfl | exact Or.inr rfl))) (fun _ _ _ _ _ => pts_nil) (fun _ _ _ _ _ => (pe_tup (pa_cons (pe_ix ix_tup (pe_ix ix_list (pv 3) pe_int (fun _ _ => rfl)) (pe_op op_mod (pe_callTy call_int1 (by rfl) S.f_int (by decide +kernel) (pa_cons (pe_ix ix_list (pv 0) (pe_op op_add (pv 1) (pe_op op_mul pe_int (pv 5))) (fun _ _ => rfl)) pa_nil)) (pe_callB call_len_seq (by rfl) S.f_len PySem.boot_len (pa_cons (pe_ix ix_list (pv 3) pe_int (fun _ _ => rfl)) pa_nil))) (fun _ _ => rfl)) (pa_cons (pe_op op_mod (pe_callTy call_int1 (by rfl) S.f_int (by decide +kernel) (pa_cons (pe_ix ix_list (pv 0) (pe_op op_add (pe_op op_add (pv 1) (pe_op op_mul pe_int (pv 5))) pe_int) (fun _ _ => rfl)) pa_nil)) (pv 4)) pa_nil)))))))), ?_⟩
    have hp1 := hL.p.1
    obtain ⟨pl, hpl⟩ : ∃ f : Nat → Str, (fun k : Nat => L.places.getD (nAt ns ((at_ : Int) + 2 * (k : Int)).toNat % (L.places.length : Int)).toNat "") = f := ⟨_, rfl⟩
    obtain ⟨mi, hmi⟩ : ∃ f : Nat → Int, (fun k : Nat => nAt ns ((at_ : Int) + 2 * (k : Int) + 1).toNat % most) = f := ⟨_, rfl⟩
    have hmem : ∀ k, pl k ∈ L.places ∧ L.places[(nAt ns ((at_ : Int) + 2 * (k : Int)).toNat % (L.places.length : Int)).toNat]? = some (pl k) := fun k => by
      have hb := mod_b (nAt ns ((at_ : Int) + 2 * (k : Int)).toNat) (show (0 : Int) < (L.places.length : Int) by omega)
      have hlt : (nAt ns ((at_ : Int) + 2 * (k : Int)).toNat % (L.places.length : Int)).toNat < L.places.length := by omega
      have e : L.places[(nAt ns ((at_ : Int) + 2 * (k : Int)).toNat % (L.places.length : Int)).toNat]? = some (pl k) := by
        rw [← hpl]
        simp only
        rw [List.getD_eq_getElem?_getD, List.getElem?_eq_getElem hlt]
        rfl
      exact ⟨List.mem_of_getElem? e, e⟩
    refine s_retP (ep_lc (List.range many) (fun k => some (rwD (pl k, mi k))) (ei_range1 (n := (many : Int)) (ea_cons (ev_var (by rfl)) ea_nil) (by omega) (by omega)) (by simp) (by simp; omega) (fun _ _ d h => by cases h; exact noL_rw _) (fun i x k H1 e1 hk hx => ?_)) fun v H1 e1 ⟨p, ys, ev, np, hp, hd⟩ => q v H1 e1 ⟨(List.range many).map fun k => (pl k, mi k), ?_, by simp, fun r hr => ?_⟩
    · subst hx
      obtain ⟨hi, hk2⟩ := List.getElem?_eq_some_iff.mp hk
      rw [List.getElem_range] at hk2
      subst hk2
      rw [List.length_range] at hi
      intro H2 e2 Qk Qn hk5 hn5
      refine lcY rfl ?_
      have hN2 := hN.mono (e1.trans e2)
      have hP2 := hP.mono (e1.trans e2)
      have hx1 : 0 ≤ (at_ : Int) + 2 * (i : Int) ∧ (at_ : Int) + 2 * (i : Int) < 170 := by omega
      have hx2 : 0 ≤ (at_ : Int) + 2 * (i : Int) + 1 ∧ (at_ : Int) + 2 * (i : Int) + 1 < 170 := by omega
      have hb := mod_b (nAt ns ((at_ : Int) + 2 * (i : Int)).toNat) (show (0 : Int) < (L.places.length : Int) by omega)
      obtain ⟨wa, hw, h0⟩ := hP2.ix1 (K := K) (σ := [some (.ref a), some (.int (at_ : Nat)), some (.int (many : Nat)), some vp, some (.int most), some (.int ((i : Nat) : Int))]) (ev_var (i := 3) (by rfl))
      obtain ⟨z, hz, rv⟩ := tup_ix (K := K) hw hb.1 hb.2
      rw [(hmem i).2] at hz
      have hz := (Option.some.inj hz).symm
      subst hz
      refine r_bind (ed_tup (ead_cons (ed_str (ev_op h0 (ev_mod (ev_int (hN2.ix (K := K) (ev_var (by rfl)) (ev_add (ev_var (by rfl)) (ev_mul ev_c (ev_var (by rfl)) (cmul_l (by decide)))) hx1.1 hx1.2)) (ev_lenTS h0 hw) (by omega)) rv)) (ead_cons (ed_int (ev_mod (ev_int (hN2.ix (K := K) (ev_var (by rfl)) (ev_add (ev_add (ev_var (by rfl)) (ev_mul ev_c (ev_var (by rfl)) (cmul_l (by decide)))) ev_c) hx2.1 hx2.2)) (ev_var (by rfl)) hmost)) ead_nil)) (by simp)) fun v H3 e3 hv => hk5 _ rfl v H3 e3 ?_
      rw [← hmi]
      exact hv
    · subst ev
      rw [List.filterMap_eq_map'] at hd
      refine .lst hp ?_
      rw [List.map_map]
      exact hd
    · obtain ⟨k, _, rfl⟩ := List.mem_map.mp hr
      refine ⟨(hmem k).1, ?_⟩
      rw [← hmi]
      exact (mod_b _ hmost).1
def R_law_land (K : PySem.W.Frag) : List V → Hp → Post → Prop := fun vs H Po => ∃ vp L, vs = [vp] ∧ PartsV H vp L ∧ LdOk L ∧ Po = fun v H' => LandV K H' v L
theorem sc_law_land : FnScope ["_law_parts_here"] ["_law_parts_here"] (defScope s_law_land) := ⟨rfl, rfl, rfl, by decide +kernel, rfl, by decide +kernel, by decide +kernel⟩
theorem ok_law_land (S : Says K mg) (LP : PrOk K) : Fn P w K mg base 6 "_law_land" ["_law_parts_here"] (spR (R_law_land K)) := by
  have G_Land := ok_init (P := P) (w := w) (base := base) S LP
  obtain ⟨fd, F⟩ := S.def_law_land
  refine ⟨⟨_, fd, S.g_law_land, F.kp, F.bindsN (fun _ _ _ _ _ _ us hl => match us, hl with | [_], _ => rfl), F.ok sc_law_land (fun vs H Q E h => ?_) (fun cdv A outer s H vs Q E hr h => ?_)⟩⟩
  · obtain ⟨_, ⟨_, _, rfl, _⟩, _⟩ := h
    rfl
  · obtain ⟨_, ⟨vp, L, rfl, hP, hk, rfl⟩, q⟩ := h
    obtain ⟨a, wa, vp, vl, vt, rfl, h2, h3, h4, h5, h6⟩ := hP.ex
    refine ⟨_, PSs.nox ((pss_one (ps_ret (pe_mkL G_Land (hr.mono (by decide)) (pk_cons (pe_ix ix_list (pv 0) pe_int (fun _ _ => rfl)) (pk_cons (pe_ix ix_list (pv 0) pe_int (fun _ _ => rfl)) (pk_cons (pe_ix ix_list (pv 0) pe_int (fun _ _ => rfl)) (pk_cons (pe_ix ix_list (pv 0) pe_int (fun _ _ => rfl)) pk_nil)))))))), ?_⟩
    have ix : ∀ {u : V} {j : Nat}, ([.ref wa, vp, vl, vt] : List V)[j]? = some u → Ev (tOp (rIxL K) (tVar 0) (tC (.int (j : Int)))) [some (.ref a)] H u := fun hj => ev_op (ev_var (by rfl)) ev_c (rv_ixL (SqL.of h2) (atI_nat hj))
    exact s_retP (ep_mkL (ea_cons (ix (j := 0) rfl) (ea_cons (ix (j := 1) rfl) (ea_cons (ix (j := 2) rfl) (ea_cons (ix (j := 3) rfl) ea_nil)))) ⟨h3, h4, .inr h5, h6⟩ hk) fun v H1 e1 hv => q v H1 e1 hv
def R_law_without : List V → Hp → Post → Prop := fun vs H Po => ∃ vp L k, vs = [vp, .int (k : Nat)] ∧ PartsV H vp L ∧ LawLd L ∧ Po = fun v H' => PartsV H' v (eraseL L k)
theorem sc_law_without : FnScope ["_law_parts_here", "_law_k"] ["_law_parts_here", "_law_k"] (defScope s_law_without) := ⟨rfl, rfl, rfl, by decide +kernel, rfl, by decide +kernel, by decide +kernel⟩
theorem ok_law_without (S : Says K mg) : Fn P w K mg base 1 "_law_without" ["_law_parts_here", "_law_k"] (spR R_law_without) := by
  obtain ⟨fd, F⟩ := S.def_law_without
  refine ⟨⟨_, fd, S.g_law_without, F.kp, F.bindsN (fun _ _ _ _ _ _ us hl => match us, hl with | [_, _], _ => rfl), F.ok sc_law_without (fun vs H Q E h => ?_) (fun cdv A outer s H vs Q E hr h => ?_)⟩⟩
  · obtain ⟨_, ⟨_, _, _, rfl, _⟩, _⟩ := h
    rfl
  · obtain ⟨_, ⟨vp, L, k, rfl, hP, hL, rfl⟩, q⟩ := h
    obtain ⟨a, wa, vp, vl, vt, rfl, h2, h3, h4, h5, h6⟩ := hP.ex
    have hl10 := hL.l
    refine ⟨_, PSs.nox ((pss_one (ps_ret (pe_lst (pa_cons (pe_ix ix_list (pv 0) pe_int (fun _ _ => rfl)) (pa_cons (pe_ix ix_list (pv 0) pe_int (fun _ _ => rfl)) (pa_cons (pe_op op_catA (pe_slice sl_tupA (pe_ix ix_list (pv 0) pe_int (fun _ _ => rfl)) po_none (po_some (pv 1))) (pe_slice sl_tupA (pe_ix ix_list (pv 0) pe_int (fun _ _ => rfl)) (po_some (pe_op op_add (pv 1) pe_int)) po_none)) (pa_cons (pe_ix ix_list (pv 0) pe_int (fun _ _ => rfl)) pa_nil)))))))), ?_⟩
    have ix : ∀ {u : V} {j : Nat}, ([.ref wa, vp, vl, vt] : List V)[j]? = some u → Ev (tOp (rIxL K) (tVar 0) (tC (.int (j : Int)))) [some (.ref a), some (.int (k : Nat))] H u := fun hj => ev_op (ev_var (by rfl)) ev_c (rv_ixL (SqL.of h2) (atI_nat hj))
    have d2 : EvD (tOp (rIxL K) (tVar 0) (tC (.int 2))) [some (.ref a), some (.int (k : Nat))] H (.tuple (L.links.map lnkD)) := (ep_ev (ix (j := 2) rfl)).imp fun v H1 e ev => by rw [ev]; exact h5.mono e
    have k1 := ev_add (σ := [some (.ref a), some (.int (k : Nat))]) (H := H) (ev_var (i := 1) (v := .int (k : Nat)) (by rfl)) (ev_c (v := .int 1))
    have cut := ed_catA (K := K) (ed_slTake (K := K) d2 (ev_var (i := 1) (by rfl))) (ed_slDrop (K := K) (k := k + 1) d2 k1) (by simp; omega)
    rw [← List.map_take, ← List.map_drop, ← List.map_append, ← eraseIdx_cut] at cut
    refine s_retP (P := fun v Hv => PartsV Hv v (eraseL L k)) (fun H6 e6 Q6 q6 => ?_) fun v H1 e1 hv => q v H1 e1 hv
    refine eap_v (ix (j := 0) rfl) (eap_v (ix (j := 1) rfl) (eap_p cut (eap_v (ix (j := 3) rfl) eap_nil) (fun v H1 H2 e h => h.mono e))) H6 e6 _ fun vs H7 e7 ⟨r1, ev1, r2, ev2, v3, r3, ev3, h3', r4, ev4, ev5⟩ => ?_
    subst ev5 ev4 ev3 ev2 ev1
    refine ⟨sz_of (by simp), fun p np => q6 _ _ (e7.trans (Ex.new np)) ⟨p, wa, vp, v3, vt, rfl, upd_same, ((h3.mono e6).mono e7).mono (Ex.new np), ((h4.mono e6).mono e7).mono (Ex.new np), h3'.mono (Ex.new np), ((h6.mono e6).mono e7).mono (Ex.new np)⟩⟩
end
end EF
set_option maxHeartbeats 4000000
namespace EF
open PySem PySem.Spec PyProof.Rows L2 Evl
/-- the law's fires of a land, as a value -/
def FiresV (L : Ld) (W : Wea) (S B : Rws) : Post := fun v H => ∃ l0 l1, DDV H v l0 l1 ∧ look l0 = fire L W S B false ∧ look l1 = fire L W S B true
theorem FiresV.mono {H H' : Hp} {v : V} {L : Ld} {W : Wea} {S B : Rws} (e : Ex H H') (h : FiresV L W S B v H) : FiresV L W S B v H' := by
  obtain ⟨l0, l1, h1, h2, h3⟩ := h
  exact ⟨l0, l1, h1.mono e, h2, h3⟩
theorem et_eqDD {K : PySem.W.Frag} {σ : L2.St} {H : Hp} {ta tb : TE} {y : V} {L M : Ld} {W : Wea} {S B : Rws} (ha : EvP ta σ H (FiresV M W S B)) (hb : Ev tb σ H y) (hy : FiresV L W S B y H) : EvT (tTest (tOp (rEqDD K) ta tb)) σ H (sameB M L W S B) := fun H1 e1 Q q =>
  ha H1 e1 _ fun v H2 e2 ⟨l0, l1, hv, f0, f1⟩ => hb H2 (e1.trans e2) _ fun H3 e3 => by
    obtain ⟨m0, m1, hy', g0, g1⟩ := hy
    refine ⟨l0, l1, m0, m1, hv.mono e3, hy'.mono ((e1.trans e2).trans e3), _, rfl, ?_⟩
    have e : (eqDB l0 m0 && eqDB l1 m1) = sameB M L W S B := by
      unfold sameB
      rw [Bool.eq_iff_iff, Bool.and_eq_true, eqDB_iff hv.k0 hy'.k0, eqDB_iff hv.k1 hy'.k1, f0, f1, g0, g1]
      exact (@decide_eq_true_iff (same M L W S B) (Classical.propDecidable _)).symm
    rw [e]
    exact q H3 (e2.trans e3)
theorem LawLd.sub {L : Ld} {ls : List Lnk} (h : LawLd L) (hs : ls.Sublist L.links) : LawLd (withLinks L ls) := ⟨h.ok.sub hs, h.w, h.p, Nat.le_trans hs.length_le h.l, h.tw⟩
theorem LawLd.erase {L : Ld} (h : LawLd L) (k : Nat) : LawLd (eraseL L k) := h.sub (List.eraseIdx_sublist _ _)
theorem Good.erase {L : Ld} {W : Wea} {S B : Rws} (h : Good L W S B) (k : Nat) : Good (eraseL L k) W S B := h.sub (List.eraseIdx_sublist _ _)
noncomputable def idleK (L : Ld) (W : Wea) (S B : Rws) (n : Nat) : List Nat := (List.range n).filter fun k => sameB (eraseL L k) L W S B
theorem idleK_len (L : Ld) (W : Wea) (S B : Rws) (n : Nat) : (idleK L W S B n).length ≤ n := by
  unfold idleK
  have := List.length_filter_le (fun k => sameB (eraseL L k) L W S B) (List.range n)
  rwa [List.length_range] at this
theorem idleK_succ (L : Ld) (W : Wea) (S B : Rws) (n : Nat) : idleK L W S B (n + 1) = idleK L W S B n ++ (if sameB (eraseL L n) L W S B = true then [n] else []) := by
  unfold idleK
  rw [List.range_succ, List.filter_append]
  congr 1
  cases q : sameB (eraseL L n) L W S B <;> simp [q]
def natV (n : Nat) : V := .int (n : Int)
section
variable {P : Program} {w : World} {K : PySem.W.Frag} {mg : Str → Option Value} {base : Heap}
/-- the fires of the law's lands, asked -/
theorem ep_fires {σ : L2.St} {H : Hp} {E : XK} {t0 t1 t2 t3 : TE} {vp vw vs' vb : V} {L M : Ld} {W : Wea} {St B : Rws} (h : EvP t0 σ H (fun v H' => PartsV H' v M)) (h1 : Ev t1 σ H vw) (h2 : Ev t2 σ H vs') (h3 : Ev t3 σ H vb) (a : LawQ H vp vw vs' vb L W St B) (hl : LawLd M) (hg : Good M W St B) : EvP (tCl (spR R_law_fires) E (tCons t0 (tCons t1 (tCons t2 (tCons t3 tNil))))) σ H (FiresV M W St B) :=
  ep_callP (R := R_law_fires) (eap_p h (eap_v h1 (eap_v h2 (eap_v h3 eap_nil))) (fun v H1 H2 e h => h.mono e)) fun vs H1 e1 ⟨v, r, ev, hv, r1, er1, r2, er2, r3, er3, er4⟩ =>
    ⟨v, vw, vs', vb, M, W, St, B, by rw [ev, er1, er2, er3, er4], ⟨hv, hl, (a.mono e1).w, (a.mono e1).s, (a.mono e1).b, hg, a.sl⟩, rfl⟩
theorem ep_without {σ : L2.St} {H : Hp} {E : XK} {t0 t1 : TE} {vp : V} {L : Ld} {k : Nat} (h : Ev t0 σ H vp) (hk : Ev t1 σ H (.int (k : Int))) (hp : PartsV H vp L) (hl : LawLd L) : EvP (tCl (spR R_law_without) E (tCons t0 (tCons t1 tNil))) σ H (fun v H' => PartsV H' v (eraseL L k)) :=
  ep_call (R := R_law_without) (ea_cons h (ea_cons hk ea_nil)) fun H1 e1 => ⟨vp, L, k, rfl, hp.mono e1, hl, rfl⟩
def R_law_idle : List V → Hp → Post → Prop := fun vs H Po => ∃ vp vw vs' vb vf L W St B, vs = [vp, vw, vs', vb, vf] ∧ LawQ H vp vw vs' vb L W St B ∧ FiresV L W St B vf H ∧ Po = fun v H' => ∃ p, v = .ref p ∧ H' p = some (.lst ((idleK L W St B L.links.length).map natV))
theorem sc_law_idle : FnScope ["_law_parts_here", "_law_weather_here", "_law_starts", "_law_breaks", "_law_fires_here", "_law_found", "_law_k"] ["_law_parts_here", "_law_weather_here", "_law_starts", "_law_breaks", "_law_fires_here"] (defScope s_law_idle) := ⟨rfl, rfl, rfl, by decide +kernel, rfl, by decide +kernel, by decide +kernel⟩
theorem ok_law_idle (S : Says K mg) : Fn P w K mg base 5 "_law_idle" ["_law_parts_here", "_law_weather_here", "_law_starts", "_law_breaks", "_law_fires_here"] (spR R_law_idle) := by
  have G_law_fires := ok_law_fires (P := P) (w := w) (base := base) S
  have G_law_without := ok_law_without (P := P) (w := w) (base := base) S
  obtain ⟨fd, F⟩ := S.def_law_idle
  refine ⟨⟨_, fd, S.g_law_idle, F.kp, F.bindsN (fun _ _ _ _ _ _ us hl => match us, hl with | [_, _, _, _, _], _ => rfl), F.ok sc_law_idle (fun vs H Q E h => ?_) (fun cdv A outer s H vs Q E hr h => ?_)⟩⟩
  · obtain ⟨_, ⟨_, _, _, _, _, _, _, _, _, rfl, _⟩, _⟩ := h
    rfl
  · obtain ⟨_, ⟨vp, vw, vs', vb, vf, L, W, St, B, rfl, a, hf, rfl⟩, q⟩ := h
    have hu := hu_of hr
    refine ⟨_, PSs.nox ((pss_cons (ps_set (i := 5) sc_law_idle.nd rfl (by first | exact Or.inl rfl | exact Or.inr rfl) (pe_lst pa_nil))
    (pss_cons (ps_for PassesOwn.never rfl (pi_range1 rfl S.f_range (pa_cons (pe_callB call_len_seq (by rfl) S.f_len PySem.boot_len (pa_cons (pe_ix ix_list (pv 0) pe_int (fun _ _ => rfl)) pa_nil)) pa_nil)) (pg_name (i := 6) sc_law_idle.nd rfl (by first | exact Or.inl rfl | exact Or.inr rfl))
      (pss_one (ps_if (pt_cmpR (op_eqDD hr.units) (pe_fn G_law_fires (hr.mono (by decide)) (pa_cons (pe_fn G_law_without (hr.mono (by decide)) (pa_cons (pv 0) (pa_cons (pv 6) pa_nil))) (pa_cons (pv 1) (pa_cons (pv 2) (pa_cons (pv 3) pa_nil))))) (pv 4) (nomark _)) (pss_one (ps_expr (pe_bm PySem.F.plainAttrs_list PySem.F.slot_list_append PySem.F.type_list_append mt_append (pv 5) (pa_cons (pv 6) pa_nil)))) pss_nil)))
    (pss_one (ps_ret (pv 5)))))), ?_⟩
    refine q_asgL (el_lst ea_nil (by decide)) fun p H2 np e2 hp => ?_
    have a2 := a.mono e2
    have hl10 := a.l.l
    obtain ⟨kl, ks, hkl, hkd, ev2⟩ := a2.p.ix2 (K := K) (σ := [some vp, some vw, some vs', some vb, some vf, some (.ref p), none]) (ev_var (i := 0) (by rfl))
    have hkn := hkd.map_len
    have hlen := ev_lenX (K := K) ev2 (.inr (.inl hkl))
    rw [hkn] at hlen
    refine q_forR1 (n := (L.links.length : Int)) (ea_cons hlen ea_nil) ⟨by omega, by omega⟩ (fun i σ' H' => (∃ x6, σ' = [some vp, some vw, some vs', some vb, some vf, some (.ref p), x6]) ∧ Ex H H' ∧ H' p = some (.lst ((idleK L W St B i).map natV))) (fun H3 e3 => ⟨⟨_, rfl⟩, e2.trans e3, e3 _ _ hp⟩) (fun i σ' H' hi h => ?_) (fun σ' H' h => ?_)
    · obtain ⟨⟨x6, rfl⟩, eH, hpl⟩ := h
      have hi : i < L.links.length := by omega
      have aH := a.mono eH
      have hll := idleK_len L W St B i
      refine r_if (et_eqDD (ep_fires (ep_without (ev_var (by rfl)) (ev_var (by rfl)) aH.p aH.l) (ev_var (by rfl)) (ev_var (by rfl)) (ev_var (by rfl)) aH (a.l.erase i) (a.g.erase i)) (ev_var (by rfl)) (hf.mono eH)) (fun c H4 e4 => ?_) (fun c H4 e4 => ?_)
      · refine s_appendP (P := fun v _ => v = .int (i : Int)) (ev_var (by rfl)) (e4 _ _ hpl) (by rw [List.length_map]; omega) (ep_ev (ev_var (by rfl))) fun v H5 e5 ev => ?_
        subst ev
        have e45 := e4.trans e5
        refine ⟨⟨_, rfl⟩, Ex.mut (eH.trans e45) np, ?_⟩
        rw [upd_same, idleK_succ, if_pos c, List.map_append]
        rfl
      · refine gn ⟨⟨_, rfl⟩, eH.trans e4, ?_⟩
        rw [idleK_succ, if_neg (by rw [c]; decide), List.append_nil]
        exact e4 _ _ hpl
    · obtain ⟨⟨x6, rfl⟩, eH, hpl⟩ := h
      exact s_ret (ev_var (by rfl)) fun H6 e6 => q _ H6 (eH.trans e6) ⟨p, rfl, e6 _ _ hpl⟩
end
end EF
set_option maxHeartbeats 4000000
namespace L2
open PySem PySem.Spec PyProof.Rows
/-! ### 'except x as n' with more clauses behind it -/
section
variable {X : Cx} {x n : Str} {c : Value} {i : Nat} {body suite : List Stmt} {b₀ : Stmt} {np pos pos' : Pos} {tb : WX → TS} {ts : Addr → Value → Option Addr → TS} {Wout : WX} {hds : List ExceptHandler} {l : List (Value × (Addr → Value → Option Addr → TS))}
theorem ps_try_as_more (hs : X.stack = X.env :: X.outer) (hf : X.env.frame = some X.env.locals) (hN : X.N.Nodup) (hi : X.N[i]? = some n) (hln : X.env.kindOf n = some .local) (hc : Names X x c) (tk : Takes X Wout)
    (hb : ∀ (W : WX) (pn : List (Addr × Obj)) (xe : Value → Shared → Prop), Takes (X.tr pn xe) W → PassesOwn (model X.prog X.w) X.A X.env xe → PSs (X.tr pn xe) body (tb W))
    (hsu : ∀ (a : Addr) (oe : Obj) (cls : Value) (d : Option Addr) (pn : List (Addr × Obj)), Zc cls d oe → (∃ vs, oe.data = .fields vs) → PSs (X.suite a ((a, oe) :: pn)) (b₀ :: suite) (ts a cls d))
    (hh : HdsOk X hds l) :
    PS X (.Try body (.ExceptHandler (some (.Name x np)) (some n) (b₀ :: suite) pos' :: hds) [] [] pos) (fun D σ H => tb (wAs X.K c i ts (wMany X.K Wout D l) D) D σ H) := by
  refine ⟨fun pins s σ H D I h => ?_⟩
  have ok := I.ok
  have hfr : X.A.frames = some (X.env :: X.outer) := by rw [ok.frames, hs]
  have hloc : Loc X.env.scope n := .inl hln
  refine wpAny_Try_except ?_
  refine wpAny_mono ((hb (wAs X.K c i ts (wMany X.K Wout D l) D) (X.pn ++ pins) (fun e s₁ => wpAny (model X.prog X.w) X.A (noteFrame e X.env) (fun _ s₂ => wpAny (model X.prog X.w) X.A (setFlight e none) (fun _ s₃ =>
    wpAny (model X.prog X.w) X.A (handleBy e X.env (.ExceptHandler (some (.Name x np)) (some n) (b₀ :: suite) pos' :: hds)) (SP X pins D) X.xe s₃) X.xe s₂) X.xe s₁) (fun u s' xx => ?_) PassesOwn.looking).run [] s σ H D (I.toTry _) h) (fun f s1 hsp => ?_) (fun e s1 he => he)
  · obtain ⟨a, B, sI, pins', σ', H', cls, d, rfl, J', nb, up, sky, na, os, ag, b, hb1, hyes, hno⟩ := xx
    have J : Inv X pins σ' H' sI := J'.ofTry ok
    have sky' : Sky B (X.env :: X.outer) a (Zc cls d) X.env.locals s'.heap := by rw [← hs]; exact sky
    show wpAny (model X.prog X.w) X.A (noteFrame (.ref a) X.env) _ _ _
    refine Sky.land Zc.steady hfr hf sky' fun h3 fl3 up3 => ?_
    have J3 : Inv X pins σ' H' { s' with heap := h3 } := J.landed nb fl3.1 (up.trans up3) os ag
    obtain ⟨oe3, vs3, he3, hz3, hd3⟩ := fl3.there
    have nfr : a ∉ frs (X.env :: X.outer) := fun hm => by
      obtain ⟨_, o', e', hnf⟩ := fl3.2.2.1.mem hm
      rw [he3] at e'; cases e'
      exact hnf _ hd3
    have nL : a ≠ X.env.locals := fun z => nfr (List.mem_filterMap.mpr ⟨X.env, List.mem_cons_self, by rw [hf, z]⟩)
    have nF : a ∉ X.fs := fun hm => by
      obtain ⟨e, he, q⟩ := List.mem_filterMap.mp hm
      exact nfr (List.mem_filterMap.mpr ⟨e, List.mem_cons_of_mem _ he, q⟩)
    have S3 := J3.suite he3 hd3 na nL nF
    have LT : PySem.W.Looks (model X.prog X.w) h3 (typeOf (.ref a)) cls := fun A Q E s k q => wpAny_typeOf_ref (k _ _ he3) (by rw [hz3.1]; exact q)
    -- a clause's test
    have look1 : ∀ {y : Str} {k : Value} {np' : Pos} {Q : Value → Shared → Prop} {E : Value → Shared → Prop}, Names X y k → Q k { s' with heap := h3 } → wpAny (model X.prog X.w) (X.A.mark (some (.ref a))) (eval (.Name y np') X.env) Q E { s' with heap := h3 } := fun {y k np' Q E} hk q => by
      obtain ⟨hg, hdbg, hm | ⟨hm, hv, hnn⟩⟩ := hk
      · exact ld_glob (X := X.suite a ((a, oe3) :: (X.pn ++ pins))) S3 hg hm q hdbg
      · exact ld_blt (X := X.suite a ((a, oe3) :: (X.pn ++ pins))) S3 hg hm hv q hnn hdbg
    have rest : ∀ {hds' : List ExceptHandler} {l' : List (Value × (Addr → Value → Option Addr → TS))}, HdsOk X hds' l' → wMany X.K Wout D l' cls d σ' H' →
        wpAny (model X.prog X.w) X.A (handleBy (.ref a) X.env hds') (SP X pins D) X.xe { s' with heap := h3 } := by
      intro hds' l' hk
      induction hk with
      | nil =>
        intro w
        refine wpAny_handleBy_nil ?_
        obtain ⟨k1, k2, k3, oe, vs, T, oT, ts', he, hz, hd, h1, hr⟩ := id fl3
        unfold PySem.passOn
        refine wpAny_bind (wpAny_field he hd h1 ?_)
        rw [if_neg (show ¬ ((Value.ref T == Value.none) = true) from by simp)]
        have fin : wpAny (model X.prog X.w) X.A (setFlight (.ref a) X.env.frame) (fun _ s4 => wpAny (model X.prog X.w) X.A (throw (.ref a) : Sem Flow) (SP X pins D) X.xe s4) X.xe { s' with heap := h3 } := by
          rw [hf]
          refine HandSPX.setFlight_upZ fl3 fun h4 hh4 up4 => wpAny_throw (tk _ _ ?_)
          exact ⟨a, B, sI, pins, σ', H', cls, d, rfl, J, nb, (up.trans up3).trans up4, .inr (.inr (by rw [hs]; exact hh4)), na, os, ag, w⟩
        first
          | exact wpAny_bind (wpAny_pure (wpAny_bind fin))
          | exact wpAny_bind fin
      | @cons y k tk' b₁ suite' np' pos'' hds2 l2 hk1 hsu' r ih =>
        intro w
        obtain ⟨b', hb', hyes', hno'⟩ := w
        refine wpAny_handleBy_cons (codeAny_handlers_test ?_) (by intro q; cases q)
        refine look1 hk1 ((PySem.W.exm_one (M := model X.prog X.w) (J3.kIn) LT hb').here ?_)
        cases b' with
        | false => exact ih (hno' rfl)
        | true =>
          refine codeAny_handlers_suite ?_
          refine HandSPX.lands_againZ fl3 fun h4 fl4 up4 => ?_
          have J4 : Inv X pins σ' H' { s' with heap := h4 } := J.landed nb fl4.1 ((up.trans up3).trans up4) os ag
          obtain ⟨oe4, vs4, he4, hz4, hd4⟩ := fl4.there
          refine wpAny_mono ((hsu' a oe4 cls d (X.pn ++ pins) hz4 ⟨_, hd4⟩).run [] _ _ H' _ (J4.suite he4 hd4 na nL nF) (hyes' rfl a na)) (fun f s6 hsp => ?_) (fun _ _ z => False.elim z)
          cases f with
          | next => obtain ⟨σ6, H6, S6, q6⟩ := hsp; exact ⟨_, _, S6.unsuite ok, q6⟩
          | brk => obtain ⟨σ6, H6, S6, q6⟩ := hsp; exact ⟨_, _, S6.unsuite ok, q6⟩
          | cont => obtain ⟨σ6, H6, S6, q6⟩ := hsp; exact ⟨_, _, S6.unsuite ok, q6⟩
          | ret u => obtain ⟨v6, σ6, H6, S6, r6, q6⟩ := hsp; exact ⟨_, _, _, S6.unsuite ok, r6, q6⟩
    refine wpAny_handleBy_cons (codeAny_handlers_test ?_) (by intro q; cases q)
    refine look1 hc ((PySem.W.exm_one (M := model X.prog X.w) (J3.kIn) LT hb1).here ?_)
    cases b with
    | false => exact rest hh (hno rfl)
    | true =>
      refine codeAny_handlers_suite_as ?_
      refine HandSPX.lands_againZ fl3 fun h4 fl4 up4 => ?_
      have J4 : Inv X pins σ' H' { s' with heap := h4 } := J.landed nb fl4.1 ((up.trans up3).trans up4) os ag
      obtain ⟨oe4, vs4, he4, hz4, hd4⟩ := fl4.there
      have S4 := J4.suite he4 hd4 na nL nF
      refine store_ok (X := X.suite a ((a, oe4) :: (X.pn ++ pins))) (v := .ref a) S4 hN hi hloc rfl (fun s5 S5 => ?_) (.inr hln)
      refine wpAny_mono ((hsu a oe4 cls d (X.pn ++ pins) hz4 ⟨_, hd4⟩).run [] s5 _ H' _ S5 (hyes rfl a na)) (fun f s6 hsp => ?_) (fun _ _ z => False.elim z)
      have end_ : ∀ {σ6 : St} {H6 : Hp} {Q : Shared → Prop}, Inv (X.suite a ((a, oe4) :: (X.pn ++ pins))) [] σ6 H6 s6 → (∀ s7, Inv X pins (σ6.set i none) H6 s7 → Q s7) →
          wpAny (model X.prog X.w) X.A (do bindName X.env n .none; unbindBehindTheSuite X.env n pos') (fun _ s7 => Q s7) X.xe s6 := fun {σ6 H6 Q} S6 hq => gone_ok (S6.unsuite ok) hN hi hln hq
      cases f with
      | next => obtain ⟨σ6, H6, S6, q6⟩ := hsp; exact end_ S6 fun s7 J7 => ⟨_, _, J7, q6⟩
      | brk => obtain ⟨σ6, H6, S6, q6⟩ := hsp; exact end_ S6 fun s7 J7 => ⟨_, _, J7, q6⟩
      | cont => obtain ⟨σ6, H6, S6, q6⟩ := hsp; exact end_ S6 fun s7 J7 => ⟨_, _, J7, q6⟩
      | ret u => obtain ⟨v6, σ6, H6, S6, r6, q6⟩ := hsp; exact end_ S6 fun s7 J7 => ⟨_, _, _, J7, r6, q6⟩
  · cases f with
    | next => obtain ⟨σ', H', J', q⟩ := hsp; exact wpAny_execs_nil ⟨σ', H', J'.ofTry ok, q⟩
    | brk => obtain ⟨σ', H', J', q⟩ := hsp; exact ⟨σ', H', J'.ofTry ok, q⟩
    | cont => obtain ⟨σ', H', J', q⟩ := hsp; exact ⟨σ', H', J'.ofTry ok, q⟩
    | ret u => obtain ⟨v, σ', H', J', r, q⟩ := hsp; exact ⟨v, σ', H', J'.ofTry ok, r, q⟩
end
end L2
set_option maxHeartbeats 4000000
namespace EF
open PySem PySem.Spec PyProof.Rows L2 Evl
def eTx : Out → Option Str
  | .ok _ => none
  | .unk z => some z
  | .wea => some "weather"
theorem ev_xf {K : PySem.W.Frag} {σ : L2.St} {H : Hp} {a d C : Addr} {f : Str} {te : TE} {fs : List (Str × V)} {v : V} (h : Ev te σ H (.ref a)) (hd : H d = some (.xd fs)) (hf : fs.lookup f = some v) : Ev (tXf a (.ref C) (some d) C f te) σ H v := fun H1 e Q q =>
  h H1 e _ fun H2 e2 => ⟨rfl, rfl, d, fs, v, rfl, (e.trans e2) _ _ hd, hf, q H2 e2⟩
section
variable {P : Program} {w : World} {K : PySem.W.Frag} {mg : Str → Option Value} {base : Heap}
theorem fin_err (S : Says K mg) {o : Out} {t : Str} (ho : eTx o = some t) {H : Hp} {Q : VK} {D : L2.Ends} {Wout : WX} {v0 v1 v2 v3 v4 x6 x7 : Option V} {p : Addr} {xs : List V} (hp : H p = some (.lst xs)) (hz : xs.length < 100000)
    (k : ∀ H1 x, Ex H H1 → D.nx [v0, v1, v2, v3, v4, some (.ref p), x6, x] (upd H1 p (.lst (xs ++ [.str t])))) :
    Fin K o H Q fun cls d H' => wAs K (.ref (cUnk K)) 7 (fun a cls d => tDrop (tBM K "list" rAppend (tVar 5) (tCons (tXf a cls d (cUnk K) "name" (tVar 7)) tNil))) (wMany K Wout D [(.ref (cWea K), fun _ _ _ => tDrop (tBM K "list" rAppend (tVar 5) (tCons (tC (.str "weather")) tNil)))]) D cls d [v0, v1, v2, v3, v4, some (.ref p), x6, x7] H' := by
  cases o with
  | ok P => cases ho
  | unk z =>
    obtain rfl : z = t := Option.some.inj ho
    intro d H1 e1 hd
    refine ⟨true, S.xUU, fun _ a na => ?_, fun h => absurd h (by decide)⟩
    refine s_appendP (P := fun v _ => v = .str z) (ev_var (by rfl)) (e1 _ _ hp) hz (ep_ev (ev_xf (K := K) (ev_var (by rfl)) hd rfl)) fun v H2 e2 ev => ?_
    subst ev
    exact k H2 _ (e1.trans e2)
  | wea =>
    obtain rfl : "weather" = t := Option.some.inj ho
    intro H1 e1
    refine ⟨false, S.xWU, fun h => absurd h (by decide), fun _ => ⟨true, S.xWW, fun _ a na => ?_, fun h => absurd h (by decide)⟩⟩
    refine s_appendP (P := fun v _ => v = .str "weather") (ev_var (by rfl)) (e1 _ _ hp) hz (ep_ev ev_c) fun v H2 e2 ev => ?_
    subst ev
    exact k H2 _ (e1.trans e2)
def R_law_refused (K : PySem.W.Frag) : List V → Hp → Post → Prop := fun vs H Po => ∃ vl vw vs' vb z L W St B o0 o1 t0 t1, vs = [vl, vw, vs', vb, .str z] ∧ Ask K H vl vw vs' vb L W St B ∧ (∀ o, gate L W St B o = o0) ∧ (∀ o, gateAt L W St B z o = o1) ∧ eTx o0 = some t0 ∧ eTx o1 = some t1 ∧ Po = fun v H' => Dt H' v (.list [.str t0, .str t0, .str t1])
theorem sc_law_refused : FnScope ["_law_land_here", "_law_weather_here", "_law_starts", "_law_breaks", "_law_place", "_law_found", "_law_k", "e"] ["_law_land_here", "_law_weather_here", "_law_starts", "_law_breaks", "_law_place"] (defScope s_law_refused) := ⟨rfl, rfl, rfl, by decide +kernel, rfl, by decide +kernel, by decide +kernel⟩
theorem ok_law_refused (S : Says K mg) (U : UnkOk P K (cUnk K)) (LP : PrOk K) (XU : XfC K (cUnk K)) : Fn P w K mg base 9 "_law_refused" ["_law_land_here", "_law_weather_here", "_law_starts", "_law_breaks", "_law_place"] (spR (R_law_refused K)) := by
  have G_idle_links := ok_idle_links (P := P) (w := w) (base := base) S U LP
  have G_lean_land := ok_lean_land (P := P) (w := w) (base := base) S U LP
  have G_needed_links := ok_needed_links (P := P) (w := w) (base := base) S U LP
  obtain ⟨fd, F⟩ := S.def_law_refused
  refine ⟨⟨_, fd, S.g_law_refused, F.kp, F.bindsN (fun _ _ _ _ _ _ us hl => match us, hl with | [_, _, _, _, _], _ => rfl), F.ok sc_law_refused (fun vs H Q E h => ?_) (fun cdv A outer s H vs Q E hr h => ?_)⟩⟩
  · obtain ⟨_, ⟨_, _, _, _, _, _, _, _, _, _, _, _, _, rfl, _⟩, _⟩ := h
    rfl
  · obtain ⟨_, ⟨vl, vw, vs', vb, z, L, W, St, B, o0, o1, t0, t1, rfl, a, g0, g1, ht0, ht1, rfl⟩, q⟩ := h
    have hu := hu_of hr
    refine ⟨_, PSs.nox ((pss_cons (ps_set (i := 5) sc_law_refused.nd rfl (by first | exact Or.inl rfl | exact Or.inr rfl) (pe_lst pa_nil))
    (pss_cons (ps_for PassesOwn.never rfl (pi_range1 rfl S.f_range (pa_cons pe_int pa_nil)) (pg_name (i := 6) sc_law_refused.nd rfl (by first | exact Or.inl rfl | exact Or.inr rfl))
      (pss_one (ps_try_as_more (i := 7) (ts := (fun a cls d => tDrop (tBM K "list" rAppend (tVar 5) (tCons (tXf a cls d (cUnk K) "name" (tVar 7)) tNil)))) rfl rfl sc_law_refused.nd rfl rfl ⟨rfl, rfl, .inl S.g_UnknownName⟩ takes_none5 (fun W pn xe tk po => (pss_one (ps_if (pt_cmpR op_eq (pv 6) pe_int (nomark _)) (pss_one (ps_expr (pe_fnS G_idle_links (hr.mono (by decide)) tk (pa_cons (pv 0) (pa_cons (pv 1) (pa_cons (pv 2) (pa_cons (pv 3) pa_nil))))))) (pss_one (ps_if (pt_cmpR op_eq (pv 6) pe_int (nomark _)) (pss_one (ps_expr (pe_fnS G_lean_land (hr.mono (by decide)) tk (pa_cons (pv 0) (pa_cons (pv 1) (pa_cons (pv 2) (pa_cons (pv 3) pa_nil))))))) (pss_one (ps_expr (pe_fnS G_needed_links (hr.mono (by decide)) tk (pa_cons (pv 0) (pa_cons (pv 1) (pa_cons (pv 2) (pa_cons (pv 3) (pa_cons (pv 4) pa_nil))))))))))))) (fun a oe cls d pn hz hf => (pss_one (ps_expr (pe_bm PySem.F.plainAttrs_list PySem.F.slot_list_append PySem.F.type_list_append mt_append (pv 5) (pa_cons (pe_xf XU U.nm hz hf (pv 7)) pa_nil))))) (HdsOk.cons (ts := (fun a cls d => tDrop (tBM K "list" rAppend (tVar 5) (tCons (tC (.str "weather")) tNil)))) ⟨rfl, rfl, .inl S.g_InvalidWeather⟩ (fun a oe cls d pn hz hf => (pss_one (ps_expr (pe_bm PySem.F.plainAttrs_list PySem.F.slot_list_append PySem.F.type_list_append mt_append (pv 5) (pa_cons pe_str pa_nil))))) HdsOk.nil))))
    (pss_one (ps_ret (pv 5)))))), ?_⟩
    refine q_asgL (el_lst ea_nil (by decide)) fun p H2 np e2 hp => ?_
    refine q_forR1 (n := 3) (ea_cons ev_c ea_nil) ⟨by omega, by omega⟩ (fun i σ' H' => (∃ x6 x7, σ' = [some vl, some vw, some vs', some vb, some (.str z), some (.ref p), x6, x7]) ∧ Ex H H' ∧ H' p = some (.lst (([t0, t0, t1].take i).map V.str))) (fun H3 e3 => ⟨⟨_, _, rfl⟩, e2.trans e3, e3 _ _ hp⟩) (fun i σ' H' hi h => ?_) (fun σ' H' h => ?_)
    · obtain ⟨⟨x6, x7, rfl⟩, eH, hpl⟩ := h
      have aH := a.mono eH
      have A4 : ∀ {H'' : Hp} {x : Option V}, EvA (tCons (tVar 0) (tCons (tVar 1) (tCons (tVar 2) (tCons (tVar 3) tNil)))) [some vl, some vw, some vs', some vb, some (.str z), some (.ref p), x, x7] H'' [vl, vw, vs', vb] := fun {_ _} => ea_cons (ev_var (by rfl)) (ea_cons (ev_var (by rfl)) (ea_cons (ev_var (by rfl)) (ea_cons (ev_var (by rfl)) ea_nil)))
      have hi3 : i = 0 ∨ i = 1 ∨ i = 2 := by omega
      have hlen : (([t0, t0, t1].take i).map V.str).length < 100000 := by rw [List.length_map, List.length_take]; simp; omega
      refine r_if (c := decide (i = 0)) ?_ (fun c H4 e4 => ?_) (fun c H4 e4 => ?_)
      · exact et_is (et_test (ev_eqI (i := (i : Int)) (ev_var (by rfl)) ev_c)) (decide_eq_decide.mpr (by omega))
      · have hi0 := of_decide_eq_true c
        subst hi0
        refine c_callS (R := R_idle K) (o := o0) A4 (fun H5 e5 => ⟨vl, vw, vs', vb, L, W, St, B, rfl, aH.mono (e4.trans e5), (g0 _).symm⟩) (fin_err S ht0 (e4 _ _ hpl) hlen fun H5 x e5 => ⟨⟨_, _, rfl⟩, Ex.mut ((eH.trans e4).trans e5) np, ?_⟩)
        rw [upd_same]
        rfl
      · refine r_if (c := decide (i = 1)) ?_ (fun c H5 e5 => ?_) (fun c H5 e5 => ?_)
        · exact et_is (et_test (ev_eqI (i := (i : Int)) (ev_var (by rfl)) ev_c)) (decide_eq_decide.mpr (by omega))
        · have hi0 := of_decide_eq_true c
          subst hi0
          refine c_callS (R := R_lean K) (o := o0) A4 (fun H6 e6 => ⟨vl, vw, vs', vb, L, W, St, B, rfl, aH.mono ((e4.trans e5).trans e6), (g0 _).symm⟩) (fin_err S ht0 ((e4.trans e5) _ _ hpl) hlen fun H6 x e6 => ⟨⟨_, _, rfl⟩, Ex.mut ((eH.trans (e4.trans e5)).trans e6) np, ?_⟩)
          rw [upd_same]
          rfl
        · have hi2 : i = 2 := by
            have h1 := of_decide_eq_false ‹decide (i = 0) = false›
            have h2 := of_decide_eq_false c
            omega
          subst hi2
          refine c_callS (R := R_needed K) (o := o1) (ea_cons (ev_var (by rfl)) (ea_cons (ev_var (by rfl)) (ea_cons (ev_var (by rfl)) (ea_cons (ev_var (by rfl)) (ea_cons (ev_var (by rfl)) ea_nil))))) (fun H6 e6 => ⟨vl, vw, vs', vb, z, L, W, St, B, rfl, aH.mono ((e4.trans e5).trans e6), (g1 _).symm⟩) (fin_err S ht1 ((e4.trans e5) _ _ hpl) hlen fun H6 x e6 => ⟨⟨_, _, rfl⟩, Ex.mut ((eH.trans (e4.trans e5)).trans e6) np, ?_⟩)
          rw [upd_same]
          rfl
    · obtain ⟨⟨x6, x7, rfl⟩, eH, hpl⟩ := h
      exact s_ret (ev_var (by rfl)) fun H6 e6 => q _ H6 (eH.trans e6) (.lst (e6 _ _ hpl) (DtA.of_strs _))
end
end EF
set_option maxHeartbeats 4000000
namespace EF
open PySem PySem.Spec PyProof.Rows L2 Evl
/-! ### the law's last words, with no program in sight -/
theorem asc_zip : ∀ (l : List Int), l.Pairwise (· < ·) → ((l.zip l.tail).any fun q => decide (q.2 ≤ q.1)) = false
  | [], _ => rfl
  | [a], _ => rfl
  | a :: b :: l, h => by
    rw [List.pairwise_cons] at h
    have ih := asc_zip (b :: l) h.2
    show (decide (b ≤ a) || (((b :: l).zip (b :: l).tail).any fun q => decide (q.2 ≤ q.1))) = false
    rw [ih, Bool.or_false]
    exact decide_eq_false (by have := h.1 b List.mem_cons_self; omega)
theorem weaGood_of {winds : List Str} {W : Wea} (h : WeaOk winds W) : weaGood W = true := by
  obtain ⟨z, r, e⟩ := h.zero
  unfold weaGood
  rw [Bool.and_eq_true]
  refine ⟨decide_eq_true (by rw [e]; rfl), ?_⟩
  rw [asc_zip (W.map (·.1)) (List.pairwise_map.mpr h.asc)]
  rfl
theorem filter_range {α β : Type} (l : List α) (p : α → Bool) (c : Nat → Bool) (g : α → β) (h : ∀ k x, l[k]? = some x → c k = p x) : ∀ n, n ≤ l.length → ((List.range n).filter c).filterMap (fun k => (l[k]?).map g) = ((l.take n).filter p).map g
  | 0, _ => by simp
  | n + 1, hn => by
    have hx : l[n]? = some (l[n]'(by omega)) := List.getElem?_eq_getElem (by omega)
    have hc := h n _ hx
    rw [List.range_succ, List.filter_append, List.filterMap_append, filter_range l p c g h n (by omega), List.take_succ, hx, List.filter_append, List.map_append]
    congr 1
    cases q : p (l[n]'(by omega)) <;> rw [q] at hc <;> simp [hc, q, hx]
theorem idle_names {L : Ld} (hk : LdOk L) (W : Wea) (S B : Rws) : (idleK L W S B L.links.length).filterMap (fun k => (L.links[k]?).map fun l : Lnk => PyData.str l.nm) = (idle L W S B).map .str := by
  unfold idleK idle
  rw [filter_range L.links (fun l => sameB (without L l.nm) L W S B) _ (fun l : Lnk => PyData.str l.nm) (fun k x hx => by rw [eraseL_eq hk hx]) _ (Nat.le_refl _), List.take_length, List.filter_map, List.map_map]
  rfl
noncomputable def dueF (L : Ld) (W : Wea) (S B : Rws) (p : Str) (k : Nat) : Bool := decide (fire (eraseL L k) W S B false p = none)
theorem due_names {L : Ld} (hk : LdOk L) (W : Wea) (S B : Rws) (p : Str) : (List.range L.links.length).filterMap (fun k => if dueF L W S B p k = true then (L.links[k]?).map fun l : Lnk => PyData.str l.nm else none) = ((L.links.map fun l : Lnk => l.nm).filter fun z => decide (fire (without L z) W S B false p = none)).map .str := by
  have h := filter_range L.links (fun l => decide (fire (without L l.nm) W S B false p = none)) (dueF L W S B p) (fun l : Lnk => PyData.str l.nm) (fun k x hx => by unfold dueF; rw [eraseL_eq hk hx]) _ (Nat.le_refl _)
  rw [List.filterMap_filter] at h
  rw [h, List.take_length, List.filter_map, List.map_map]
  rfl
theorem lean_same (L : Ld) (W : Wea) (S B : Rws) : ∀ (i : Nat) (sd : Bool), fire (leanAt L W S B i) W S B sd = fire L W S B sd
  | 0, _ => rfl
  | i + 1, sd => by
    cases hz : (L.links.map fun l : Lnk => l.nm)[i]? with
    | none =>
      have hle : L.links.length ≤ i := by simpa using hz
      have e : leanAt L W S B (i + 1) = leanAt L W S B i := by
        unfold leanAt
        rw [List.take_of_length_le (by simp; omega), List.take_of_length_le (by simp; omega)]
      rw [e]
      exact lean_same L W S B i sd
    | some z =>
      rw [leanAt_succ hz]
      unfold leanStep
      split
      · rename_i h
        unfold sameB at h
        have h2 : same (without (leanAt L W S B i) z) L W S B := @of_decide_eq_true _ (Classical.propDecidable _) h
        cases sd with
        | false => exact h2.1
        | true => exact h2.2
      · exact lean_same L W S B i sd
theorem lean_eq (L : Ld) (W : Wea) (S B : Rws) : leanAt L W S B L.links.length = lean L W S B := by
  unfold leanAt lean
  rw [List.take_of_length_le (by simp)]
/-- the first link of a name stands where the list of names says -/
theorem idx_name {l : List Lnk} {x : Lnk} (h : x ∈ l) : ∃ (k : Nat) (y : Lnk), l[k]? = some y ∧ y.nm = x.nm ∧ ∀ (j : Nat) (z : Lnk), j < k → l[j]? = some z → z.nm ≠ x.nm := by
  induction l with
  | nil => cases h
  | cons a l ih =>
    by_cases e : a.nm = x.nm
    · exact ⟨0, a, rfl, e, fun j z hj => by omega⟩
    · rcases List.mem_cons.mp h with q | q
      · rw [q] at e; exact absurd rfl e
      · obtain ⟨k, y, h1, h2, h3⟩ := ih q
        refine ⟨k + 1, y, h1, h2, fun j z hj hz => ?_⟩
        cases j with
        | zero =>
          have : a = z := by simpa using hz
          rw [← this]; exact e
        | succ j => exact h3 j z (by omega) (by simpa using hz)
/-! what the five wrong questions are told -/
theorem badWind_one {winds : List Str} {m : Int} {z : Str} (h : z ∉ winds) : badWind winds [(m, z)] = some z := by
  unfold badWind
  simp [h]
theorem badRow_snoc {places : List Str} {S : Rws} {z : Str} {m : Int} (h : ∀ q ∈ S, q.1 ∈ places) (hz : z ∉ places) : badRow places (S ++ [(z, m)]) = some z := by
  unfold badRow
  have : S.find? (fun r => decide (r.1 ∉ places)) = none := by
    rw [List.find?_eq_none]
    intro q hq
    simpa using h q hq
  rw [List.find?_append, this]
  simp [hz]
theorem notName {l : List Str} {z : Str} (h : ∀ x ∈ l, nameOk x = true) (hz : nameOk z = false) : z ∉ l := fun m => by
  rw [h z m] at hz
  cases hz
theorem notTwo {l : List Str} {z : Str} (h : ∀ x ∈ l, 2 ≤ x.length) (hz : z.length < 2) : z ∉ l := fun m => by
  have := h z m
  omega
theorem gate_wind {L : Ld} {W : Wea} {y : Str} (h : badWind L.winds W = some y) (S B : Rws) (o : Out) : gate L W S B o = .unk y := by
  unfold gate; rw [h]; rfl
theorem gateAt_wind {L : Ld} {W : Wea} {y : Str} (h : badWind L.winds W = some y) (S B : Rws) (z : Str) (o : Out) : gateAt L W S B z o = .unk y := by
  unfold gateAt; rw [h]; rfl
theorem gate_start {L : Ld} {W : Wea} {S : Rws} {y : Str} (h0 : badWind L.winds W = none) (h : badRow L.places S = some y) (B : Rws) (o : Out) : gate L W S B o = .unk y := by
  unfold gate; rw [h0, h]; rfl
theorem gateAt_start {L : Ld} {W : Wea} {S : Rws} {y : Str} (h0 : badWind L.winds W = none) (h : badRow L.places S = some y) (B : Rws) (z : Str) (o : Out) : gateAt L W S B z o = .unk y := by
  unfold gateAt; rw [h0, h]; rfl
theorem gate_break {L : Ld} {W : Wea} {S B : Rws} {y : Str} (h0 : badWind L.winds W = none) (h1 : badRow L.places S = none) (h : badRow L.places B = some y) (o : Out) : gate L W S B o = .unk y := by
  unfold gate; rw [h0, h1, h]; rfl
theorem gateAt_break {L : Ld} {W : Wea} {S B : Rws} {y : Str} (h0 : badWind L.winds W = none) (h1 : badRow L.places S = none) (h : badRow L.places B = some y) (z : Str) (o : Out) : gateAt L W S B z o = .unk y := by
  unfold gateAt; rw [h0, h1, h]; rfl
theorem gate_wea {L : Ld} {W : Wea} {S B : Rws} (h0 : badWind L.winds W = none) (h1 : badRow L.places S = none) (h2 : badRow L.places B = none) (h : weaGood W = false) (o : Out) : gate L W S B o = .wea := by
  unfold gate; rw [h0, h1, h2, if_neg (by rw [h]; decide)]; rfl
theorem gateAt_wea {L : Ld} {W : Wea} {S B : Rws} {z : Str} (h0 : badWind L.winds W = none) (h1 : badRow L.places S = none) (h2 : badRow L.places B = none) (hz : z ∈ L.places) (h : weaGood W = false) (o : Out) : gateAt L W S B z o = .wea := by
  unfold gateAt; rw [h0, h1, h2, if_pos hz, if_neg (by rw [h]; decide)]; rfl
theorem gateAt_place {L : Ld} {W : Wea} {S B : Rws} {z : Str} (h0 : badWind L.winds W = none) (h1 : badRow L.places S = none) (h2 : badRow L.places B = none) (hz : z ∉ L.places) (o : Out) : gateAt L W S B z o = .unk z := by
  unfold gateAt; rw [h0, h1, h2, if_neg hz]; rfl
/-! shapes -/
theorem depthAll_le {n : Nat} : ∀ ds : List PyData, (∀ d ∈ ds, d.depth ≤ n) → PyData.depthAll ds ≤ n
  | [], _ => by simp [PyData.depthAll]
  | d :: ds, h => by
    have h1 := h d List.mem_cons_self
    have h2 := depthAll_le ds fun e he => h e (List.mem_cons_of_mem _ he)
    simp only [PyData.depthAll]
    omega
theorem canLayAll_of : ∀ ds : List PyData, (∀ d ∈ ds, d.canLay0 = true) → PyData.canLayAll0 ds = true
  | [], _ => rfl
  | d :: ds, h => by
    simp only [PyData.canLayAll0, h d List.mem_cons_self, canLayAll_of ds fun e he => h e (List.mem_cons_of_mem _ he), Bool.and_true]
theorem shaped_tup {n : Nat} (hn : n ≤ 63) {ds : List PyData} (h : ∀ d ∈ ds, d.canLay0 = true ∧ d.depth ≤ n) : SeqAt.shaped (.tuple ds) = true := by
  unfold SeqAt.shaped
  have h1 := canLayAll_of ds fun d hd => (h d hd).1
  have h2 := depthAll_le ds fun d hd => (h d hd).2
  rw [Bool.and_eq_true]
  refine ⟨by simp only [PyData.canLay0]; exact h1, decide_eq_true ?_⟩
  simp only [PyData.depth]
  omega
theorem shaped_lst {n : Nat} (hn : n ≤ 63) {ds : List PyData} (h : ∀ d ∈ ds, d.canLay0 = true ∧ d.depth ≤ n) : SeqAt.shaped (.list ds) = true := by
  unfold SeqAt.shaped
  have h1 := canLayAll_of ds fun d hd => (h d hd).1
  have h2 := depthAll_le ds fun d hd => (h d hd).2
  rw [Bool.and_eq_true]
  refine ⟨by simp only [PyData.canLay0]; exact h1, decide_eq_true ?_⟩
  simp only [PyData.depth]
  omega
theorem str_lay {z : Str} (h : PyData.strOk z = true) : (PyData.str z).canLay0 = true ∧ (PyData.str z).depth ≤ 5 := by
  constructor
  · simp only [PyData.canLay0, h]
  · simp [PyData.depth]
theorem pa_lay (o : Option (Int × Int)) : (paD o).canLay0 = true ∧ (paD o).depth ≤ 3 := by
  cases o <;> simp [paD, PyData.canLay0, PyData.canLayAll0, PyData.depth, PyData.depthAll]
theorem tms_lay (t : Tms) : (tmsD t).canLay0 = true ∧ (tmsD t).depth ≤ 4 := by
  unfold tmsD
  have h1 := canLayAll_of (t.map paD) fun d hd => by obtain ⟨o, _, rfl⟩ := List.mem_map.mp hd; exact (pa_lay o).1
  have h2 := depthAll_le (n := 3) (t.map paD) fun d hd => by obtain ⟨o, _, rfl⟩ := List.mem_map.mp hd; exact (pa_lay o).2
  refine ⟨by simp only [PyData.canLay0]; exact h1, ?_⟩
  simp only [PyData.depth]
  omega
theorem lnks_shaped {L : Ld} (h : LdOk L) : SeqAt.shaped (.tuple (L.links.map lnkD)) = true := shaped_tup (n := 5) (by decide) fun d hd => by
  obtain ⟨l, hl, rfl⟩ := List.mem_map.mp hd
  have s0 := nameOk_str (h.ln l hl)
  have s1 := nameOk_str (h.pn _ (h.le l hl).1)
  have s2 := nameOk_str (h.pn _ (h.le l hl).2.1)
  obtain ⟨t1, t2⟩ := tms_lay l.times
  unfold lnkD
  constructor
  · simp only [PyData.canLay0, PyData.canLayAll0, s0, s1, s2, t1, Bool.and_true]
  · simp only [PyData.depth, PyData.depthAll]
    omega
theorem strs_lay {l : List Str} (h : ∀ x ∈ l, PyData.strOk x = true) : ∀ d ∈ l.map PyData.str, d.canLay0 = true ∧ d.depth ≤ 5 := fun d hd => by
  obtain ⟨x, hx, rfl⟩ := List.mem_map.mp hd
  exact str_lay (h x hx)
theorem paths_shaped {L : Ld} (h : LdOk L) : SeqAt.shaped (.tuple (L.paths.map pathD)) = true := shaped_tup (n := 5) (by decide) fun d hd => by
  obtain ⟨p, hp, rfl⟩ := List.mem_map.mp hd
  have s1 := nameOk_str (h.pn _ (h.te p hp).1)
  have s2 := nameOk_str (h.pn _ (h.te p hp).2.1)
  unfold pathD
  constructor
  · simp only [PyData.canLay0, PyData.canLayAll0, s1, s2, Bool.and_true]
  · simp [PyData.depth, PyData.depthAll]
/-! ### readings of law -/
section
variable {K : PySem.W.Frag} {σ : L2.St} {H : Hp} {ta tb tc td te tk to : TE} {tt : TT} {tz : TS} {D : L2.Ends} {v x y : V} {P : Post}
theorem ev_intB {b : Bool} (h : Ev te σ H (.bl b)) : Ev (tCB (fun xs H Q => (∃ i, xs = [.int i] ∧ Q (.int i) H) ∨ ∃ k, xs = [.bl k] ∧ Q (.int (if k then 1 else 0)) H) (tCons te tNil)) σ H (.int (if b then 1 else 0)) := fun H1 e Q q =>
  h H1 e _ fun H2 e2 => .inr ⟨b, rfl, q H2 e2⟩
theorem q_setL {a : Addr} {xs : List V} {k : Nat} (hv : EvP te σ H P) (ho : Ev to σ H (.ref a)) (ha : H a = some (.lst xs)) (hk : k < xs.length) (h : ∀ v H1 H2, Ex H H1 → P v H1 → Ex H1 H2 → tz D σ (upd H2 a (.lst (xs.set k v)))) : tSeq (tAsg te (gSub to (tC (.int (k : Int))) rSetL)) tz D σ H :=
  hv H (Ex.refl H) _ fun v H1 e1 p => ho H1 e1 _ fun H2 e2 => ⟨a, xs, (k : Int), k, rfl, rfl, (e1.trans e2) _ _ ha, ixN_nat hk, h v H1 H2 e1 p e2⟩
theorem q_ifNo (h : EvT tt σ H false) (k : ∀ H1, Ex H H1 → tz D σ H1) : tSeq (tIfS tt (tRet (tC (.bl false))) tNext) tz D σ H :=
  r_seq (r_if h (fun c => by cases c) fun _ H1 e1 => k H1 e1)
theorem et_neSame {d : PyData} (ha : EvP ta σ H (fun v H' => Dt H' v d)) (hb : EvP tb σ H (fun v H' => Dt H' v d)) (sd : SeqAt.shaped d = true) : EvT (tTest (tOp (rNeD K) ta tb)) σ H false := fun H1 e1 Q q =>
  ha H1 e1 _ fun v H2 e2 hv => hb H2 (e1.trans e2) _ fun u H3 e3 hu => ⟨d, d, (hv.mono e3).dp, hu.dp, sd, sd, _, rfl, by
    rw [SeqAt.eqv_refl d (SeqAt.canLay_of_shaped sd)]
    exact q H3 (e2.trans e3)⟩
theorem ev_isiL {a : Addr} {xs : List V} (ha : Ev ta σ H (.ref a)) (h : H a = some (.lst xs)) : Ev (tCB (rIsi K) (tCons ta (tCons (tC (.ty "list")) tNil))) σ H (.bl true) := fun H1 e Q q =>
  ha H1 e _ fun H2 e2 => ⟨.ref a, .ty "list", .type "list", .type "list", true, rfl, .ty _, .base (.lst ((e.trans e2) _ _ h)), rfl, q H2 e2⟩
theorem ep_names {p : Addr} {xs : List V} {L : Ld} {j : Nat} (h : Ev te σ H (.ref p)) (hp : Rd H p (.tup xs)) (hd : DtA H xs (L.links.map lnkD)) (hz : L.links.length ≤ 60) (hj : ∀ v : V, ((wipe σ [j]).set j (some v))[j]? = some (some v)) (hw : ∀ v : V, wipe ((wipe σ [j]).set j (some v)) [j] = wipe σ [j]) :
    EvP (tLc (iTup K te) (gName j) tYes (tOp (rIxT K) (tVar j) (tC (.int 0))) [j]) σ H (fun v H' => ∃ q, v = .ref q ∧ H q = none ∧ H' q = some (.lst ((L.links.map fun l : Lnk => l.nm).map V.str))) := by
  have hl := hd.map_len
  refine (ep_lc L.links (fun l => some (.str l.nm)) (ei_tup (xs := xs) ((ep_ev h).imp fun v H1 e ev => ⟨p, ev, .inl (ex_rd e hp)⟩)) hl (by omega) (fun _ _ d h => by cases h; rfl) (fun i x l H1 e1 hl hx => ?_)).imp fun v H1 e ⟨q, ys, ev, nq, hq, hd⟩ => ⟨q, ev, nq, ?_⟩
  · intro H2 e2 Qk Qn hk hn
    obtain ⟨a, tv, rfl, ha, htv⟩ := dt_lnk ((hd.map_at hx hl).mono (e1.trans e2))
    refine lcY (hw _) ?_
    exact r_bind (ep_ev (ev_op (ev_var (hj _)) ev_c (rv_ixT (.inl ha) (atI_nat (j := 0) rfl)))) fun v H3 e3 ev => hk _ rfl v H3 e3 (by rw [ev]; exact .str _)
  · rw [List.filterMap_eq_map'] at hd
    have : L.links.map (fun l => PyData.str l.nm) = (L.links.map fun l : Lnk => l.nm).map PyData.str := by rw [List.map_map]; rfl
    rw [this] at hd
    rw [← hd.strs]
    exact hq
theorem ed_of {d : PyData} (h : Ev te σ H v) (hd : Dt H v d) : EvP te σ H (fun v H' => Dt H' v d) := (ep_ev h).imp fun u H1 e eu => by rw [eu]; exact hd.mono e
theorem ep_pick {ia nm : Addr} {ks : List Nat} {ls : List Lnk} {j : Nat} {tn : TE} (h : Ev te σ H (.ref ia)) (hi : H ia = some (.lst (ks.map natV))) (hlt : ∀ k ∈ ks, k < ls.length) (hz : ks.length ≤ 60) (hn : ∀ (v : V) H1, Ev tn ((wipe σ [j]).set j (some v)) H1 (.ref nm)) (hnm : H nm = some (.lst ((ls.map fun l : Lnk => l.nm).map V.str)))
    (hj : ∀ v : V, ((wipe σ [j]).set j (some v))[j]? = some (some v)) (hw : ∀ v : V, wipe ((wipe σ [j]).set j (some v)) [j] = wipe σ [j]) :
    EvP (tLc (iList K te) (gName j) tYes (tOp (rIxL K) tn (tVar j)) [j]) σ H (fun v H' => Dt H' v (.list (ks.filterMap fun k => (ls[k]?).map fun l : Lnk => PyData.str l.nm))) := by
  refine (ep_lc ks (fun k => (ls[k]?).map fun l : Lnk => PyData.str l.nm) (ei_list (xs := ks.map natV) ((ep_ev h).imp fun v H1 e ev => ⟨ia, ev, SqL.of (e _ _ hi)⟩)) (by rw [List.length_map]) (by omega) (fun k _ d hd => ?_) (fun i x k H1 e1 hk hx => ?_)).imp fun v H1 e ⟨q, ys, ev, nq, hq, hd⟩ => by rw [ev]; exact .lst hq hd
  · obtain ⟨l, _, rfl⟩ := Option.map_eq_some_iff.mp hd
    rfl
  · intro H2 e2 Qk Qn hk2 hn2
    have hk3 := hlt k (List.mem_of_getElem? hk)
    have hl : ls[k]? = some ls[k] := List.getElem?_eq_getElem hk3
    rw [List.getElem?_map, hk] at hx
    obtain rfl : natV k = x := Option.some.inj hx
    refine lcY (hw _) ?_
    exact r_bind (ep_ev (ev_op (hn _ _) (ev_var (v := .int (k : Int)) (hj _)) (rv_ixL (SqL.of ((e1.trans e2) _ _ hnm)) (atI_nat (j := k) (by rw [List.getElem?_map, List.getElem?_map, hl]; rfl))))) fun v H3 e3 ev => hk2 (.str ls[k].nm) (by rw [hl]; rfl) v H3 e3 (by rw [ev]; exact .str _)
theorem ev_index {ls : List Str} {k : Nat} {z : Str} {tx : TE} (h : EvP te σ H (fun v H' => ∃ q, v = .ref q ∧ H q = none ∧ H' q = some (.lst (ls.map V.str)))) (hx : Ev tx σ H (.str z)) (hk : ls[k]? = some z) (hno : ∀ (j : Nat) (y : Str), j < k → ls[j]? = some y → y ≠ z) : Ev (tBM K "list" (rIndex K) te (tCons tx tNil)) σ H (.int (k : Int)) := fun H1 e Q q =>
  h H1 e _ fun v H2 e2 ⟨p, ev, _, hp⟩ => by
    subst ev
    refine ⟨.inl ⟨rfl, _, SqL.of hp⟩, hx H2 (e.trans e2) _ fun H3 e3 => ⟨p, ls.map V.str, .str z, k, .str z, rfl, rfl, SqL.of (e3 _ _ hp), rfl, flat_strs _, by rw [List.getElem?_map, hk]; rfl, by simp [eqV], fun m z' hm hz' => ?_, q H3 (e2.trans e3)⟩⟩
    rw [List.getElem?_map] at hz'
    obtain ⟨y, hy, rfl⟩ := Option.map_eq_some_iff.mp hz'
    have := hno m y hm hy
    simp [eqV, this]
theorem et_dninP {p : Str} {o : Option Int} (h : Ev tk σ H (.str p)) (hd : EvP td σ H (fun v H' => ∃ b l, v = .ref b ∧ H' b = some (.dK (mapD l)) ∧ look l p = o)) : EvT (tB (tDNotIn tk td)) σ H (!o.isSome) := fun H1 e Q q => h H1 e _ fun H2 e2 => hd H2 (e.trans e2) _ fun v H3 e3 ⟨b, l, ev, hb, ho⟩ => by
  subst ev
  have hg := DGet.k (k := Sum.inr p) hb
  rw [valV_mapD, ho] at hg
  refine ⟨b, _, rfl, hg, _, rfl, ?_⟩
  rw [show (o.map V.int).isSome = o.isSome by cases o <;> rfl]
  exact q H3 (e2.trans e3)
theorem ed_lst {ds : List PyData} {t : TA} (h : EvAD t σ H ds) (hl : ds.length ≤ 100) : EvP (tLst t) σ H (fun v H' => Dt H' v (.list ds)) := (ep_lstD h hl).imp fun v H1 e ⟨p, ys, ev, _, hp, hd⟩ => by rw [ev]; exact .lst hp hd
theorem ed_cat {d1 d2 : List PyData} (ha : EvP ta σ H (fun v H' => Dt H' v (.list d1))) (hb : EvP tb σ H (fun v H' => Dt H' v (.list d2))) (hl : d1.length + d2.length ≤ 1000) : EvP (tOp rCat ta tb) σ H (fun v H' => Dt H' v (.list (d1 ++ d2))) := fun H1 e Q q =>
  ha H1 e _ fun v H2 e2 hv => hb H2 (e.trans e2) _ fun u H3 e3 hu => by
    obtain ⟨a, xs, rfl, hxa, hxd⟩ := (hv.mono e3).lst_at
    obtain ⟨b, ys, rfl, hyb, hyd⟩ := hu.lst_at
    have l1 := hxd.len
    have l2 := hyd.len
    exact ⟨a, b, xs, ys, rfl, rfl, hxa, hyb, sz_of (by omega), fun p np => q _ _ ((e2.trans e3).trans (Ex.new np)) (.lst upd_same ((hxd.append hyd).mono (Ex.new np)))⟩
theorem ev_eqSame {d : PyData} (ha : EvP ta σ H (fun v H' => Dt H' v d)) (hb : EvP tb σ H (fun v H' => Dt H' v d)) (sd : SeqAt.shaped d = true) : Ev (tOp (rEqD K) ta tb) σ H (.bl true) := fun H1 e1 Q q =>
  ha H1 e1 _ fun v H2 e2 hv => hb H2 (e1.trans e2) _ fun u H3 e3 hu => ⟨d, d, (hv.mono e3).dp, hu.dp, sd, sd, by
    rw [SeqAt.eqv_refl d (SeqAt.canLay_of_shaped sd)]
    exact q H3 (e2.trans e3)⟩
theorem ep_refused {t0 t1 t2 t3 t4 : TE} {E : XK} {vl : V} {L : Ld} {W : Wea} {S B : Rws} {z x0 x1 : Str} {o0 o1 : Out} (h0 : Ev t0 σ H vl) (h1 : EvP t1 σ H (fun v H' => Dt H' v (weaD W))) (h2 : EvP t2 σ H (fun v H' => Dt H' v (rwsD S))) (h3 : EvP t3 σ H (fun v H' => Dt H' v (rwsD B))) (h4 : Ev t4 σ H (.str z))
    (hl : LandV K H vl L) (hk : LdOk L) (ok : WeaSm W) (s0 : ∀ q ∈ S, 0 ≤ q.2) (sl : S.length < 1000) (bl : B.length < 1000) (g0 : ∀ o, gate L W S B o = o0) (g1 : ∀ o, gateAt L W S B z o = o1) (ht0 : eTx o0 = some x0) (ht1 : eTx o1 = some x1) :
    EvP (tCl (spR (R_law_refused K)) E (tCons t0 (tCons t1 (tCons t2 (tCons t3 (tCons t4 tNil)))))) σ H (fun v H' => Dt H' v (.list [.str x0, .str x0, .str x1])) :=
  ep_callP (R := R_law_refused K) (eap_v h0 (eap_p h1 (eap_p h2 (eap_p h3 (eap_v h4 eap_nil) fun _ _ _ e h => h.mono e) fun _ _ _ e h => h.mono e) fun _ _ _ e h => h.mono e)) fun vs H1 e1 ⟨r0, er0, v1, r1, er1, hv1, v2, r2, er2, hv2, v3, r3, er3, hv3, r4, er4, er5⟩ =>
    ⟨vl, v1, v2, v3, z, L, W, S, B, o0, o1, x0, x1, by rw [er0, er1, er2, er3, er4, er5], ⟨⟨hl.mono e1, hv1, hv2, hv3, ok⟩, hk, s0, sl, bl⟩, g0, g1, ht0, ht1, rfl⟩
end
end EF
set_option maxHeartbeats 4000000
namespace EF
open PySem PySem.Spec PyProof.Rows L2 Evl
section
variable {P : Program} {w : World} {K : PySem.W.Frag} {mg : Str → Option Value} {base : Heap}
def R_law (K : PySem.W.Frag) : List V → Hp → Post → Prop := fun vs H Po => ∃ a ns, vs = [.ref a] ∧ SqL K H a ((ns : List Int).map V.int) ∧ ns.length ≤ 63 ∧ Po = fun v _ => v = .bl true
theorem sc_law : FnScope ["_law_script", "_law_numbers_here", "_law_parts_here", "_law_weather_here", "_law_starts", "_law_breaks", "_law_place", "_law_land_here", "_law_fires_here", "_law_names_here", "_law_link", "_law_idle_here", "_law_told", "_law_k", "_law_left", "_law_name", "_law_less", "_law_lean", "_law_due"] ["_law_script"] (defScope s_law) := ⟨rfl, rfl, rfl, by decide +kernel, rfl, by decide +kernel, by decide +kernel⟩
theorem ok_law (S : Says K mg) (U : UnkOk P K (cUnk K)) (LP : PrOk K) (XU : XfC K (cUnk K)) {fd : FuncData} (F : FunD K "law" "law" (defArgs s_law) (defBody s_law) (defScope s_law) [] [] (He.ga K "law") fd) : FnOk P w K mg base (L2.CX P w) 10 (He.ga K "law") fd ["_law_script"] (spR (R_law K)) := by
  have G_law_numbers := ok_law_numbers (P := P) (w := w) (base := base) S
  have G_law_parts := ok_law_parts (P := P) (w := w) (base := base) S
  have G_law_weather := ok_law_weather (P := P) (w := w) (base := base) S
  have G_law_rows := ok_law_rows (P := P) (w := w) (base := base) S
  have G_law_land := ok_law_land (P := P) (w := w) (base := base) S LP
  have G_law_fires := ok_law_fires (P := P) (w := w) (base := base) S
  have G_law_fire := ok_law_fire (P := P) (w := w) (base := base) S
  have G_law_without := ok_law_without (P := P) (w := w) (base := base) S
  have G_law_idle := ok_law_idle (P := P) (w := w) (base := base) S
  have G_law_refused := ok_law_refused (P := P) (w := w) (base := base) S U LP XU
  have G_idle_links := ok_idle_links (P := P) (w := w) (base := base) S U LP
  have G_lean_land := ok_lean_land (P := P) (w := w) (base := base) S U LP
  have G_needed_links := ok_needed_links (P := P) (w := w) (base := base) S U LP
  have G_fastest := ok_fastest (P := P) (w := w) (base := base) S U
  have G_slowest := ok_slowest (P := P) (w := w) (base := base) S U
  refine F.ok sc_law (fun vs H Q E h => ?_) (fun cdv A outer s H vs Q E hr h => ?_)
  · obtain ⟨_, ⟨_, _, rfl, _⟩, _⟩ := h
    rfl
  · obtain ⟨_, ⟨a, ns0, rfl, hsc, hscl, rfl⟩, q⟩ := h
    have hu := hu_of hr
    refine ⟨_, PSs.nox ((pss_cons (ps_set (i := 1) sc_law.nd rfl (by first | exact Or.inl rfl | exact Or.inr rfl) (pe_fn G_law_numbers (hr.mono (by decide)) (pa_cons (pv 0) (pa_cons pe_int pa_nil))))
    (pss_cons (ps_set (i := 2) sc_law.nd rfl (by first | exact Or.inl rfl | exact Or.inr rfl) (pe_fn G_law_parts (hr.mono (by decide)) (pa_cons (pv 1) (pa_cons pe_int pa_nil))))
    (pss_cons (ps_asg (pe_slice sl_tupA (pe_ix ix_list (pv 2) pe_int (fun _ _ => rfl)) po_none (po_some (pe_op op_add pe_int (pe_op op_mul pe_int (pe_callTy call_int1 (by rfl) S.f_int (by decide +kernel) (pa_cons (pe_cmpR op_eq (pe_op op_mod (pe_callTy call_int1 (by rfl) S.f_int (by decide +kernel) (pa_cons (pe_ix ix_list (pv 1) pe_int (fun _ _ => rfl)) pa_nil)) pe_int) pe_int (nomark _)) pa_nil)))))) (pg_sub (pv 2) pe_int set_list))
    (pss_cons (ps_set (i := 3) sc_law.nd rfl (by first | exact Or.inl rfl | exact Or.inr rfl) (pe_fn G_law_weather (hr.mono (by decide)) (pa_cons (pv 1) (pa_cons pe_int (pa_cons (pv 2) pa_nil)))))
    (pss_cons (ps_set (i := 4) sc_law.nd rfl (by first | exact Or.inl rfl | exact Or.inr rfl) (pe_fn G_law_rows (hr.mono (by decide)) (pa_cons (pv 1) (pa_cons pe_int (pa_cons (pe_op op_mod (pe_callTy call_int1 (by rfl) S.f_int (by decide +kernel) (pa_cons (pe_ix ix_list (pv 1) pe_int (fun _ _ => rfl)) pa_nil)) pe_int) (pa_cons (pv 2) (pa_cons pe_int pa_nil)))))))
    (pss_cons (ps_set (i := 5) sc_law.nd rfl (by first | exact Or.inl rfl | exact Or.inr rfl) (pe_fn G_law_rows (hr.mono (by decide)) (pa_cons (pv 1) (pa_cons pe_int (pa_cons (pe_op op_mod (pe_callTy call_int1 (by rfl) S.f_int (by decide +kernel) (pa_cons (pe_ix ix_list (pv 1) pe_int (fun _ _ => rfl)) pa_nil)) pe_int) (pa_cons (pv 2) (pa_cons pe_int pa_nil)))))))
    (pss_cons (ps_set (i := 6) sc_law.nd rfl (by first | exact Or.inl rfl | exact Or.inr rfl) (pe_ix ix_tup (pe_ix ix_list (pv 2) pe_int (fun _ _ => rfl)) (pe_op op_mod (pe_callTy call_int1 (by rfl) S.f_int (by decide +kernel) (pa_cons (pe_ix ix_list (pv 1) pe_int (fun _ _ => rfl)) pa_nil)) (pe_callB call_len_seq (by rfl) S.f_len PySem.boot_len (pa_cons (pe_ix ix_list (pv 2) pe_int (fun _ _ => rfl)) pa_nil))) (fun _ _ => rfl)))
    (pss_cons (ps_set (i := 7) sc_law.nd rfl (by first | exact Or.inl rfl | exact Or.inr rfl) (pe_fn G_law_land (hr.mono (by decide)) (pa_cons (pv 2) pa_nil)))
    (pss_cons (ps_set (i := 8) sc_law.nd rfl (by first | exact Or.inl rfl | exact Or.inr rfl) (pe_fn G_law_fires (hr.mono (by decide)) (pa_cons (pv 2) (pa_cons (pv 3) (pa_cons (pv 4) (pa_cons (pv 5) pa_nil))))))
    (pss_cons (ps_set (i := 9) sc_law.nd rfl (by first | exact Or.inl rfl | exact Or.inr rfl) (pe_lc (own := [("_law_link", 10)]) (g := (gName 10)) (tt := tYes) (te := (tOp (rIxT K) (tVar 10) (tC (.int 0)))) rfl sc_law.nd (pi_tup (pe_ix ix_list (pv 2) pe_int (fun _ _ => rfl))) (blkOk_by (N := ["_law_script", "_law_numbers_here", "_law_parts_here", "_law_weather_here", "_law_starts", "_law_breaks", "_law_place", "_law_land_here", "_law_fires_here", "_law_names_here", "_law_link", "_law_idle_here", "_law_told", "_law_k", "_law_left", "_law_name", "_law_less", "_law_lean", "_law_due"]) (sc := defScope s_law) (by decide +kernel)) (fun _ _ _ _ _ => (pg_name (i := 10) sc_law.nd rfl (by first | exact Or.inl rfl | exact Or.inr rfl))) (fun _ _ _ _ _ => pts_nil) (fun _ _ _ _ _ => (pe_ix ix_tup (pv 10) pe_int (fun _ _ => rfl)))))
    (pss_cons (ps_set (i := 11) sc_law.nd rfl (by first | exact Or.inl rfl | exact Or.inr rfl) (pe_fn G_law_idle (hr.mono (by decide)) (pa_cons (pv 2) (pa_cons (pv 3) (pa_cons (pv 4) (pa_cons (pv 5) (pa_cons (pv 8) pa_nil)))))))
    (pss_cons (ps_set (i := 12) sc_law.nd rfl (by first | exact Or.inl rfl | exact Or.inr rfl) (pe_fnS G_idle_links (hr.mono (by decide)) takes_none5 (pa_cons (pv 7) (pa_cons (pv 3) (pa_cons (pv 4) (pa_cons (pv 5) pa_nil))))))
    (pss_cons (ps_if (PW.pt (pw_or (pt_not (pt_val (pe_callB call_isi (by rfl) S.f_isinstance (by decide +kernel) (pa_cons (pv 12) (pa_cons (pe_bltn (v := .ty "list") (u := .type "list") rfl S.f_list (by decide +kernel) rfl) pa_nil))))) (pw_or1 (pt_cmpR (op_neD hr.units) (pv 12) (pe_lc (own := [("_law_k", 13)]) (g := (gName 13)) (tt := tYes) (te := (tOp (rIxL K) (tVar 9) (tVar 13))) rfl sc_law.nd (pi_list (pv 11)) (blkOk_by (N := ["_law_script", "_law_numbers_here", "_law_parts_here", "_law_weather_here", "_law_starts", "_law_breaks", "_law_place", "_law_land_here", "_law_fires_here", "_law_names_here", "_law_link", "_law_idle_here", "_law_told", "_law_k", "_law_left", "_law_name", "_law_less", "_law_lean", "_law_due"]) (sc := defScope s_law) (by decide +kernel)) (fun _ _ _ _ _ => (pg_name (i := 13) sc_law.nd rfl (by first | exact Or.inl rfl | exact Or.inr rfl))) (fun _ _ _ _ _ => pts_nil) (fun _ _ _ _ _ => (pe_ix ix_list (pv 9) (pv 13) (fun _ _ => rfl)))) (nomark _))))) (pss_one (ps_ret pe_bl)) pss_nil)
    (pss_cons (ps_set (i := 14) sc_law.nd rfl (by first | exact Or.inl rfl | exact Or.inr rfl) (pv 2))
    (pss_cons (ps_for PassesOwn.never rfl (pi_list (pv 9)) (pg_name (i := 15) sc_law.nd rfl (by first | exact Or.inl rfl | exact Or.inr rfl))
      (pss_cons (ps_set (i := 16) sc_law.nd rfl (by first | exact Or.inl rfl | exact Or.inr rfl) (pe_fn G_law_without (hr.mono (by decide)) (pa_cons (pv 14) (pa_cons (pe_bm PySem.F.plainAttrs_list PySem.F.slot_list_index PySem.F.type_list_index mt_index (pe_lc (own := [("_law_link", 10)]) (g := (gName 10)) (tt := tYes) (te := (tOp (rIxT K) (tVar 10) (tC (.int 0)))) rfl sc_law.nd (pi_tup (pe_ix ix_list (pv 14) pe_int (fun _ _ => rfl))) (blkOk_by (N := ["_law_script", "_law_numbers_here", "_law_parts_here", "_law_weather_here", "_law_starts", "_law_breaks", "_law_place", "_law_land_here", "_law_fires_here", "_law_names_here", "_law_link", "_law_idle_here", "_law_told", "_law_k", "_law_left", "_law_name", "_law_less", "_law_lean", "_law_due"]) (sc := defScope s_law) (by decide +kernel)) (fun _ _ _ _ _ => (pg_name (i := 10) sc_law.nd rfl (by first | exact Or.inl rfl | exact Or.inr rfl))) (fun _ _ _ _ _ => pts_nil) (fun _ _ _ _ _ => (pe_ix ix_tup (pv 10) pe_int (fun _ _ => rfl)))) (pa_cons (pv 15) pa_nil)) pa_nil))))
    (pss_one (ps_if (pt_cmpR (op_eqDD hr.units) (pe_fn G_law_fires (hr.mono (by decide)) (pa_cons (pv 16) (pa_cons (pv 3) (pa_cons (pv 4) (pa_cons (pv 5) pa_nil))))) (pv 8) (nomark _)) (pss_one (ps_set (i := 14) sc_law.nd rfl (by first | exact Or.inl rfl | exact Or.inr rfl) (pv 16))) pss_nil))))
    (pss_cons (ps_set (i := 17) sc_law.nd rfl (by first | exact Or.inl rfl | exact Or.inr rfl) (pe_fnS G_lean_land (hr.mono (by decide)) takes_none5 (pa_cons (pv 7) (pa_cons (pv 3) (pa_cons (pv 4) (pa_cons (pv 5) pa_nil))))))
    (pss_cons (ps_if (PW.pt (pw_or (pt_cmpR (op_neD hr.units) (pe_fld (pv 17) rfl) (pe_ix ix_list (pv 14) pe_int (fun _ _ => rfl)) (nomark _)) (pw_or (pt_cmpR (op_neD hr.units) (pe_fld (pv 17) rfl) (pe_ix ix_list (pv 2) pe_int (fun _ _ => rfl)) (nomark _)) (pw_or (pt_cmpR (op_neD hr.units) (pe_fld (pv 17) rfl) (pe_ix ix_list (pv 2) pe_int (fun _ _ => rfl)) (nomark _)) (pw_or (pt_cmpR (op_neD hr.units) (pe_fld (pv 17) rfl) (pe_ix ix_list (pv 2) pe_int (fun _ _ => rfl)) (nomark _)) (pw_or1 (pt_cmpR (op_neD hr.units) (pe_fld (pv 7) rfl) (pe_ix ix_list (pv 2) pe_int (fun _ _ => rfl)) (nomark _)))))))) (pss_one (ps_ret pe_bl)) pss_nil)
    (pss_cons (ps_if (pt_cmpR (op_neD hr.units) (pe_fnS G_fastest (hr.mono (by decide)) takes_none5 (pa_cons (pv 17) (pa_cons (pv 3) (pa_cons (pv 4) (pa_cons (pv 5) pa_nil))))) (pe_fnS G_fastest (hr.mono (by decide)) takes_none5 (pa_cons (pv 7) (pa_cons (pv 3) (pa_cons (pv 4) (pa_cons (pv 5) pa_nil))))) (nomark _)) (pss_one (ps_ret pe_bl)) pss_nil)
    (pss_cons (ps_if (pt_cmpR (op_neD hr.units) (pe_fnS G_slowest (hr.mono (by decide)) takes_none5 (pa_cons (pv 17) (pa_cons (pv 3) (pa_cons (pv 4) (pa_cons (pv 5) pa_nil))))) (pe_fnS G_slowest (hr.mono (by decide)) takes_none5 (pa_cons (pv 7) (pa_cons (pv 3) (pa_cons (pv 4) (pa_cons (pv 5) pa_nil))))) (nomark _)) (pss_one (ps_ret pe_bl)) pss_nil)
    (pss_cons (ps_set (i := 18) sc_law.nd rfl (by first | exact Or.inl rfl | exact Or.inr rfl) pe_non)
    (pss_cons (ps_if (pt_cmp (pc_din hu (pv 6) (pe_ix ix_list (pv 8) pe_int (fun _ _ => rfl))) (by rfl)) (pss_one (ps_setLc (i := 18) (own := [("_law_k", 13)]) (g := (gName 13)) (tt := (tB (tDNotIn (tVar 6) (tCl _ E0 (tCons (tCl _ E0 (tCons (tVar 2) (tCons (tVar 13) tNil))) (tCons (tVar 3) (tCons (tVar 4) (tCons (tVar 5) (tCons (tC (.int 0)) tNil))))))))) (te := (tOp (rIxL K) (tVar 9) (tVar 13))) rfl sc_law.nd rfl rfl (sw_true rfl rfl rfl (by decide +kernel)) (pi_range1 rfl S.f_range (pa_cons (pe_callB call_len_seq (by rfl) S.f_len PySem.boot_len (pa_cons (pv 9) pa_nil)) pa_nil)) (blkOk_by (N := ["_law_script", "_law_numbers_here", "_law_parts_here", "_law_weather_here", "_law_starts", "_law_breaks", "_law_place", "_law_land_here", "_law_fires_here", "_law_names_here", "_law_link", "_law_idle_here", "_law_told", "_law_k", "_law_left", "_law_name", "_law_less", "_law_lean", "_law_due"]) (sc := defScope s_law) (by decide +kernel)) (fun _ _ _ _ _ => (pg_name (i := 13) sc_law.nd rfl (by first | exact Or.inl rfl | exact Or.inr rfl))) (fun _ _ _ _ _ => (pts_one (pt_cmp (pc_dnotin hu (pv 6) (pe_fn G_law_fire (hr.mono (by decide)) (pa_cons (pe_fn G_law_without (hr.mono (by decide)) (pa_cons (pv 2) (pa_cons (pv 13) pa_nil))) (pa_cons (pv 3) (pa_cons (pv 4) (pa_cons (pv 5) (pa_cons pe_int pa_nil))))))) (by rfl)))) (fun _ _ _ _ _ => (pe_ix ix_list (pv 9) (pv 13) (fun _ _ => rfl))))) pss_nil)
    (pss_cons (ps_if (pt_cmpR (op_neD hr.units) (pe_fnS G_needed_links (hr.mono (by decide)) takes_none5 (pa_cons (pv 7) (pa_cons (pv 3) (pa_cons (pv 4) (pa_cons (pv 5) (pa_cons (pv 6) pa_nil)))))) (pv 18) (nomark _)) (pss_one (ps_ret pe_bl)) pss_nil)
    (pss_cons (ps_if (pt_cmpR (op_neD hr.units) (pe_fn G_law_refused (hr.mono (by decide)) (pa_cons (pv 7) (pa_cons (pe_lst (pa_cons (pe_tup (pa_cons pe_int (pa_cons pe_str pa_nil))) pa_nil)) (pa_cons (pv 4) (pa_cons (pv 5) (pa_cons (pv 6) pa_nil)))))) (pe_lst (pa_cons pe_str (pa_cons pe_str (pa_cons pe_str pa_nil)))) (nomark _)) (pss_one (ps_ret pe_bl)) pss_nil)
    (pss_cons (ps_if (pt_cmpR (op_neD hr.units) (pe_fn G_law_refused (hr.mono (by decide)) (pa_cons (pv 7) (pa_cons (pv 3) (pa_cons (pe_op op_cat (pv 4) (pe_lst (pa_cons (pe_tup (pa_cons pe_str (pa_cons pe_int pa_nil))) pa_nil))) (pa_cons (pe_op op_cat (pv 5) (pe_lst (pa_cons (pe_tup (pa_cons pe_str (pa_cons pe_int pa_nil))) pa_nil))) (pa_cons (pv 6) pa_nil)))))) (pe_lst (pa_cons pe_str (pa_cons pe_str (pa_cons pe_str pa_nil)))) (nomark _)) (pss_one (ps_ret pe_bl)) pss_nil)
    (pss_cons (ps_if (pt_cmpR (op_neD hr.units) (pe_fn G_law_refused (hr.mono (by decide)) (pa_cons (pv 7) (pa_cons (pe_lst (pa_cons (pe_tup (pa_cons pe_int (pa_cons (pe_ix ix_tup (pe_ix ix_list (pv 2) pe_int (fun _ _ => rfl)) pe_int (fun _ _ => rfl)) pa_nil))) pa_nil)) (pa_cons (pv 4) (pa_cons (pv 5) (pa_cons pe_str pa_nil)))))) (pe_lst (pa_cons pe_str (pa_cons pe_str (pa_cons pe_str pa_nil)))) (nomark _)) (pss_one (ps_ret pe_bl)) pss_nil)
    (pss_cons (ps_if (pt_cmpR (op_neD hr.units) (pe_fn G_law_refused (hr.mono (by decide)) (pa_cons (pv 7) (pa_cons (pv 3) (pa_cons (pv 4) (pa_cons (pe_op op_cat (pv 5) (pe_lst (pa_cons (pe_tup (pa_cons pe_str (pa_cons pe_int pa_nil))) pa_nil))) (pa_cons pe_str pa_nil)))))) (pe_lst (pa_cons pe_str (pa_cons pe_str (pa_cons pe_str pa_nil)))) (nomark _)) (pss_one (ps_ret pe_bl)) pss_nil)
    (pss_one (ps_ret (pe_cmpR (op_eqD hr.units) (pe_fn G_law_refused (hr.mono (by decide)) (pa_cons (pv 7) (pa_cons (pe_lst (pa_cons (pe_tup (pa_cons pe_int (pa_cons (pe_ix ix_tup (pe_ix ix_list (pv 2) pe_int (fun _ _ => rfl)) pe_int (fun _ _ => rfl)) pa_nil))) (pa_cons (pe_tup (pa_cons pe_int (pa_cons (pe_ix ix_tup (pe_ix ix_list (pv 2) pe_int (fun _ _ => rfl)) pe_int (fun _ _ => rfl)) pa_nil))) pa_nil))) (pa_cons (pv 4) (pa_cons (pv 5) (pa_cons (pv 6) pa_nil)))))) (pe_lst (pa_cons pe_str (pa_cons pe_str (pa_cons pe_str pa_nil)))) (nomark _))))))))))))))))))))))))))))))), ?_⟩
    -- numbers
    refine q_asgP (ep_callF (R := R_law_numbers K) (NewSm 170) (P := NewSm 170 H) (ea_cons (ev_var (by rfl)) (ea_cons ev_c ea_nil)) (fun H1 e1 => ⟨a, ns0, rfl, ex_l e1 hsc, hscl, rfl⟩) fun H1 e1 v H2 e2 ⟨p, ns, ev, np, hp, h1, h2⟩ => ⟨p, ns, ev, fresh_back e1 np, hp, h1, h2⟩) fun v H1 e1 ⟨na, ns, ev, nna, hna, hnl, hns⟩ => ?_
    subst ev
    have hN : NumV H1 na ns := ⟨hna, hnl, hns⟩
    -- parts
    refine q_asgP (ep_callF (R := R_law_parts) (fun H2 v H' => (∃ p, v = .ref p ∧ H2 p = none) ∧ ∃ L, PartsV H' v L ∧ LawLd L) (P := fun v H' => (∃ p, v = .ref p ∧ H1 p = none) ∧ ∃ L, PartsV H' v L ∧ LawLd L) (ea_cons (ev_var (by rfl)) (ea_cons ev_c ea_nil)) (fun H2 e2 => ⟨na, ns, rfl, hN.mono e2, rfl⟩) fun H2 e2 v H3 e3 ⟨⟨p, ev, np⟩, h⟩ => ⟨⟨p, ev, fresh_back e2 np⟩, h⟩) fun v H2 e2 ⟨⟨pa, ev, npa⟩, L0, hP0, hL0⟩ => ?_
    subst ev
    have hN2 := hN.mono e2
    have hNa : NumV H2 na ns := hN2
    -- the links, cut
    obtain ⟨cut, hcut⟩ : ∃ c : Nat, (6 : Int) + 4 * (if decide (nAt ns ((153 : Int)).toNat % 8 = 1) = true then 1 else 0) = (c : Int) := ⟨((6 : Int) + 4 * (if decide (nAt ns ((153 : Int)).toNat % 8 = 1) = true then 1 else 0)).toNat, by split <;> omega⟩
    obtain ⟨pa', wa, vp0, vl0, vt0, epa, hpa, hw0, hp0, hl0, ht0⟩ := hP0.ex
    obtain rfl : pa = pa' := V.ref.inj epa
    refine q_setL (k := 2) (P := fun v H' => Dt H' v (.tuple ((L0.links.take cut).map lnkD))) (by
      have d2 : EvD (tOp (rIxL K) (tVar 2) (tC (.int 2))) [some (.ref a), some (.ref na), some (.ref pa), none, none, none, none, none, none, none, none, none, none, none, none, none, none, none, none] H2 (.tuple (L0.links.map lnkD)) := (ep_ev (ev_op (ev_var (by rfl)) ev_c (rv_ixL (SqL.of hpa) (atI_nat (j := 2) rfl)))).imp fun v H1 e ev => by rw [ev]; exact hl0.mono e
      rw [List.map_take]
      refine ed_slTake (K := K) d2 ?_
      rw [← hcut]
      exact ev_add ev_c (ev_mul (i := 4) ev_c (ev_intB (ev_eqI (ev_mod (ev_int (hNa.ix (K := K) (i := 153) (ev_var (i := 1) (by rfl)) ev_c (by decide) (by decide))) (ev_c (v := .int 8)) (by decide)) (ev_c (v := .int 1)))) (cmul_l (i := 4) ⟨by omega, by omega⟩))) (ev_var (by rfl)) hpa (show 2 < 4 by decide) fun vl H3 H4 e3 hvl e4 => ?_
    have e24 := e3.trans e4
    have hvl := hvl.mono e4
    have e1e := e1
    have npaH : H pa = none := fresh_back e1 npa
    have nan : na ≠ pa := ne_of_none hN.at_ npa
    have nt : NoTup (H4 pa) := by rw [e24 _ _ hpa]; trivial
    have eG : Ex H (upd H4 pa (.lst [.ref wa, vp0, vl, vt0])) := Ex.mut ((e1.trans e2).trans e24) npaH
    have hNG : NumV (upd H4 pa (.lst [.ref wa, vp0, vl, vt0])) na ns := ⟨by rw [upd_ne nan]; exact e24 _ _ hNa.at_, hnl, hns⟩
    have hPG : PartsV (upd H4 pa (.lst [.ref wa, vp0, vl, vt0])) (.ref pa) (withLinks L0 (L0.links.take cut)) := by
      obtain ⟨o, ho1, ho2⟩ := hw0
      refine ⟨pa, wa, vp0, vl, vt0, rfl, upd_same, ⟨o, ?_, ho2⟩, Dt.upd nt (by simp [noL, noLs_map]; exact noLs_map (fun _ => rfl) _) (hp0.mono e24), Dt.upd nt (by show noLs _ = true; exact noLs_map noL_lnk _) hvl, Dt.upd nt (by show noLs _ = true; exact noLs_map noL_path _) (ht0.mono e24)⟩
      have hne : wa ≠ pa := fun e => by
        rw [e, hpa] at ho1
        cases ho1
      rw [upd_ne hne]
      exact e24 _ _ ho1
    have hLG : LawLd (withLinks L0 (L0.links.take cut)) := hL0.sub (List.take_sublist _ _)
    show (tSeq _ _) _ _ (upd H4 pa (.lst [.ref wa, vp0, vl, vt0]))
    generalize upd H4 pa (.lst [.ref wa, vp0, vl, vt0]) = G at *
    generalize withLinks L0 (L0.links.take cut) = L at *
    clear hpa hw0 hp0 hl0 ht0 hvl nt hcut hP0 hL0 hNa hN2 hN hna
    refine q_asgP (ep_call (R := R_law_weather) (ea_cons (ev_var (by rfl)) (ea_cons ev_c (ea_cons (ev_var (by rfl)) ea_nil))) fun H5 e5 => ⟨na, ns, .ref pa, L, rfl, hNG.mono e5, hPG.mono e5, hLG, rfl⟩) fun vw H5 e5 ⟨W, hW, hWok, hW4, hWm⟩ => ?_
    obtain ⟨m1, hm1, hm1b⟩ : ∃ m : Nat, nAt ns (150 : Int).toNat % 3 = (m : Int) ∧ m ≤ 2 := by
      have := mod_b (nAt ns (150 : Int).toNat) (show (0 : Int) < 3 by decide)
      exact ⟨(nAt ns (150 : Int).toNat % 3).toNat, by omega, by omega⟩
    refine q_asgP (ep_call (vs := [.ref na, .int ((120 : Nat) : Int), .int (m1 : Int), .ref pa, .int 9]) (R := R_law_rows) (ea_cons (ev_var (by rfl)) (ea_cons ev_c (ea_cons (by
      rw [← hm1]
      exact ev_mod (ev_int ((hNG.mono e5).ix (K := K) (i := 150) (ev_var (i := 1) (by rfl)) ev_c (by decide) (by decide))) (ev_c (v := .int 3)) (by decide)) (ea_cons (ev_var (by rfl)) (ea_cons ev_c ea_nil))))) fun H6 e6 => ⟨na, ns, 120, m1, 9, .ref pa, L, rfl, (hNG.mono e5).mono e6, (hPG.mono e5).mono e6, hLG, by omega, by omega, by decide, rfl⟩) fun vs H6 e6 ⟨Sr, hSt, hStl, hStp⟩ => ?_
    have e56 := e5.trans e6
    obtain ⟨m2, hm2, hm2b⟩ : ∃ m : Nat, nAt ns (151 : Int).toNat % 4 = (m : Int) ∧ m ≤ 3 := by
      have := mod_b (nAt ns (151 : Int).toNat) (show (0 : Int) < 4 by decide)
      exact ⟨(nAt ns (151 : Int).toNat % 4).toNat, by omega, by omega⟩
    refine q_asgP (ep_call (vs := [.ref na, .int ((130 : Nat) : Int), .int (m2 : Int), .ref pa, .int 30]) (R := R_law_rows) (ea_cons (ev_var (by rfl)) (ea_cons ev_c (ea_cons (by
      rw [← hm2]
      exact ev_mod (ev_int ((hNG.mono e56).ix (K := K) (i := 151) (ev_var (i := 1) (by rfl)) ev_c (by decide) (by decide))) (ev_c (v := .int 4)) (by decide)) (ea_cons (ev_var (by rfl)) (ea_cons ev_c ea_nil))))) fun H7 e7 => ⟨na, ns, 130, m2, 30, .ref pa, L, rfl, (hNG.mono e56).mono e7, (hPG.mono e56).mono e7, hLG, by omega, by omega, by decide, rfl⟩) fun vb H7 e7 ⟨B, hB, hBl, hBp⟩ => ?_
    have e57 := e56.trans e7
    have hp2 := hLG.p.1
    obtain ⟨z, hz, ez⟩ := PartsV.place (K := K) (hPG.mono e57) (by omega) (σ := [some (.ref a), some (.ref na), some (.ref pa), some vw, some vs, some vb, none, none, none, none, none, none, none, none, none, none, none, none, none]) (ev_var (i := 2) (by rfl)) (NumV.ix (K := K) (hNG.mono e57) (i := 152) (ev_var (i := 1) (by rfl)) ev_c (by decide) (by decide))
    refine q_asgP (ep_ev ez) fun v H8 e8 ev => ?_
    subst ev
    clear ez
    have e58 := e57.trans e8
    refine q_asgP (ep_call (R := R_law_land K) (ea_cons (ev_var (by rfl)) ea_nil) fun H9 e9 => ⟨.ref pa, L, rfl, (hPG.mono e58).mono e9, hLG.ok, rfl⟩) fun vl' H9 e9 hLand => ?_
    have e59 := e58.trans e9
    have e69 := ((e6.trans e7).trans e8).trans e9
    have e79 := (e7.trans e8).trans e9
    have good : Good L W Sr B := ⟨hLG.ok, hWok, hStp, by omega, by omega⟩
    have wsm : WeaSm W := ⟨by obtain ⟨z0, r, e⟩ := hWok.zero; rw [e]; simp, by omega, fun r hr => by have := hWm r hr; omega⟩
    have lq : LawQ H9 (.ref pa) vw vs vb L W Sr B := ⟨hPG.mono e59, hLG, hW.mono e69, hSt.mono e79, hB.mono (e8.trans e9), good, by omega⟩
    have ask : Ask K H9 vl' vw vs vb L W Sr B := ⟨⟨hLand, lq.w, lq.s, lq.b, wsm⟩, hLG.ok, fun q hq => (hStp q hq).2, by omega, by omega⟩
    have opn : Open L W Sr B := ⟨hWok.mem, fun r hr => (hStp r hr).1, fun r hr => (hBp r hr).1, weaGood_of hWok⟩
    have eG9 := eG.trans e59
    clear hNG hPG hW hSt hB
    refine q_asgP (ep_call (R := R_law_fires) (ea_cons (ev_var (by rfl)) (ea_cons (ev_var (by rfl)) (ea_cons (ev_var (by rfl)) (ea_cons (ev_var (by rfl)) ea_nil)))) fun H10 e10 => ⟨.ref pa, vw, vs, vb, L, W, Sr, B, rfl, lq.mono e10, rfl⟩) fun vf H10 e10 hf => ?_
    have hf : FiresV L W Sr B vf H10 := hf
    have hl10 := hLG.l
    obtain ⟨kl, ks, hkl, hkd, ev2⟩ := (lq.mono e10).p.ix2 (K := K) (σ := [some (.ref a), some (.ref na), some (.ref pa), some vw, some vs, some vb, some (.str z), some vl', some vf, none, none, none, none, none, none, none, none, none, none]) (ev_var (i := 2) (by rfl))
    refine q_asgP (ep_names ev2 hkl hkd (by omega) (fun v => rfl) (fun v => rfl)) fun v H11 e11 ⟨nm, ev, nnm, hnm⟩ => ?_
    subst ev
    have e9b := e10.trans e11
    refine q_asgP (ep_call (R := R_law_idle) (ea_cons (ev_var (by rfl)) (ea_cons (ev_var (by rfl)) (ea_cons (ev_var (by rfl)) (ea_cons (ev_var (by rfl)) (ea_cons (ev_var (by rfl)) ea_nil))))) fun H12 e12 => ⟨.ref pa, vw, vs, vb, vf, L, W, Sr, B, rfl, (lq.mono e9b).mono e12, (hf.mono e11).mono e12, rfl⟩) fun v H12 e12 ⟨ia, ev, hia⟩ => ?_
    subst ev
    have e9c := e9b.trans e12
    refine q_asgP (ep_callS (R := R_idle K) (ea_eap (ea_cons (ev_var (by rfl)) (ea_cons (ev_var (by rfl)) (ea_cons (ev_var (by rfl)) (ea_cons (ev_var (by rfl)) ea_nil))))) fun us H13 e13 eu => ⟨vl', vw, vs, vb, L, W, Sr, B, eu, (ask.mono e9c).mono e13, (gate_open opn _).symm⟩) fun vt H13 e13 htold => ?_
    have e9d := e9c.trans e13
    -- told
    obtain ⟨ta, ts, rfl, hta, _⟩ := id htold.lst_at
    refine q_ifNo (et_is (et_or (a := false) (b := false) (et_is (et_not (et_B (ev_isiL (ev_var (by rfl)) hta))) rfl) fun _ => et_neSame (d := .list ((idle L W Sr B).map .str)) (ed_of (ev_var (by rfl)) htold) ((ep_pick (ks := idleK L W Sr B L.links.length) (ls := L.links) (ev_var (by rfl)) (e13 _ _ hia) (fun k hk => List.mem_range.mp (List.mem_filter.mp hk).1) (by have := idleK_len L W Sr B L.links.length; omega) (fun v H1 => ev_var (by rfl)) ((e12.trans e13) _ _ hnm) (fun v => rfl) (fun v => rfl)).imp fun v H1 e h => by rw [← idle_names hLG.ok]; exact h) (shaped_lst (n := 5) (by decide) (strs_lay fun x hx => by
      obtain ⟨l, hl, rfl⟩ := List.mem_map.mp (List.mem_filter.mp hx).1
      exact nameOk_str (hLG.ok.ln l hl)))) rfl) fun H14 e14 => ?_
    refine q_asgP (ep_ev (ev_var (by rfl))) fun v H15 e15 ev => ?_
    subst ev
    have e9e := e9d.trans (e14.trans e15)
    have eG15 := eG9.trans e9e
    have lq15 := lq.mono e9e
    have ask15 := ask.mono e9e
    have hf15 := hf.mono (((e11.trans e12).trans e13).trans (e14.trans e15))
    have hnm15 := ((e12.trans e13).trans (e14.trans e15)) _ _ hnm
    clear lq ask hf hnm hia hta htold hkl hkd ev2
    -- the links, tried one after the other
    refine q_forLn (ev_var (by rfl)) (SqL.of hnm15) (fun i σ' H' => (∃ x15 x16 vl, σ' = [some (.ref a), some (.ref na), some (.ref pa), some vw, some vs, some vb, some (.str z), some vl', some vf, some (.ref nm), none, some (.ref ia), some (.ref ta), none, some vl, x15, x16, none, none] ∧ PartsV H' vl (leanAt L W Sr B i)) ∧ Ex H15 H') (fun H16 e16 => ⟨⟨_, _, _, rfl, lq15.p.mono e16⟩, e16⟩) (fun i σ' H' _ h => SqL.of (h.2 _ _ hnm15)) (fun i x σ' H' hx h => ?_) (fun σ' H' h => ?_)
    · obtain ⟨⟨x15, x16, vl, rfl, hPl⟩, eH⟩ := h
      obtain ⟨zn, hzn, rfl⟩ : ∃ zn, (L.links.map fun l : Lnk => l.nm)[i]? = some zn ∧ V.str zn = x := by
        rw [List.getElem?_map] at hx
        exact Option.map_eq_some_iff.mp hx
      obtain ⟨l0, hl0, hn0⟩ : ∃ l0, L.links[i]? = some l0 ∧ l0.nm = zn := by
        rw [List.getElem?_map] at hzn
        exact Option.map_eq_some_iff.mp hzn
      obtain ⟨ls, hM, hsub, hmem⟩ := lean_inv hLG.ok W Sr B i
      have hstep := leanAt_succ (W := W) (S := Sr) (B := B) hzn
      rw [hM] at hPl hstep
      obtain ⟨k, y, hk, hyn, hno⟩ := idx_name (hmem i l0 (Nat.le_refl _) hl0)
      rw [hn0] at hyn hno
      have hLM := hLG.sub hsub
      have gM := good.sub hsub
      have hk' : (withLinks L ls).links[k]? = some y := hk
      have heL := eraseL_eq hLM.ok hk'
      rw [hyn] at heL
      have lqH := lq15.mono eH
      have hM10 := hLM.l
      obtain ⟨kl, ks, hkl, hkd, ev2⟩ := hPl.ix2 (K := K) (σ := [some (.ref a), some (.ref na), some (.ref pa), some vw, some vs, some vb, some (.str z), some vl', some vf, some (.ref nm), none, some (.ref ia), some (.ref ta), none, some vl, some (.str zn), x16, none, none]) (ev_var (i := 14) (by rfl))
      refine q_asgP (P := fun v H' => PartsV H' v (without (withLinks L ls) zn)) ((ep_without (ev_var (by rfl)) (ev_index (k := k) (ep_names ev2 hkl hkd (by omega) (fun v => rfl) (fun v => rfl)) (ev_var (by rfl)) (by rw [List.getElem?_map, hk', ← hyn]; rfl) (fun j y' hj hy' => by
        rw [List.getElem?_map] at hy'
        obtain ⟨y2, hy2, rfl⟩ := Option.map_eq_some_iff.mp hy'
        exact hno j y2 hj hy2)) hPl hLM).imp fun v H1 e h => by rw [← heL]; exact h) fun vless H16 e16 hless => ?_
      refine r_if (et_eqDD (ep_fires (M := without (withLinks L ls) zn) ((ep_ev (ev_var (by rfl))).imp fun v H1 e ev => by rw [ev]; exact hless.mono e) (ev_var (by rfl)) (ev_var (by rfl)) (ev_var (by rfl)) (lqH.mono e16) (hLM.sub List.filter_sublist) (gM.without zn)) (ev_var (by rfl)) (hf15.mono (eH.trans e16))) (fun c H17 e17 => ?_) (fun c H17 e17 => ?_)
      · refine s_asgP (ep_ev (ev_var (by rfl))) fun v H18 e18 ev => ?_
        subst ev
        refine ⟨⟨_, _, _, rfl, ?_⟩, eH.trans (e16.trans (e17.trans e18))⟩
        rw [hstep]
        unfold leanStep
        rw [if_pos c]
        exact hless.mono (e17.trans e18)
      · refine gn ⟨⟨_, _, _, rfl, ?_⟩, eH.trans (e16.trans e17)⟩
        rw [hstep]
        unfold leanStep
        rw [if_neg (by rw [c]; decide)]
        exact hPl.mono (e16.trans e17)
    · obtain ⟨⟨x15, x16, vl, rfl, hPl⟩, eH⟩ := h
      rw [List.length_map, List.length_map, lean_eq] at hPl
      obtain ⟨ls, hM, hsub, _⟩ := lean_inv hLG.ok W Sr B L.links.length
      have hsame := lean_same L W Sr B L.links.length
      rw [lean_eq] at hM hsame
      rw [hM] at hPl hsame
      have lqH := lq15.mono eH
      have askH := ask15.mono eH
      have hfH := hf15.mono eH
      have hnmH := eH _ _ hnm15
      have eGH := eG15.trans eH
      have hMk := hLG.ok.sub hsub
      clear lq15 ask15 hf15 hnm15 e9e eG15
      -- lean_land
      refine q_asgP (ep_callS (R := R_lean K) (ea_eap (ea_cons (ev_var (by rfl)) (ea_cons (ev_var (by rfl)) (ea_cons (ev_var (by rfl)) (ea_cons (ev_var (by rfl)) ea_nil))))) fun us H1 e1 eu => ⟨vl', vw, vs, vb, L, W, Sr, B, eu, askH.mono e1, (gate_open opn _).symm⟩) fun vn H20 e20 hLn => ?_
      rw [hM] at hLn
      have lqN := lqH.mono e20
      have askN := askH.mono e20
      obtain ⟨la, dx, wa1, vp1, vk1, vt1, rfl, hla, hw1, hp1, hk1, ht1⟩ := id hLn.ex
      obtain ⟨la2, dx2, wa2, vp2, vk2, vt2, rfl, hla2, hw2, hp2', hk2, ht2⟩ := id askN.a.l.ex
      obtain ⟨kl, ks, hkl, hkd, ev2⟩ := (hPl.mono e20).ix2 (K := K) (σ := [some (.ref a), some (.ref na), some (.ref pa), some vw, some vs, some vb, some (.str z), some (.ref la2), some vf, some (.ref nm), none, some (.ref ia), some (.ref ta), none, some vl, x15, x16, some (.ref la), none]) (ev_var (i := 14) (by rfl))
      obtain ⟨ql, qs, hql, hqd, ew2⟩ := lqN.p.ix2 (K := K) (σ := [some (.ref a), some (.ref na), some (.ref pa), some vw, some vs, some vb, some (.str z), some (.ref la2), some vf, some (.ref nm), none, some (.ref ia), some (.ref ta), none, some vl, x15, x16, some (.ref la), none]) (ev_var (i := 2) (by rfl))
      obtain ⟨pl1, hpl1, ew1⟩ := lqN.p.ix1 (K := K) (σ := [some (.ref a), some (.ref na), some (.ref pa), some vw, some vs, some vb, some (.str z), some (.ref la2), some vf, some (.ref nm), none, some (.ref ia), some (.ref ta), none, some vl, x15, x16, some (.ref la), none]) (ev_var (i := 2) (by rfl))
      obtain ⟨pl0, hpl0, ew0⟩ := lqN.p.ix0 (K := K) (σ := [some (.ref a), some (.ref na), some (.ref pa), some vw, some vs, some vb, some (.str z), some (.ref la2), some vf, some (.ref nm), none, some (.ref ia), some (.ref ta), none, some vl, x15, x16, some (.ref la), none]) (ev_var (i := 2) (by rfl))
      obtain ⟨pl3, hpl3, ew3⟩ := lqN.p.ix3 (K := K) (σ := [some (.ref a), some (.ref na), some (.ref pa), some vw, some vs, some vb, some (.str z), some (.ref la2), some vf, some (.ref nm), none, some (.ref ia), some (.ref ta), none, some vl, x15, x16, some (.ref la), none]) (ev_var (i := 2) (by rfl))
      have shN : ∀ {l : List Str}, (∀ x ∈ l, nameOk x = true) → SeqAt.shaped (.tuple (l.map PyData.str)) = true := fun h => shaped_tup (n := 5) (by decide) (strs_lay fun x hx => nameOk_str (h x hx))
      have shL : ∀ {l : List Str}, (∀ x ∈ l, PyData.strOk x = true) → SeqAt.shaped (.list (l.map PyData.str)) = true := fun h => shaped_lst (n := 5) (by decide) (strs_lay h)
      refine q_ifNo (et_is (et_or (a := false) (b := false) (et_neSame (ed_of (ev_fld (ev_var (by rfl)) hla S.cl S.na_links (fl_links _ _ _ _)) hk1) (ed_of ev2 (.tup hkl hkd)) (lnks_shaped hMk)) fun _ =>
        et_is (et_or (a := false) (b := false) (et_neSame (ed_of (ev_fld (ev_var (by rfl)) hla S.cl S.na_places (fl_places _ _ _ _)) hp1) (ed_of ew1 (.tup hpl1 (DtA.of_strs _))) (shN hLG.ok.pn)) fun _ =>
        et_is (et_or (a := false) (b := false) (et_neSame (d := .tuple (L.winds.map .str)) (ed_of (ev_fld (ev_var (by rfl)) hla S.cl S.na_winds (fl_winds _ _ _ _)) (.tup hw1.rd (DtA.of_strs _))) (ed_of ew0 (.tup hpl0.rd (DtA.of_strs _))) (shN hLG.ok.wn)) fun _ =>
        et_is (et_or (a := false) (b := false) (et_neSame (ed_of (ev_fld (ev_var (by rfl)) hla S.cl S.na_paths (fl_paths _ _ _ _)) ht1) (ed_of ew3 hpl3) (paths_shaped hMk)) fun _ =>
        et_neSame (ed_of (ev_fld (ev_var (by rfl)) hla2 S.cl S.na_links (fl_links _ _ _ _)) hk2) (ed_of ew2 (.tup hql hqd)) (lnks_shaped hLG.ok)) rfl) rfl) rfl) rfl) fun H21 e21 => ?_
      -- fastest and slowest
      have hfd : ∀ sd, fireD (withLinks L ls) W Sr B sd = fireD L W Sr B sd := fun sd => by
        unfold fireD toldOf
        rw [hsame sd]
        rfl
      have opnM : Open (withLinks L ls) W Sr B := ⟨opn.w, opn.s, opn.b, opn.g⟩
      have askM : Ask K H20 (.ref la) vw vs vb (withLinks L ls) W Sr B := ⟨⟨hLn, askN.a.w, askN.a.s, askN.a.b, wsm⟩, hMk, askN.s0, askN.sl, askN.bl⟩
      have shF : ∀ sd, SeqAt.shaped (fireD L W Sr B sd) = true := fun sd => told_shaped (told_ok hLG.ok _)
      refine q_ifNo (et_neSame (d := fireD L W Sr B false) (ep_callS (R := R_fast K false) (ea_eap (ea_cons (ev_var (by rfl)) (ea_cons (ev_var (by rfl)) (ea_cons (ev_var (by rfl)) (ea_cons (ev_var (by rfl)) ea_nil))))) fun us H1 e1 eu => ⟨.ref la, vw, vs, vb, withLinks L ls, W, Sr, B, eu, askM.mono (e21.trans e1), by rw [gate_open opnM, hfd]; rfl⟩) (ep_callS (R := R_fast K false) (ea_eap (ea_cons (ev_var (by rfl)) (ea_cons (ev_var (by rfl)) (ea_cons (ev_var (by rfl)) (ea_cons (ev_var (by rfl)) ea_nil))))) fun us H1 e1 eu => ⟨.ref la2, vw, vs, vb, L, W, Sr, B, eu, askN.mono (e21.trans e1), (gate_open opn _).symm⟩) (shF _)) fun H22 e22 => ?_
      have e2a := e21.trans e22
      refine q_ifNo (et_neSame (d := fireD L W Sr B true) (ep_callS (R := R_fast K true) (ea_eap (ea_cons (ev_var (by rfl)) (ea_cons (ev_var (by rfl)) (ea_cons (ev_var (by rfl)) (ea_cons (ev_var (by rfl)) ea_nil))))) fun us H1 e1 eu => ⟨.ref la, vw, vs, vb, withLinks L ls, W, Sr, B, eu, askM.mono (e2a.trans e1), by rw [gate_open opnM, hfd]; rfl⟩) (ep_callS (R := R_fast K true) (ea_eap (ea_cons (ev_var (by rfl)) (ea_cons (ev_var (by rfl)) (ea_cons (ev_var (by rfl)) (ea_cons (ev_var (by rfl)) ea_nil))))) fun us H1 e1 eu => ⟨.ref la2, vw, vs, vb, L, W, Sr, B, eu, askN.mono (e2a.trans e1), (gate_open opn _).symm⟩) (shF _)) fun H23 e23 => ?_
      have e2b := e2a.trans e23
      -- due
      refine q_asgP (ep_ev ev_c) fun v H24 e24' ev => ?_
      subst ev
      have e2c := e2b.trans e24'
      have lqD := lqN.mono e2c
      obtain ⟨l0, l1, hdd, f0, f1⟩ := (hfH.mono e20).mono e2c
      obtain ⟨fp, d0, d1, rfl, hfp, hd0, hd1⟩ := hdd.ex
      have hnmD := e2c _ _ (e20 _ _ hnmH)
      refine q_ifSet (j := 18) (v0 := .non) (P := fun v H' => Dt H' v (oStrs (needed L W Sr B z))) (et_B (ev_din (ev_var (by rfl)) (ev_op (ev_var (by rfl)) ev_c (rv_ixL (SqL.of hfp) (atI_nat (j := 0) rfl))) hd0)) (by rfl) (fun c H25 e25 => ?_) (fun c H25 e25 => ?_) fun vd H25 e25 hvd => ?_
      · have hn : ¬ fire L W Sr B false z = none := fun e => by
          rw [← f0] at e
          rw [e] at c
          cases c
        have hnd : needed L W Sr B z = some ((L.links.map fun l : Lnk => l.nm).filter fun y => decide (fire (without L y) W Sr B false z = none)) := by unfold needed; rw [if_neg hn]
        rw [hnd]
        have hdn := due_names hLG.ok W Sr B z
        have lqE := lqD.mono e25
        refine (ep_lc (List.range L.links.length) (fun k => if dueF L W Sr B z k = true then (L.links[k]?).map fun l : Lnk => PyData.str l.nm else none) (ei_range1 (ea_cons (ev_lenS (K := K) (n := (L.links.length : Int)) (xs := L.links.map fun l : Lnk => l.nm) (ev_var (by rfl)) (e25 _ _ hnmD) (by rw [List.length_map])) ea_nil) (by omega) (by omega)) (by simp) (by simp; omega) (fun k _ d hd => ?_) (fun i x k H1 e1 hk hx => ?_)).imp fun v H1 e1 ⟨p, ys, ev, np, hp, hd⟩ => by
          show Dt H1 v (.list _)
          rw [ev, ← hdn]
          exact .lst hp hd
        · split at hd
          · obtain ⟨l, _, rfl⟩ := Option.map_eq_some_iff.mp hd
            rfl
          · cases hd
        · subst hx
          obtain ⟨hi, hk2⟩ := List.getElem?_eq_some_iff.mp hk
          rw [List.getElem_range] at hk2
          subst hk2
          rw [List.length_range] at hi
          have hl : L.links[i]? = some L.links[i] := List.getElem?_eq_getElem hi
          intro H2 e2 Qk Qn hk5 hn5
          have lqF := (lqE.mono e1).mono e2
          refine ⟨rfl, et_dninP (o := fire (eraseL L i) W Sr B false z) (ev_var (by rfl)) ((ep_callP (R := R_law_fire) (eap_p (ep_without (k := i) (ev_var (by rfl)) (ev_var (by rfl)) lqF.p hLG) (eap_v (v := vw) (ev_var (by rfl)) (eap_v (v := vs) (ev_var (by rfl)) (eap_v (v := vb) (ev_var (by rfl)) (eap_v (v := .int 0) ev_c eap_nil)))) fun _ _ _ e h => h.mono e) fun us H3 e3 ⟨v, r, ev, hv, r1, er1, r2, er2, r3, er3, r4, er4, er5⟩ => ⟨v, vw, vs, vb, eraseL L i, W, Sr, B, false, by rw [ev, er1, er2, er3, er4, er5]; rfl, ⟨hv, hLG.erase i, (lqF.mono e3).w, (lqF.mono e3).s, (lqF.mono e3).b, good.erase i, lqF.sl⟩, rfl⟩).imp fun v H3 e3 ⟨p, l, g1, g2, _, g3⟩ => ⟨p, l, g1, g2, by rw [g3]⟩) H2 (Ex.refl _) _ fun H3 e3 => ?_⟩
          by_cases cc : fire (eraseL L i) W Sr B false z = none
          · rw [cc]
            exact iteT (r_bind (ep_ev (ev_op (ev_var (by rfl)) (ev_var (v := .int (i : Int)) (by rfl)) (rv_ixL (SqL.of (e3 _ _ (e2 _ _ (e1 _ _ (e25 _ _ hnmD))))) (atI_nat (j := i) (by rw [List.getElem?_map, List.getElem?_map, hl]; rfl))))) fun v H4 e4 ev => hk5 (.str L.links[i].nm) (by unfold dueF; rw [cc, hl]; rfl) v H4 (e3.trans e4) (by rw [ev]; exact .str _))
          · obtain ⟨m, hm⟩ := Option.ne_none_iff_exists'.mp cc
            rw [hm]
            exact iteF (hn5 (by unfold dueF; rw [hm]; rfl) H3 e3)
      · have hn : fire L W Sr B false z = none := by
          rw [← f0]
          cases q : look l0 z with
          | none => rfl
          | some m => rw [q] at c; cases c
        have : needed L W Sr B z = none := by unfold needed; rw [if_pos hn]
        rw [this]
        exact .non
      · have e2d := e2c.trans e25
        have askD := askN.mono e2d
        have lqE := lqN.mono e2d
        refine q_ifNo (et_neSame (d := oStrs (needed L W Sr B z)) (ep_callS (R := R_needed K) (ea_eap (ea_cons (ev_var (by rfl)) (ea_cons (ev_var (by rfl)) (ea_cons (ev_var (by rfl)) (ea_cons (ev_var (by rfl)) (ea_cons (ev_var (by rfl)) ea_nil)))))) fun us H1 e1 eu => ⟨.ref la2, vw, vs, vb, z, L, W, Sr, B, eu, askD.mono e1, (gateAt_open opn hz _).symm⟩) (ed_of (ev_var (by rfl)) hvd) (by
          unfold needed
          split
          · rfl
          · exact shL fun x hx => by
              obtain ⟨l, hl, rfl⟩ := List.mem_map.mp (List.mem_filter.mp hx).1
              exact nameOk_str (hLG.ok.ln l hl))) fun H26 e26 => ?_
        have e2e := e2d.trans e26
        have askE := askN.mono e2e
        have lqF := lqN.mono e2e
        have okS : ∀ {x y : Str}, PyData.strOk x = true → PyData.strOk y = true → SeqAt.shaped (.list [.str x, .str x, .str y]) = true := fun hx hy => shL (l := [_, _, _]) fun u hu => by
          rcases List.mem_cons.mp hu with e | hu
          · rw [e]; exact hx
          · rcases List.mem_cons.mp hu with e | hu
            · rw [e]; exact hx
            · rw [List.mem_singleton.mp hu]; exact hy
        have nZ : ("Z" : Str) ∉ L.winds := notName hLG.ok.wn (by decide +kernel)
        have nY : ("Y" : Str) ∉ L.places := notName hLG.ok.pn (by decide +kernel)
        have nX : ("X" : Str) ∉ L.places := notName hLG.ok.pn (by decide +kernel)
        have nz : ("z" : Str) ∉ L.places := notTwo hLG.tw (by decide +kernel)
        have bw := badWind_none.mpr opn.w
        have bs := badRow_none.mpr opn.s
        have bb := badRow_none.mpr opn.b
        obtain ⟨w0, hw0m⟩ : ∃ w0, L.winds[0]? = some w0 := ⟨_, List.getElem?_eq_getElem hLG.ok.w1.1⟩
        have hw0 := List.mem_of_getElem? hw0m
        have sE : ∀ {σ : L2.St} {te : TE} {H1 : Hp}, Ex H26 H1 → Ev te σ H1 vs → EvP te σ H1 (fun v H' => Dt H' v (rwsD Sr)) := fun e h => ed_of h (lqF.s.mono e)
        have bE : ∀ {σ : L2.St} {te : TE} {H1 : Hp}, Ex H26 H1 → Ev te σ H1 vb → EvP te σ H1 (fun v H' => Dt H' v (rwsD B)) := fun e h => ed_of h (lqF.b.mono e)
        have wE : ∀ {σ : L2.St} {te : TE} {H1 : Hp}, Ex H26 H1 → Ev te σ H1 vw → EvP te σ H1 (fun v H' => Dt H' v (weaD W)) := fun e h => ed_of h (lqF.w.mono e)
        have sl2 := lqF.sl
        have bl2 := good.bl
        have s0 : ∀ q ∈ Sr, 0 ≤ q.2 := fun q hq => (hStp q hq).2
        have one : ∀ {σ : L2.St} {H1 : Hp} {z : Str}, EvP (tLst (tCons (tTup (tCons (tC (.str z)) (tCons (tC (.int 0)) tNil))) tNil)) σ H1 (fun v H' => Dt H' v (.list [rwD (z, 0)])) := fun {σ H1 z} => ed_lst (ead_cons (ed_tup (ead_cons (ed_str ev_c) (ead_cons (ed_int ev_c) ead_nil)) (show 2 ≤ 100 by decide)) ead_nil) (show 1 ≤ 100 by decide)
        have sY : ∀ {σ : L2.St} {te : TE} {H1 : Hp}, Ex H26 H1 → Ev te σ H1 vs → EvP (tOp rCat te (tLst (tCons (tTup (tCons (tC (.str "Y")) (tCons (tC (.int 0)) tNil))) tNil))) σ H1 (fun v H' => Dt H' v (rwsD (Sr ++ [(("Y" : Str), (0 : Int))]))) := fun e h => by
          have := ed_cat (sE e h) (one (z := "Y")) (by rw [List.length_map]; show Sr.length + 1 ≤ 1000; omega)
          unfold rwsD
          rw [List.map_append]
          exact this
        have bX : ∀ {σ : L2.St} {te : TE} {H1 : Hp}, Ex H26 H1 → Ev te σ H1 vb → EvP (tOp rCat te (tLst (tCons (tTup (tCons (tC (.str "X")) (tCons (tC (.int 0)) tNil))) tNil))) σ H1 (fun v H' => Dt H' v (rwsD (B ++ [(("X" : Str), (0 : Int))]))) := fun e h => by
          have := ed_cat (bE e h) (one (z := "X")) (by rw [List.length_map]; show B.length + 1 ≤ 1000; omega)
          unfold rwsD
          rw [List.map_append]
          exact this
        have three : ∀ {σ : L2.St} {H1 : Hp} {x y z : Str}, EvP (tLst (tCons (tC (.str x)) (tCons (tC (.str y)) (tCons (tC (.str z)) tNil)))) σ H1 (fun v H' => Dt H' v (.list [.str x, .str y, .str z])) := fun {σ H1 x y z} => ed_lst (ead_cons (ed_str ev_c) (ead_cons (ed_str ev_c) (ead_cons (ed_str ev_c) ead_nil))) (show 3 ≤ 100 by decide)
        have cE : ∀ {H1 : Hp}, Ex H26 H1 → LandV K H1 (.ref la2) L := fun e => askE.a.l.mono e
        have pE : ∀ {H1 : Hp}, Ex H26 H1 → PartsV H1 (.ref pa) L := fun e => lqF.p.mono e
        -- a wind that is none
        refine q_ifNo (et_neSame (d := .list [.str "Z", .str "Z", .str "Z"]) (ep_refused (W := [(0, "Z")]) (S := Sr) (B := B) (ev_var (by rfl)) (ed_lst (ead_cons (ed_tup (ead_cons (ed_int ev_c) (ead_cons (ed_str ev_c) ead_nil)) (show 2 ≤ 100 by decide)) ead_nil) (show 1 ≤ 100 by decide)) (sE (Ex.refl _) (ev_var (by rfl))) (bE (Ex.refl _) (ev_var (by rfl))) (ev_var (by rfl)) (cE (Ex.refl _)) hLG.ok ⟨by simp, by simp, fun r hr => by rw [List.mem_singleton.mp hr]; decide⟩ s0 (by omega) (by omega) (gate_wind (badWind_one nZ) _ _) (gateAt_wind (badWind_one nZ) _ _ _) rfl rfl) three (okS (by decide +kernel) (by decide +kernel))) fun H27 e27 => ?_
        refine q_ifNo (et_neSame (d := .list [.str "Y", .str "Y", .str "Y"]) (ep_refused (W := W) (S := Sr ++ [(("Y" : Str), (0 : Int))]) (B := B ++ [(("X" : Str), (0 : Int))]) (ev_var (by rfl)) (wE e27 (ev_var (by rfl))) (sY e27 (ev_var (by rfl))) (bX e27 (ev_var (by rfl))) (ev_var (by rfl)) (cE e27) hLG.ok wsm (fun q hq => by
          rcases List.mem_append.mp hq with hq | hq
          · exact s0 q hq
          · rw [List.mem_singleton.mp hq]; decide) (by simp; omega) (by simp; omega) (gate_start bw (badRow_snoc opn.s nY) _) (gateAt_start bw (badRow_snoc opn.s nY) _ _) rfl rfl) three (okS (by decide +kernel) (by decide +kernel))) fun H28 e28 => ?_
        have e2f := e27.trans e28
        -- the first wind's name
        have wn : ∀ {σ : L2.St} {H1 : Hp} {te : TE}, Ex H26 H1 → Ev te σ H1 (.ref pa) → Ev (tOp (rIxT K) (tOp (rIxL K) te (tC (.int 0))) (tC (.int 0))) σ H1 (.str w0) := fun e h => by
          obtain ⟨wa, hw, h0⟩ := (pE e).ix0 (K := K) h
          exact ev_op h0 ev_c (rv_ixT (.inl hw.rd) (atI_nat (j := 0) (by rw [List.getElem?_map, hw0m]; rfl)))
        refine q_ifNo (et_neSame (d := .list [.str "weather", .str "weather", .str "z"]) (ep_refused (W := [(1, w0)]) (S := Sr) (B := B) (ev_var (by rfl)) (ed_lst (ead_cons (ed_tup (ead_cons (ed_int ev_c) (ead_cons (ed_str (wn e2f (ev_var (by rfl)))) ead_nil)) (show 2 ≤ 100 by decide)) ead_nil) (show 1 ≤ 100 by decide)) (sE e2f (ev_var (by rfl))) (bE e2f (ev_var (by rfl))) ev_c (cE e2f) hLG.ok ⟨by simp, by simp, fun r hr => by rw [List.mem_singleton.mp hr]; show (1 : Int) ≤ 100000; decide⟩ s0 (by omega) (by omega) (gate_wea (badWind_none.mpr fun r hr => by rw [List.mem_singleton.mp hr]; exact hw0) bs bb (by simp [weaGood])) (gateAt_place (badWind_none.mpr fun r hr => by rw [List.mem_singleton.mp hr]; exact hw0) bs bb nz) rfl rfl) three (okS (by decide +kernel) (by decide +kernel))) fun H29 e29 => ?_
        have e2g := e2f.trans e29
        refine q_ifNo (et_neSame (d := .list [.str "X", .str "X", .str "X"]) (ep_refused (W := W) (S := Sr) (B := B ++ [(("X" : Str), (0 : Int))]) (ev_var (by rfl)) (wE e2g (ev_var (by rfl))) (sE e2g (ev_var (by rfl))) (bX e2g (ev_var (by rfl))) ev_c (cE e2g) hLG.ok wsm s0 (by omega) (by simp; omega) (gate_break bw bs (badRow_snoc opn.b nX)) (gateAt_break bw bs (badRow_snoc opn.b nX) _) rfl rfl) three (okS (by decide +kernel) (by decide +kernel))) fun H30 e30 => ?_
        have e2h := e2g.trans e30
        refine s_ret (ev_eqSame (d := .list [.str "weather", .str "weather", .str "weather"]) (ep_refused (W := [(0, w0), (0, w0)]) (S := Sr) (B := B) (ev_var (by rfl)) (ed_lst (ead_cons (ed_tup (ead_cons (ed_int ev_c) (ead_cons (ed_str (wn e2h (ev_var (by rfl)))) ead_nil)) (show 2 ≤ 100 by decide)) (ead_cons (ed_tup (ead_cons (ed_int ev_c) (ead_cons (ed_str (wn e2h (ev_var (by rfl)))) ead_nil)) (show 2 ≤ 100 by decide)) ead_nil)) (show 2 ≤ 100 by decide)) (sE e2h (ev_var (by rfl))) (bE e2h (ev_var (by rfl))) (ev_var (by rfl)) (cE e2h) hLG.ok ⟨by simp, by simp, fun r hr => by
          have : r = (0, w0) := by simpa using hr
          rw [this]
          show (0 : Int) ≤ 100000
          decide⟩ s0 (by omega) (by omega) (gate_wea (badWind_none.mpr fun r hr => by
          have : r = (0, w0) := by simpa using hr
          rw [this]; exact hw0) bs bb (by simp [weaGood])) (gateAt_wea (badWind_none.mpr fun r hr => by
          have : r = (0, w0) := by simpa using hr
          rw [this]; exact hw0) bs bb hz (by simp [weaGood])) rfl rfl) three (okS (by decide +kernel) (by decide +kernel))) fun H31 e31 => ?_
        exact q _ H31 (eGH.trans ((e20.trans (e2e.trans e2h)).trans e31)) rfl
end
end EF
set_option maxHeartbeats 4000000
namespace EF
open PySem PySem.Spec PySem.W PyProof.Rows L2
/-! ### what the head must tell beyond He's facts -/
abbrev FnC : Type := Option (Str × Str × Arguments × FuncBody × Scope × Addr × List Str × Addr)
/-- a function at an address: its parts, the closure by its names -/
def fnC (K : Frag) (a : Addr) : FnC := match K.lookup a with
  | some ⟨_, _, .func fd, _⟩ => some (fd.name, fd.qualname, fd.params, fd.body, fd.scope, fd.globals, fd.closure.map (·.1), fd.builtins)
  | _ => none
/-- .. that it has no defaults, and its code -/
def fnB (K : Frag) (a : Addr) (qual : Str) : Bool := match K.lookup a with
  | some ⟨_, _, .func fd, _⟩ => codeIn K fd.code qual && (decide (fd.defaults = .none) && decide (fd.kwdefaults = .none))
  | _ => false
theorem fnC_at {K : Frag} {a : Addr} {name qual : Str} {params : Arguments} {body : FuncBody} {scope : Scope} {g b : Addr} {cl : List Str} (e : fnC K a = some (name, qual, params, body, scope, g, cl, b)) (c : fnB K a qual = true) :
    ∃ oc od cs doc pm an cdv ct n11 osl, cs.map (·.1) = cl ∧ K.lookup a = some ⟨oc, od, .func ⟨name, qual, params, body, scope, g, cs, .none, .none, doc, pm, an, cdv, ct, b⟩, osl⟩ ∧ codeIn K cdv qual = true ∧ n11 = () := by
  unfold fnC at e
  unfold fnB at c
  cases q : K.lookup a with
  | none =>
    rw [q] at c
    cases c
  | some o =>
    obtain ⟨oc, od, dt, osl⟩ := o
    rw [q] at c e
    cases dt with
    | func fd =>
      obtain ⟨n1, n2, n3, n4, n5, n6, n7, n8, n9, n10, n11, n12, n13, n14, n15⟩ := fd
      have e2 : (some (n1, n2, n3, n4, n5, n6, n7.map (·.1), n15) : FnC) = some (name, qual, params, body, scope, g, cl, b) := e
      simp only [Option.some.injEq, Prod.mk.injEq] at e2
      obtain ⟨h1, h2, h3, h4, h5, h6, h7, h8⟩ := e2
      subst h1 h2 h3 h4 h5 h6 h8
      have c3 : (codeIn K n13 n2 && (decide (n8 = .none) && decide (n9 = .none))) = true := c
      obtain ⟨k1, k2⟩ := He.ba c3
      obtain ⟨k3, k4⟩ := He.ba k2
      have k3 := of_decide_eq_true k3
      have k4 := of_decide_eq_true k4
      subst k3 k4
      exact ⟨oc, od, n7, n10, n11, n12, n13, n14, (), osl, h7, rfl, k1, rfl⟩
    | _ => cases c
/-- the property and its getter -/
def prA (K : Frag) : Addr := He.ma K (He.ga K "Land") "link_names"
def prG (K : Frag) : Addr := match recIn K (prA K) "property" with
  | some (.ref g :: _) => g
  | _ => 0
def prB (K : Frag) : Bool := He.eqO (findIn K (.ref (He.ga K "Land")) "link_names") (some (some (.ref (prA K)))) && (He.eqO (specialIn K (.ref (prA K)) "__get__") (some (some (.builtin "property.__get__"))) && (decide (takesIn K (.ref (prA K)) = some true) &&
  ((match recIn K (prA K) "property" with
    | some (.ref _ :: _) => true
    | _ => false) && (fnB K (prG K) "Land.link_names" && keepIn K (.ref (prG K))))))
def prV : FnC := some ("link_names", "Land.link_names", defArgs sL_link_names, .stmts (defBody sL_link_names), defScope sL_link_names, mainGlobals, [], builtinsNs)
theorem prOk_of {K : Frag} (e : fnC K (prG K) = prV) (h : prB K = true) : PrOk K := by
  obtain ⟨h1, h⟩ := He.ba h
  obtain ⟨h2, h⟩ := He.ba h
  obtain ⟨h3, h⟩ := He.ba h
  obtain ⟨h4, h⟩ := He.ba h
  obtain ⟨h5, h6⟩ := He.ba h
  obtain ⟨oc, od, cs, doc, pm, an, cdv, ct, _, osl, hcs, lk, hcd, _⟩ := fnC_at e h5
  have hcs : cs = [] := List.map_eq_nil_iff.mp hcs
  subst hcs
  refine ⟨prA K, prG K, _, ⟨He.eqO_ok h1, He.eqO_ok h2, of_decide_eq_true h3, ?_⟩, ⟨⟨oc, od, .none, .none, doc, pm, an, cdv, ct, osl, rfl, lk, hcd, .inl ⟨rfl, rfl⟩, .inl rfl⟩, h6⟩⟩
  unfold prG
  cases q : recIn K (prA K) "property" with
  | none =>
    rw [q] at h4
    cases h4
  | some l =>
    rw [q] at h4
    cases l with
    | nil => cases h4
    | cons v r =>
      cases v with
      | ref g => exact ⟨r, rfl⟩
      | _ => cases h4
/-- the exception class with its own __init__ -/
def clB (K : Frag) (C : Addr) : Bool := match K.lookup C with
  | some ⟨.type "type", _, .cls cd, sl⟩ => (match cd.mro, sl.toList with
    | .ref C' :: bm, [_, _, _, _, some (.builtin n), _] => C' == C && (n == "ValueError.__new__" && (!cd.hasDel && (cd.hasDict && HandSPX.refsVE bm)))
    | _, _ => false)
  | _ => false
theorem clB_ok {K : Frag} {C : Addr} (q : clB K C = true) : ∃ nm q N bs bm sn sub ab col dd k0 k1 k2 k3 k5, K.lookup C = some (excClassObj nm q C N bs bm true sn sub ab col dd k0 k1 k2 k3 k5 "ValueError.__new__") ∧ HandSPX.refsVE bm = true := by
  unfold clB at q
  split at q
  · rename_i dd cd sl ho
    split at q
    · rename_i C' bm k0 k1 k2 k3 n k5 hm hs
      simp only [Bool.and_eq_true, beq_iff_eq, Bool.not_eq_true'] at q
      obtain ⟨rfl, rfl, hdel, hdict, ht⟩ := q
      obtain ⟨nm, bs, mro, ns, qn, hd, sn, sub, ab, col, del⟩ := cd
      dsimp only at hm hdel hdict
      subst hm hdel hdict
      have hsl : sl = #[k0, k1, k2, k3, some (.builtin "ValueError.__new__"), k5] := by
        obtain ⟨l⟩ := sl
        simp only at hs
        rw [hs]
      subst hsl
      exact ⟨nm, qn, ns, bs, bm, sn, sub, ab, col, dd, k0, k1, k2, k3, k5, ho, ht⟩
    · cases q
  · cases q
def inA (K : Frag) : Addr := He.ma K (He.ga K "UnknownName") "__init__"
def inV : FnC := some ("__init__", "UnknownName.__init__", defArgs sU_init, .stmts (defBody sU_init), defScope sU_init, mainGlobals, ["__class__"], builtinsNs)
/-- the code object's file, the cell of the class -/
def inB (p : Program) (K : Frag) (a C : Addr) : Bool := match K.lookup a with
  | some ⟨_, _, .func fd, _⟩ => (match fd.code, fd.closure with
    | .ref cda, [(_, cc)] => (match K.lookup cda, K.lookup cc with
      | some ⟨_, _, .fields vs, _⟩, some ⟨_, _, .cell (some (.ref C')), _⟩ => (match (vs[2]? : Option Value) with
        | some (.str file _) => ((p.main.file : Str) == file) && C' == C
        | _ => false)
      | _, _ => false)
    | _, _ => false)
  | _ => false
def unkB (p : Program) (K : Frag) : Bool := clB K (cUnk K) && (He.eqO (findIn K (.ref (cUnk K)) "__setattr__") (some (some (.builtin "object.__setattr__"))) && (decide (subIn K (.ref (cUnk K)) (.type "BaseException") = some true) && (decide (typeIn K (.ref (cUnk K)) = some (.type "type")) && (keepIn K (.ref (cUnk K)) &&
  (He.eqO (findIn K (.ref (cUnk K)) "name") (some none) && (He.eqO (findIn K (.ref (cUnk K)) "__init__") (some (some (.ref (inA K)))) && (isFn K (.ref (inA K)) && (fnB K (inA K) "UnknownName.__init__" && (inB p K (inA K) (cUnk K) &&
  (!(p.main.scope.names.lookup ("super" : Str)).isSome && (decide (mroIn K (cUnk K) (.ref (cUnk K)) = some true) && (He.eqO (ks_superIn K (cUnk K) (cUnk K) "__init__") (some (some (.builtin "ValueError.__init__"))) && (decide (subIn K (.ref (cUnk K)) (.type "ValueError") = some true) && He.eqO (nsIn K cStatics "thirdparty.any") (some none))))))))))))))
theorem unkOk_of {p : Program} {K : Frag} (e : fnC K (inA K) = inV) (h : unkB p K = true) : UnkOk p K (cUnk K) := by
  unfold unkB at h
  obtain ⟨h1, h⟩ := He.ba h
  obtain ⟨h2, h⟩ := He.ba h
  obtain ⟨h3, h⟩ := He.ba h
  obtain ⟨h4, h⟩ := He.ba h
  obtain ⟨h5, h⟩ := He.ba h
  obtain ⟨h6, h⟩ := He.ba h
  obtain ⟨h7, h⟩ := He.ba h
  obtain ⟨h8, h⟩ := He.ba h
  obtain ⟨h9, h⟩ := He.ba h
  obtain ⟨h10, h⟩ := He.ba h
  obtain ⟨h11, h⟩ := He.ba h
  obtain ⟨h12, h⟩ := He.ba h
  obtain ⟨h13, h⟩ := He.ba h
  obtain ⟨h14, h15⟩ := He.ba h
  obtain ⟨oc, od, cs, doc, pm, an, cdv, ct, _, osl, hcs, lk, hcd, _⟩ := fnC_at e h9
  refine ⟨⟨clB_ok h1, He.eqO_ok h2, of_decide_eq_true h3, of_decide_eq_true h4, h5⟩, He.eqO_ok h6, ?_, by simpa using h11, of_decide_eq_true h12, He.eqO_ok h13, of_decide_eq_true h14, He.eqO_ok h15⟩
  unfold inB at h10
  rw [lk] at h10
  simp only at h10
  split at h10
  · rename_i cda nm cc
    simp only [List.map_cons, List.map_nil, List.cons.injEq, and_true] at hcs
    subst hcs
    split at h10
    · rename_i ccl cdd vs ccs cl cld C' csl hq1 hq2
      split at h10
      · rename_i file tf hv
        obtain ⟨g1, g2⟩ := He.ba h10
        have g2 : C' = cUnk K := by simpa using g2
        subst g2
        exact ⟨inA K, cda, cc, oc, od, osl, doc, pm, an, ct, ccl, cdd, ccs, vs, file, tf, cl, cld, csl, He.eqO_ok h7, h8, lk, hcd, hq1, hv, g1, hq2⟩
      · cases h10
    · cases h10
  · cases h10
/-! ### the hook -/
abbrev AlE : Type := He.AlD × (FnC × FnC) × Bool
def exE (p : Program) (K : Frag) : Bool := prB K && (unkB p K && xfB K (cUnk K))
/-- what the module's names reach, and the statics -/
def asE (g : Addr → Option Obj) (n : Nat) : List Addr := cStatics :: He.asD g n
def obsE (p : Program) (n : Nat) (fa : List He.Fa) (fn : List He.DefD) (g : Addr → Option Obj) : AlE := (He.obsD fa fn (He.frG g (asE g n)), (fnC (He.frG g (asE g n)) (prG (He.frG g (asE g n))), fnC (He.frG g (asE g n)) (inA (He.frG g (asE g n)))), exE p (He.frG g (asE g n)))
def hookE (p : Program) (n : Nat) (fa : List He.Fa) (fn : List He.DefD) : Hook where
  α := AlE
  obs := fun s => obsE p n fa fn s.heap.get?
  val := fun _ => (He.valD fn, (prV, inV), true)
  says := fun _ h => ∃ K : Frag, K.In h ∧ He.SaysD fa fn K ∧ PrOk K ∧ UnkOk p K (cUnk K) ∧ XfC K (cUnk K)
  of := fun _ _ e => by
    have e1 := congrArg (fun z : AlE => z.1) e
    have e2 := congrArg (fun z : AlE => z.2.1.1) e
    have e3 := congrArg (fun z : AlE => z.2.1.2) e
    have e4 := congrArg (fun z : AlE => z.2.2) e
    obtain ⟨k1, k2⟩ := He.ba e4
    obtain ⟨k3, k4⟩ := He.ba k2
    exact ⟨_, He.frG_in, e1, prOk_of e2 k1, unkOk_of e3 k3, xfB_ok k4⟩
  keeps := fun _ _ _ ⟨K, hK, c⟩ k => ⟨K, Frag.In.keeps hK k, c⟩
theorem obsE_eq {p : Program} {n : Nat} {fa : List He.Fa} {fn : List He.DefD} {g : Addr → Option Obj} {s : Shared} (h : ∀ a, g a = s.heap.get? a) : obsE p n fa fn g = (hookE p n fa fn).obs s := by
  have e : g = s.heap.get? := funext h
  rw [e] <;> rfl
end EF
set_option maxHeartbeats 0
namespace EF
open PySem PySem.Spec PyProof.Rows L2
abbrev Rw : PySem.W.OpenRow := PySem.W.OpenLaw.row PySem.Challenge.rw_everyfire_k62_whole_lean_lands
abbrev hk : PySem.W.Hook := hookE Rw.prog 6 fa fn
def ob (s : PySem.W.SharedT) : AlE := obsE Rw.prog 6 fa fn (HandSHeadRun.getT s)
theorem ob_eq (s : PySem.W.SharedT) : ob s = hk.obs s.abs := obsE_eq (HandSHeadRun.getT_eq s)
def nm0 : List PySem.Str := ["_wall", "EveryfireError", "InvalidLand", "UnknownName", "InvalidWeather", "InvalidQuestion", "MOST_CHANGES", "MOST_MINUTE", "check_winds", "check_changes", "blowing", "chances", "least_numbers", "most_numbers", "is_number", "check_numbers", "check_rows", "least_minutes", "caught", "spread", "check_fire", "told", "burning", "fastest", "slowest", "check_fire_at", "both_fires", "idle_links", "lean_land", "needed_links"]
def nm1 : List PySem.Str := ["NAME_CHARS", "MOST_NAME_CHARS", "MOST_WINDS", "MOST_PLACES", "MOST_LINKS", "MOST_PATHS", "MOST_MINUTES", "is_name", "are_different", "require", "checked_times", "Land", "_law_row", "_law_numbers", "_law_names", "_law_parts", "_law_weather", "_law_wind", "_law_caught", "_law_fire", "_law_rows", "_law_land", "_law_fires", "_law_without", "_law_idle", "_law_refused"]
def names : List PySem.Str := nm0 ++ nm1
theorem run (w : World) : HandSHeadRun.RunEq Rw (PySem.W.view Rw.prog [62]) hk ob 4000 names w := by
  intro os
  kernel_rfl
end EF
set_option maxHeartbeats 0
namespace EF
open PySem PySem.Spec PyProof.Rows L2
/-- nothing gets out -/
abbrev still : CXT := fun _ _ _ _ _ _ => False
def spN (sp : Sp) : Sp := fun vs H Q _ => sp vs H Q fun _ _ _ => False
theorem quiet {P : Program} {w : World} {K : PySem.W.Frag} {mg : Str → Option Value} {base : Heap} {k : Nat} {f : Addr} {fd : FuncData} {ps : List Str} {sp : Sp} (F : FnOk P w K mg base (L2.CX P w) k f fd ps sp) : FnOk P w K mg base still k f fd ps (spN sp) := by
  refine ⟨fun vs H Q E h => F.len vs H Q _ h, fun A outer s H args us vs Q E hr he hb hv h => codeAny_mono (F.run A outer s H args us vs Q (fun _ _ _ => False) hr he hb hv h) fun r s' c => ?_⟩
  cases r with
  | ok x =>
    cases x <;> exact c
  | error e =>
    obtain ⟨_, _, _, _, _, _, _, _, _, _, _, _, z⟩ := c
    exact z
theorem facts {P : Program} {w : World} {K : PySem.W.Frag} {h : Heap} {mg : Str → Option Value} {f : Addr} (X : K.In h) (G : h.Ns mainGlobals mg) (hfa : mg ("law" : Str) = some (.ref f)) (c : He.SaysD fa fn K) (LP : PrOk K) (U : UnkOk P K (cUnk K)) (XU : XfC K (cUnk K)) :
    ∃ fd : FuncData, (∀ (s : Shared) (v : Value), BindsTo s fd ⟨[v], []⟩ [("_law_script", v)]) ∧ ∀ base : Heap, K.In base → base.Ns mainGlobals mg → FnOk P w K mg base still 10 f fd ["_law_script"] (spN (spR (R_law K))) := by
  have S : Says K mg := ⟨c, h, X, G⟩
  obtain ⟨fd, F⟩ := S.def_law
  have e := hfa.symm.trans S.g_law
  cases e
  have b := FunD.bindsA (ps := ["_law_script"]) F fun _ _ _ _ _ _ us hl => match us, hl with | [_], _ => rfl
  exact ⟨fd, fun s v => b s [v] rfl, fun base _ _ => quiet (ok_law S U LP XU F)⟩
end EF
open PySem PySem.W PySem.Calls PyProof.Rows
theorem PySem.Challenge.cw_everyfire_k62_whole_lean_lands_holds : PySem.Challenge.rw_everyfire_k62_whole_lean_lands.Holds := by
  w_on; o_law
  refine HandSHeadRun.head_any (r := EF.Rw) (q := view EF.Rw.prog [62]) (H := EF.hk) (ob := EF.ob) (M := 4000) (loose := EF.names) (d := HandSHeadRun.topDef EF.Rw.prog 62) (kwd := []) EF.ob_eq
    (by kernel_rfl) (fun s => by kernel_rfl) EF.run (by kernel_rfl) (by kernel_rfl) (by kernel_rfl) (by rfl) (by first | assumption | decide +kernel) (by decide +kernel) ⟨rfl, rfl, rfl, rfl, rfl, by decide +kernel⟩ ?hw ?hc
  case hw => w_witness2
  case hc =>
    refine L2.walk_ofE (l := PySem.Challenge.rw_everyfire_k62_whole_lean_lands) (n := 63) (k := 10) (x := "_law_script") (CX := EF.still) rfl (by decide) (by kernel_rfl) ⟨rfl, by decide, by decide⟩ ?F (fun _ _ _ _ z => z)
    intro w mg fa h Y G hmg0
    obtain ⟨K, KX, c, LP, U, XU⟩ := Y
    have hmg : mg ("law" : PySem.Str) = some (.ref fa) := by
      have e : (HandSHeadRun.topDef EF.Rw.prog 62).name = ("law" : PySem.Str) := by kernel_rfl
      rw [← e]
      exact hmg0
    obtain ⟨fd, hb, hF⟩ := EF.facts (P := (PySem.Challenge.rw_everyfire_k62_whole_lean_lands).prog) (w := w) KX G hmg c LP U XU
    exact ⟨K, fd, EF.spN (EF.spR (EF.R_law K)), KX, hb, fun H a ns hl _ hS => ⟨_, ⟨a, ns, rfl, hS, hl, rfl⟩, fun v H' _ e => e⟩, hF⟩
