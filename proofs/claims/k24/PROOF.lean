import PyProof.Rows.All
import Wide.All
import OpenK.AllK
import Wide.FinOn
import HandS.ForMost
import HandS.Zip
import HandS.Walk
import KE.GoesMore
import KE.GoesZip
import HandS.IsInst
import HandS.Defaults
import HandS.More
import HandS.Style
import HandS.TupAny
import HandS.NestedK
import HandS.Flow
import HandS.NoneIn
import HandS.Head0
import HandS.Head1
import HandS.Head2
import HandS.HeadEnd
import HandS.HeadHook1
import HandS.HeadHook2
import HandS.HeadHook3
import HandS.HeadHook4
import HandS.HeadWalk
import HandS.Wide
import HandS.Text
import HandS.Codes
import PySem.Challenge.RW_laterwright_k24_known_languages
set_option Elab.async false
set_option linter.all false
set_option maxRecDepth 100000
set_option maxHeartbeats 4000000
namespace Lw
open PySem PySem.Spec PyProof.Rows L2
/-! zip over texts, tuples and lists in any mix -/
inductive Src where
  | str (x : Str)
  | tup (a : Addr)
  | lst (a : Addr)
def Src.v : Src → V
  | .str x => .str x
  | .tup a => .ref a
  | .lst a => .ref a
def signs (x : Str) : List V := x.cps.toList.map fun c => V.str ⟨#[c]⟩
def Src.Has (K : PySem.W.Frag) (H : Hp) : Src → List V → Prop
  | .str x, vs => vs = signs x
  | .tup a, vs => SqT K H a vs
  | .lst a, vs => SqL K H a vs
/-- the iterator's own object -/
def Src.It : Src → Addr → Nat → Heap → Prop
  | .str x, it, i, h => ∃ t, h.IsStrIter it (strIterType x) x t i
  | .tup a, it, i, h => h.IsTupleIter it a i
  | .lst a, it, i, h => h.IsListIter it a i
def Src.fp : Src → Addr → List Addr
  | .str _, it => [it]
  | .tup a, it => [it, a]
  | .lst a, it => [it, a]
def Src.own : Src → List Addr
  | .str _ => []
  | .tup a => [a]
  | .lst a => [a]
theorem Src.fp_eq (s : Src) (it : Addr) : s.fp it = it :: s.own := by cases s <;> rfl
theorem Src.It.obj {s : Src} {it : Addr} {i : Nat} {h : Heap} (x : s.It it i h) : ∃ o, h.get? it = some o ∧ ∀ v, o.data ≠ .cell v := by
  cases s with
  | str y => obtain ⟨t, o, e, _, d⟩ := x; exact ⟨o, e, fun v q => by rw [d] at q; cases q⟩
  | tup a => obtain ⟨o, e, _, d⟩ := x; exact ⟨o, e, fun v q => by rw [d] at q; cases q⟩
  | lst a => obtain ⟨o, e, _, d⟩ := x; exact ⟨o, e, fun v q => by rw [d] at q; cases q⟩
theorem Src.It.keep {s : Src} {it : Addr} {i : Nat} {h h' : Heap} (x : s.It it i h) (k : ∀ o, h.get? it = some o → h'.get? it = some o) : s.It it i h' := by
  cases s with
  | str y => obtain ⟨t, o, e, r⟩ := x; exact ⟨t, o, k _ e, r⟩
  | tup a => obtain ⟨o, e, r⟩ := x; exact ⟨o, k _ e, r⟩
  | lst a => obtain ⟨o, e, r⟩ := x; exact ⟨o, k _ e, r⟩
theorem draws_imp {prog : Program} {w : World} {A : Around} {it : Addr} {fp : List Addr} {n m : Nat} {P P' : Nat → Value → Prop} {St : Nat → Heap → Prop} (D : Draws prog w A it fp n P St) (e : n = m) (hp : ∀ i v, P i v → P' i v) : Draws prog w A it fp m P' St := by
  subst e
  exact ⟨D.live, D.frame, fun i s Q E hi st hQ => D.item i s Q E hi st fun x h' tk p => hQ x h' tk (hp _ _ p), D.done⟩
/-- the source's draws at a moment -/
theorem src_draws {X : Cx} {pins : List (Addr × Obj)} {σ : L2.St} {H : Hp} {s : Shared} (I : Inv X pins σ H s) {A : Around} (hh : A.handled = none) (r : Src) (it : Addr) (vs : List V) (hv : r.Has X.K H vs) (ne : ∀ a ∈ r.own, a ≠ it) :
    ∃ St : Nat → Heap → Prop, Draws X.prog X.w A it (r.fp it) vs.length (fun i v => ∃ x, vs[i]? = some x ∧ RelV x v) St ∧ (∀ i, r.It it i s.heap → St i s.heap) ∧ ∀ i h, St i h → r.It it i h := by
  cases r with
  | str x =>
    have hv : vs = signs x := hv
    subst hv
    by_cases ht : ∃ t i, s.heap.IsStrIter it (strIterType x) x t i
    · obtain ⟨t, i0, h0⟩ := ht
      refine ⟨_, draws_imp (Draws.text hh it x t) (by simp [signs]) fun i v ⟨c, u, e, ev⟩ => ⟨.str ⟨#[c]⟩, ?_, ⟨u, ev⟩⟩, fun i ⟨t', o, e, c, d⟩ => ?_, fun i h st => ⟨t, st⟩⟩
      · simp only [signs, List.getElem?_map, Array.getElem?_toList, e, Option.map_some]
      · obtain ⟨o', e', c', d'⟩ := h0
        rw [e] at e'
        cases e'
        rw [d] at d'
        refine ⟨o, e, c, ?_⟩
        rw [d]
        injection d' with d1
        have d2 := congrArg Array.toList d1
        simp only [List.cons.injEq] at d2
        obtain ⟨q1, q2, _⟩ := d2
        rw [← q1]
    · exact ⟨_, draws_imp (Draws.text hh it x 0) (by simp [signs]) fun i v ⟨c, u, e, ev⟩ => ⟨.str ⟨#[c]⟩, by simp only [signs, List.getElem?_map, Array.getElem?_toList, e, Option.map_some], ⟨u, ev⟩⟩, fun i ⟨t, q⟩ => absurd ⟨t, i, q⟩ ht, fun i h st => ⟨0, st⟩⟩
  | tup a =>
    obtain ⟨its, rv, p, _⟩ := I.tuple hv
    have p : s.heap.IsTuple a its.toArray := p
    refine ⟨_, draws_imp (Draws.tuple hh it a (ne a (by simp [Src.own])) its.toArray) (by simp [rv.length]) fun i v e => ?_, fun i q => ⟨q, p⟩, fun i h st => st.1⟩
    have e : its[i]? = some v := by simpa using e
    cases q : vs[i]? with
    | none => rw [rv.none_of q] at e; cases e
    | some x =>
      obtain ⟨u, e1, e2⟩ := rv.get q
      rw [e1] at e
      cases e
      exact ⟨x, rfl, e2⟩
  | lst a =>
    obtain ⟨its, rv, p, _⟩ := I.list hv
    have p := p.isList
    refine ⟨_, draws_imp (Draws.list hh it a (ne a (by simp [Src.own])) its.toArray) (by simp [rv.length]) fun i v e => ?_, fun i q => ⟨q, p⟩, fun i h st => st.1⟩
    have e : its[i]? = some v := by simpa using e
    cases q : vs[i]? with
    | none => rw [rv.none_of q] at e; cases e
    | some x =>
      obtain ⟨u, e1, e2⟩ := rv.get q
      rw [e1] at e
      cases e
      exact ⟨x, rfl, e2⟩
def ItzG (K : PySem.W.Frag) (r1 r2 : Src) : It :=
  ⟨fun i H => ∃ (xs ys : List V) (x y : V), r1.Has K H xs ∧ r2.Has K H ys ∧ xs[i]? = some x ∧ ys[i]? = some y,
    fun i H v H' => ∃ T x y, v = .ref T ∧ H T = none ∧ H' = upd H T (.tup [x, y]) ∧ (∀ xs, r1.Has K H xs → xs[i]? = some x) ∧ ∀ ys, r2.Has K H ys → ys[i]? = some y,
    fun i H => ∃ xs ys : List V, r1.Has K H xs ∧ r2.Has K H ys ∧ i = min xs.length ys.length⟩
structure SepG (r1 r2 : Src) (z TI TO i1 i2 : Addr) : Prop where
  TIz : TI ≠ z
  TOz : TO ≠ z
  i1z : i1 ≠ z
  i2z : i2 ≠ z
  TITO : TI ≠ TO
  TIi1 : TI ≠ i1
  TIi2 : TI ≠ i2
  TOi1 : TO ≠ i1
  TOi2 : TO ≠ i2
  i12 : i1 ≠ i2
  o1 : ∀ a ∈ r1.own, a ≠ z ∧ a ≠ TO ∧ a ≠ i1 ∧ a ≠ i2
  o2 : ∀ a ∈ r2.own, a ≠ z ∧ a ≠ TO ∧ a ≠ i1 ∧ a ≠ i2
theorem SepG.sep {r1 r2 : Src} {z TI TO i1 i2 : Addr} (D : SepG r1 r2 z TI TO i1 i2) : ZipSep2 z TI TO i1 i2 (r1.fp i1) (r2.fp i2) := by
  have n1 : ∀ b, b ∈ r1.fp i1 → b = i1 ∨ b ∈ r1.own := fun b hb => by rw [Src.fp_eq] at hb; exact List.mem_cons.mp hb
  have n2 : ∀ b, b ∈ r2.fp i2 → b = i2 ∨ b ∈ r2.own := fun b hb => by rw [Src.fp_eq] at hb; exact List.mem_cons.mp hb
  refine ⟨D.TIz, D.TOz, D.TITO, D.TIi1, by rw [Src.fp_eq]; simp, fun h => ?_, fun h => ?_, D.TIi2, by rw [Src.fp_eq]; simp, fun h => ?_, fun h => ?_, fun h => ?_, fun h => ?_⟩
  · rcases n1 _ h with e | e
    · exact D.i1z e.symm
    · exact (D.o1 _ e).1 rfl
  · rcases n1 _ h with e | e
    · exact D.TOi1 e
    · exact (D.o1 _ e).2.1 rfl
  · rcases n2 _ h with e | e
    · exact D.i2z e.symm
    · exact (D.o2 _ e).1 rfl
  · rcases n2 _ h with e | e
    · exact D.TOi2 e
    · exact (D.o2 _ e).2.1 rfl
  · rcases n2 _ h with e | e
    · exact D.i12 e
    · exact (D.o2 _ e).2.2.1 rfl
  · rcases n1 _ h with e | e
    · exact D.i12 e.symm
    · exact (D.o1 _ e).2.2.2 rfl
theorem Src.Has.inj {X : Cx} {pins : List (Addr × Obj)} {σ : L2.St} {H : Hp} {s : Shared} (I : Inv X pins σ H s) {r : Src} {xs ys : List V} (h1 : r.Has X.K H xs) (h2 : r.Has X.K H ys) : xs = ys := by
  cases r with
  | str x => exact (show xs = signs x from h1).trans (show ys = signs x from h2).symm
  | tup a => exact I.tuple_inj h1 h2
  | lst a => exact I.list_inj h1 h2
theorem turn_zipG {P : Program} {w : World} {K : PySem.W.Frag} {elts : List Expr} {kk : Nat} {tpos : Pos} {r1 r2 : Src} {z TI TO i1 i2 : Addr} (D : SepG r1 r2 z TI TO i1 i2) :
    Turn P w K (.Tuple elts kk tpos) (ItzG K r1 r2) [z, TI, TO, i1, i2] z (fun i h => IsZip h z TI TO .none ∧ IsTupOf2 h TI (.ref i1) (.ref i2) ∧ (∃ x y, IsTupOf2 h TO x y) ∧ r1.It i1 i h ∧ r2.It i2 i h) where
  mem := by simp
  obj := fun i h st c hc => by
    obtain ⟨hz, hTI, ⟨x, y, hTO⟩, h1, h2⟩ := st
    have e' : c = z ∨ c = TI ∨ c = TO ∨ c = i1 ∨ c = i2 := by simpa using hc
    rcases e' with q | q | q | q | q
    · rw [q]; exact ⟨_, hz, fun v q => nomatch q⟩
    · rw [q]; exact ⟨_, hTI, fun v q => nomatch q⟩
    · rw [q]; exact ⟨_, hTO, fun v q => nomatch q⟩
    · rw [q]; exact h1.obj
    · rw [q]; exact h2.obj
  keep := fun i h h' st k => by
    obtain ⟨hz, hTI, ⟨x, y, hTO⟩, h1, h2⟩ := st
    exact ⟨k z (by simp) _ hz, k TI (by simp) _ hTI, ⟨x, y, k TO (by simp) _ hTO⟩, h1.keep fun o q => k i1 (by simp) o q, h2.keep fun o q => k i2 (by simp) o q⟩
  item := by
    intro X hP hw hK hc i pins s σ H E I hf st hg
    subst hP hw hK
    obtain ⟨hz, hTI, ⟨x0, y0, hTO⟩, h1, h2⟩ := st
    obtain ⟨xs, ys, x, y, hqx, hqy, hx, hy⟩ := hg
    have hzl : z < s.heap.objs.size := Heap.lt_size hz
    have hh : X.A.in1.handled = none := I.ok.hd hc
    obtain ⟨St1, D1, b1, c1⟩ := src_draws I hh r1 i1 xs hqx fun a ha => (D.o1 a ha).2.2.1
    obtain ⟨St2, D2, b2, c2⟩ := src_draws I hh r2 i2 ys hqy fun a ha => (D.o2 a ha).2.2.2
    have l1 : i < xs.length := (List.getElem?_eq_some_iff.mp hx).1
    have l2 : i < ys.length := (List.getElem?_eq_some_iff.mp hy).1
    refine wpAny_pyNext_zipD2_item D.sep D1 D2 hz hTI hTO (b1 i h1) (b2 i h2) l1 l2 fun u u2 h' tk ⟨x', hx', ru⟩ ⟨y', hy', ru2⟩ z' TO' h1' h2' hT hsz hk => ?_
    rw [hx] at hx'
    cases hx'
    rw [hy] at hy'
    cases hy'
    refine ⟨_, rfl, wpAny_letOwnedTupleGo_zip (s := { s with heap := h', toks := tk }) z' fun h'' z'' sb => ?_⟩
    have hT2 : h''.get? s.heap.objs.size = some { cls := .type "tuple", data := .seq #[u, u2] } := (sb.2 _ (Nat.ne_of_gt hzl)).trans hT
    have new : ObjOk X.prog X.w (upd H s.heap.objs.size (.tup [x, y])) h'' s.heap.objs.size (.tup [x, y]) :=
      ⟨by show 2 ≤ sizeLine; decide, [u, u2], .cons ru (.cons ru2 .nil), ⟨_, hT2, rfl, _, rfl⟩⟩
    have I1 : Inv X pins σ (upd H s.heap.objs.size (.tup [x, y])) { s with heap := h'', toks := tk } :=
      I.turnedNew (t' := tk) (ch := [z, TI, TO, i1, i2]) (fun c o hb q => (sb.2 c (fun q' => hb (by simp [q']))).trans (hk c o (fun q' => hb (by simp [q'])) (fun q' => hb (by simp [q'])) (fun q' => hb (by simp [q'])) (fun q' => hb (by simp [q'])) q)) hf (Nat.le_refl _) new
    refine ⟨.ref s.heap.objs.size, _, I1, rfl, ⟨_, x, y, rfl, I.hok.fresh (Nat.le_refl _), rfl, fun l hl => by rw [Src.Has.inj I hl hqx]; exact hx, fun l hl => by rw [Src.Has.inj I hl hqy]; exact hy⟩, ⟨z'', ?_, ⟨u, u2, ?_⟩, ?_, ?_⟩, fun c hcm => ?_⟩
    · exact (sb.2 _ D.TIz).trans (hk _ _ D.TIz D.TITO D.TIi1 D.TIi2 hTI)
    · exact (sb.2 _ D.TOz).trans TO'
    · exact (c1 _ _ h1').keep fun o q => (sb.2 _ D.i1z).trans q
    · exact (c2 _ _ h2').keep fun o q => (sb.2 _ D.i2z).trans q
    · have hlt : c < s.heap.objs.size := by
        have e' : c = z ∨ c = TI ∨ c = TO ∨ c = i1 ∨ c = i2 := by simpa using hcm
        rcases e' with q | q | q | q | q
        · rw [q]; exact hzl
        · rw [q]; exact Heap.lt_size hTI
        · rw [q]; exact Heap.lt_size hTO
        · rw [q]; obtain ⟨_, e1, _⟩ := h1.obj; exact Heap.lt_size e1
        · rw [q]; obtain ⟨_, e2, _⟩ := h2.obj; exact Heap.lt_size e2
      rw [upd_ne (Nat.ne_of_lt hlt)]
      exact (hf c hcm).1
  done := by
    intro X hP hw hK hc i pins s σ H E I hf st hg
    subst hP hw hK
    obtain ⟨hz, hTI, ⟨x0, y0, hTO⟩, h1, h2⟩ := st
    obtain ⟨xs, ys, hqx, hqy, hend⟩ := hg
    have hh : X.A.in1.handled = none := I.ok.hd hc
    obtain ⟨St1, D1, b1, c1⟩ := src_draws I hh r1 i1 xs hqx fun a ha => (D.o1 a ha).2.2.1
    obtain ⟨St2, D2, b2, c2⟩ := src_draws I hh r2 i2 ys hqy fun a ha => (D.o2 a ha).2.2.2
    exact wpAny_pyNext_zipD2_end D.sep D1 D2 hz hTI hTO (b1 i h1) (b2 i h2) (by omega) (by omega) (by omega) fun h' tk hk => ⟨rfl, I.turnedL (t' := tk) (ch := [z, TI, TO, i1, i2]) (fun c o hb q =>
      hk c o (fun q' => hb (by simp [q'])) (fun q' => hb (by simp [q'])) (fun q' => hb (by simp [q'])) (fun q' => hb (by simp [q'])) q) hf⟩
  self := fun A i s Q E st h => wpAny_pyIter_zip st.1 h
/-- how it begins -/
theorem src_begins {X : Cx} {pins : List (Addr × Obj)} {σ : L2.St} {H : Hp} {s : Shared} (I : Inv X pins σ H s) (r : Src) (u : Value) (vs : List V) (hv : r.Has X.K H vs) (ru : RelV r.v u) :
    ∃ (o : Obj) (Hs : Heap → Prop), Begins u o Hs ∧ Hs s.heap ∧ (∀ h it, h.get? it = some o → r.It it 0 h) ∧ ∀ a ∈ r.own, a < s.heap.objs.size := by
  cases r with
  | str x =>
    obtain ⟨t, e⟩ := (show ∃ t, u = Value.str x t from ru)
    subst e
    exact ⟨_, _, begins_text x t, trivial, fun h it e => ⟨t, _, e, rfl, rfl⟩, fun a ha => by simp [Src.own] at ha⟩
  | tup a =>
    cases (show u = Value.ref a from ru)
    obtain ⟨its, rv, p, _⟩ := I.tuple hv
    obtain ⟨o, ho, _⟩ := id p
    exact ⟨_, _, begins_tuple a its.toArray, p, fun h it e => ⟨_, e, rfl, rfl⟩, fun b hb => by simp [Src.own] at hb; subst hb; exact Heap.lt_size ho⟩
  | lst a =>
    cases (show u = Value.ref a from ru)
    obtain ⟨its, rv, p, _⟩ := I.list hv
    exact ⟨_, _, begins_list a its.toArray, p.isList, fun h it e => ⟨_, e, rfl, rfl⟩, fun b hb => by simp [Src.own] at hb; subst hb; exact p.lt⟩
def iZipG (K : PySem.W.Frag) (ta : TA) : TI := fun σ H R => ta σ H fun vs H1 => ∃ (r1 r2 : Src) (xs ys : List V), vs = [r1.v, r2.v] ∧ r1.Has K H1 xs ∧ r2.Has K H1 ys ∧ R (ItzG K r1 r2) H1
theorem pi_zipG {X : Cx} {e e2 : Expr} {ta : TA} {p pos tpos : Pos} {elts : List Expr} {kk : Nat} (hg : Gl X "zip") (hm : X.mg "zip" = none) (ha : PA X [e, e2] ta)
    (hs : starEach [e, e2] X.env = (false, eval e X.env) :: starEach [e2] X.env := by rfl) (hpl : (backTo pos (starEach [e2] X.env)).any (·.1) = false := by rfl) :
    PI X (.Tuple elts kk tpos) (.Call (.Name "zip" p) [e, e2] [] pos) (iZipG X.K ta) := by
  refine ⟨fun pins s σ H R I h => ?_⟩
  refine Call_ (ld_blt I hg hm PyProof.Rows.boot_zip (PyProof.Rows.callWith_type1 (thn (ha.run pos pins s σ H _ I h) fun us s1 ⟨vs, H1, I1, rr1, q1⟩ => ?_) hs hpl))
  obtain ⟨r1, r2, xs, ys, ex, hx, hy, q⟩ := q1
  subst ex
  obtain ⟨u1, u2, rfl, ru1, ru2⟩ := vals2 rr1
  obtain ⟨o1, Hs1, B1, k1, t1, n1⟩ := src_begins I1 r1 u1 xs hx ru1
  obtain ⟨o2, Hs2, B2, k2, t2, n2⟩ := src_begins I1 r2 u2 ys hy ru2
  have fresh5 : ∀ c, c ∈ [s1.heap.objs.size + 4, s1.heap.objs.size + 2, s1.heap.objs.size + 3, s1.heap.objs.size, s1.heap.objs.size + 1] → FpOk X pins H1 c := fun c hcm => by
    have e' : c = s1.heap.objs.size + 4 ∨ c = s1.heap.objs.size + 2 ∨ c = s1.heap.objs.size + 3 ∨ c = s1.heap.objs.size ∨ c = s1.heap.objs.size + 1 := by simpa using hcm
    have hle : s1.heap.objs.size ≤ c := by omega
    exact I1.fpOk hle (I1.hok.fresh hle)
  refine zip_begins2 B1 B2 k1 k2 fun h' hz hTI hTO h1 h2 hsz hk => wpAny_pyIter_zip hz ?_
  have I2 : Inv X pins σ H1 { s1 with heap := h' } := I1.kept (t' := s1.toks) hk
  refine ⟨s1.heap.objs.size + 4, [s1.heap.objs.size + 4, s1.heap.objs.size + 2, s1.heap.objs.size + 3, s1.heap.objs.size, s1.heap.objs.size + 1], _, _, H1, rfl, I2, turn_zipG ?_, ⟨hz, hTI, ⟨_, _, hTO⟩, t1 _ _ h1, t2 _ _ h2⟩, fresh5, q⟩
  have M : ∀ (a n k : Nat), a < n → a ≠ n + k := fun a n k h e => by omega
  have N : ∀ a b : Nat, (a < b ∨ b < a) → a ≠ b := fun a b h e => by omega
  refine ⟨N _ _ (by omega), N _ _ (by omega), N _ _ (by omega), N _ _ (by omega), N _ _ (by omega), N _ _ (by omega), N _ _ (by omega), N _ _ (by omega), N _ _ (by omega), N _ _ (by omega), fun a ha => ?_, fun a ha => ?_⟩
  · exact ⟨M _ _ 4 (n1 a ha), M _ _ 3 (n1 a ha), M _ _ 0 (n1 a ha), M _ _ 1 (n1 a ha)⟩
  · exact ⟨M _ _ 4 (n2 a ha), M _ _ 3 (n2 a ha), M _ _ 0 (n2 a ha), M _ _ 1 (n2 a ha)⟩
theorem walk_zipG {K : PySem.W.Frag} {r1 r2 : Src} {xs ys : List V} {n : Nat} (hn : n = min xs.length ys.length) : Walk (ItzG K r1 r2) n (fun H => r1.Has K H xs ∧ r2.Has K H ys) (YPair (fun i => xs[i]?) (fun i => ys[i]?)) := by
  subst hn
  refine ⟨fun i _ hi q => ?_, fun _ q => ⟨xs, ys, q.1, q.2, rfl⟩, fun i H v H' _ q y => ?_⟩
  · have h1 : i < xs.length := by omega
    have h2 : i < ys.length := by omega
    exact ⟨xs, ys, xs[i], ys[i], q.1, q.2, by simp [h1], by simp [h2]⟩
  · obtain ⟨T, x, z, h1, h2, h3, h4, h5⟩ := y
    exact ⟨T, x, z, h1, h2, h3, h4 xs q.1, h5 ys q.2⟩
end Lw
set_option Elab.async false
set_option linter.all false
set_option maxRecDepth 100000
set_option maxHeartbeats 4000000
namespace Lw
open PySem PySem.Spec PyProof.Rows L2 RZ
/-! ### data -/
inductive Kd where
  | num | to (a b : Kd) | two (a b : Kd) | code (a : Kd)
  deriving DecidableEq
def Kd.d : Kd → PyData
  | .num => .str "num"
  | .to a b => .tuple [.str "to", a.d, b.d]
  | .two a b => .tuple [.str "two", a.d, b.d]
  | .code a => .tuple [.str "code", a.d]
inductive Wd where
  | num | name | plus | times | less | ite | lt | fn | rc | call | two | fst | snd | quote | now | run | carry
  deriving DecidableEq
def Wd.s : Wd → Str
  | .num => "num" | .name => "name" | .plus => "plus" | .times => "times" | .less => "less" | .ite => "if" | .lt => "let" | .fn => "fun" | .rc => "rec"
  | .call => "call" | .two => "two" | .fst => "first" | .snd => "second" | .quote => "quote" | .now => "now" | .run => "run" | .carry => "carry"
def Wd.form : Wd → Str
  | .num => "n" | .name => "n" | .plus => "ee" | .times => "ee" | .less => "ee" | .ite => "eee" | .lt => "nee" | .fn => "nke" | .rc => "nnkke"
  | .call => "ee" | .two => "ee" | .fst => "e" | .snd => "e" | .quote => "e" | .now => "e" | .run => "e" | .carry => "e"
/-- how many numbers, kinds, parts -/
def Wd.ar : Wd → Nat × Nat × Nat
  | .num => (1, 0, 0) | .name => (1, 0, 0) | .plus => (0, 0, 2) | .times => (0, 0, 2) | .less => (0, 0, 2) | .ite => (0, 0, 3) | .lt => (1, 0, 2) | .fn => (1, 1, 1) | .rc => (2, 2, 1)
  | .call => (0, 0, 2) | .two => (0, 0, 2) | .fst => (0, 0, 1) | .snd => (0, 0, 1) | .quote => (0, 0, 1) | .now => (0, 0, 1) | .run => (0, 0, 1) | .carry => (0, 0, 1)
inductive Ex where
  | node (w : Wd) (ns : List Int) (ks : List Kd) (es : List Ex)
def Ex.w : Ex → Wd | .node w _ _ _ => w
def Ex.ns : Ex → List Int | .node _ ns _ _ => ns
def Ex.ks : Ex → List Kd | .node _ _ ks _ => ks
def Ex.es : Ex → List Ex | .node _ _ _ es => es
mutual
def Ex.d : Ex → PyData
  | .node w ns ks es => .tuple (.str w.s :: (ns.map PyData.int ++ (ks.map Kd.d ++ Ex.dL es)))
def Ex.dL : List Ex → List PyData
  | [] => []
  | e :: r => e.d :: Ex.dL r
end
mutual
def Ex.ok : Ex → Bool
  | .node w ns ks es => decide ((ns.length, ks.length, es.length) = w.ar) && Ex.okL es
def Ex.okL : List Ex → Bool
  | [] => true
  | e :: r => e.ok && Ex.okL r
end
theorem Ex.dL_eq : ∀ es : List Ex, Ex.dL es = es.map Ex.d
  | [] => rfl
  | e :: r => by rw [Ex.dL, Ex.dL_eq r]; rfl
theorem Ex.okL_iff : ∀ {es : List Ex}, Ex.okL es = true ↔ ∀ e ∈ es, e.ok = true
  | [] => by simp [Ex.okL]
  | e :: r => by rw [Ex.okL, Bool.and_eq_true, Ex.okL_iff]; simp
/-! ### where data stands -/
section
variable {K : PySem.W.Frag} {H H' : Hp}
theorem DpAll.length : ∀ {vs : List V} {ds : List PyData}, DpAll K H vs ds → vs.length = ds.length
  | _, _, .nil => rfl
  | _, _, .cons _ t => congrArg Nat.succ (DpAll.length t)
theorem DpAll.get : ∀ {vs : List V} {ds : List PyData} {i : Nat} {v : V}, DpAll K H vs ds → vs[i]? = some v → ∃ d, ds[i]? = some d ∧ Dp K H v d
  | _, _, _, _, .nil, e => by simp at e
  | _, _, 0, _, .cons r _, e => by simp at e; subst e; exact ⟨_, rfl, r⟩
  | _, _, i + 1, v, .cons _ t, e => by
    obtain ⟨d, h1, h2⟩ := DpAll.get (i := i) (v := v) t (by simpa using e)
    exact ⟨d, by simpa using h1, h2⟩
theorem DpAll.get' : ∀ {vs : List V} {ds : List PyData} {i : Nat} {d : PyData}, DpAll K H vs ds → ds[i]? = some d → ∃ v, vs[i]? = some v ∧ Dp K H v d
  | _, _, _, _, .nil, e => by simp at e
  | _, _, 0, _, .cons r _, e => by simp at e; subst e; exact ⟨_, rfl, r⟩
  | _, _, i + 1, d, .cons _ t, e => by
    obtain ⟨v, h1, h2⟩ := DpAll.get' (i := i) (d := d) t (by simpa using e)
    exact ⟨v, by simpa using h1, h2⟩
theorem DpAll.append : ∀ {vs ws : List V} {ds es : List PyData}, DpAll K H vs ds → DpAll K H ws es → DpAll K H (vs ++ ws) (ds ++ es)
  | _, _, _, _, .nil, s => s
  | _, _, _, _, .cons r t, s => .cons r (DpAll.append t s)
theorem DpAll.split : ∀ {ds es : List PyData} {vs : List V}, DpAll K H vs (ds ++ es) → ∃ ws us, vs = ws ++ us ∧ DpAll K H ws ds ∧ DpAll K H us es
  | [], _, vs, h => ⟨[], vs, rfl, .nil, h⟩
  | d :: ds, es, _, .cons r t => by
    obtain ⟨ws, us, e, h1, h2⟩ := DpAll.split (ds := ds) (es := es) t
    exact ⟨_ :: ws, us, by rw [e]; rfl, .cons r h1, h2⟩
theorem DpAll.ints : ∀ {ns : List Int} {vs : List V}, DpAll K H vs (ns.map PyData.int) → vs = ns.map V.int
  | [], _, .nil => rfl
  | n :: ns, _, .cons r t => by cases r; rw [DpAll.ints t]; rfl
theorem DpAll.ints' : ∀ (ns : List Int), DpAll K H (ns.map V.int) (ns.map PyData.int)
  | [] => .nil
  | n :: ns => .cons (.int n) (DpAll.ints' ns)
/-- what was a tuple is one, what stood locked stands -/
structure TSame (H H' : Hp) : Prop where
  tup : ∀ a xs, H a = some (.tup xs) → H' a = some (.tup xs)
  frz : ∀ a o u, H a = some (.frz o u) → H' a = some (.frz o u)
theorem TSame.refl (H : Hp) : TSame H H := ⟨fun _ _ h => h, fun _ _ _ h => h⟩
theorem TSame.trans {H1 H2 H3 : Hp} (a : TSame H1 H2) (b : TSame H2 H3) : TSame H1 H3 := ⟨fun c xs h => b.tup c xs (a.tup c xs h), fun c o u h => b.frz c o u (a.frz c o u h)⟩
theorem TSame.of (s : Same H H') : TSame H H' := ⟨fun _ _ h => s _ _ h, fun _ _ _ h => s _ _ h⟩
theorem TSame.seqT (s : TSame H H') {a : Addr} {xs : List V} (h : SqT K H a xs) : SqT K H' a xs := by
  rcases h with (h | ⟨o, h⟩) | h
  · exact .inl (.inl (s.tup _ _ h))
  · exact .inl (.inr ⟨o, s.frz _ _ _ h⟩)
  · exact .inr h
theorem Same.seqT (s : Same H H') {a : Addr} {xs : List V} (h : SqT K H a xs) : SqT K H' a xs := (TSame.of s).seqT h
end
/- no list in it -/
mutual
def flatD : PyData → Bool
  | .list _ => false
  | .dict _ => false
  | .tuple xs => flatDL xs
  | .none => true
  | .bool _ => true
  | .int _ => true
  | .str _ => true
def flatDL : List PyData → Bool
  | [] => true
  | d :: r => flatD d && flatDL r
end
section
variable {K : PySem.W.Frag} {H H' : Hp}
mutual
theorem Dp.same (s : Same H H') : ∀ (d : PyData) (v : V), Dp K H v d → Dp K H' v d
  | .none, _, h => by cases h; exact .non
  | .bool b, _, h => by cases h; exact .bl b
  | .int i, _, h => by cases h; exact .int i
  | .str x, _, h => by cases h; exact .str x
  | .list ds, _, h => by cases h with | lst q a => exact .lst (Same.seq s q) (DpAll.same s ds _ a)
  | .tuple ds, _, h => by cases h with | tup q a => exact .tup (Lw.Same.seqT s q) (DpAll.same s ds _ a)
  | .dict _, _, h => by cases h
theorem DpAll.same (s : Same H H') : ∀ (ds : List PyData) (vs : List V), DpAll K H vs ds → DpAll K H' vs ds
  | [], _, h => by cases h; exact .nil
  | d :: ds, _, h => by cases h with | cons q a => exact .cons (Dp.same s d _ q) (DpAll.same s ds _ a)
end
mutual
theorem Dp.tsame (s : TSame H H') : ∀ (d : PyData) (v : V), flatD d = true → Dp K H v d → Dp K H' v d
  | .none, _, _, h => by cases h; exact .non
  | .bool b, _, _, h => by cases h; exact .bl b
  | .int i, _, _, h => by cases h; exact .int i
  | .str x, _, _, h => by cases h; exact .str x
  | .list ds, _, f, h => by cases f
  | .tuple ds, _, f, h => by cases h with | tup q a => exact .tup (s.seqT q) (DpAll.tsame s ds _ f a)
  | .dict _, _, _, h => by cases h
theorem DpAll.tsame (s : TSame H H') : ∀ (ds : List PyData) (vs : List V), flatDL ds = true → DpAll K H vs ds → DpAll K H' vs ds
  | [], _, _, h => by cases h; exact .nil
  | d :: ds, _, f, h => by
    rw [flatDL, Bool.and_eq_true] at f
    cases h with | cons q a => exact .cons (Dp.tsame s d _ f.1 q) (DpAll.tsame s ds _ f.2 a)
end
end
theorem flatDL_append : ∀ (a b : List PyData), flatDL (a ++ b) = (flatDL a && flatDL b)
  | [], b => by simp [flatDL]
  | d :: a, b => by rw [List.cons_append, flatDL, flatDL_append a b, flatDL, Bool.and_assoc]
theorem Kd.flat : ∀ k : Kd, flatD k.d = true
  | .num => rfl
  | .to a b => by simp [Kd.d, flatD, flatDL, a.flat, b.flat]
  | .two a b => by simp [Kd.d, flatD, flatDL, a.flat, b.flat]
  | .code a => by simp [Kd.d, flatD, flatDL, a.flat]
theorem Kd.flatL : ∀ ks : List Kd, flatDL (ks.map Kd.d) = true
  | [] => rfl
  | k :: r => by rw [List.map_cons, flatDL, k.flat, Kd.flatL r]; rfl
theorem ints_flat : ∀ ns : List Int, flatDL (ns.map PyData.int) = true
  | [] => rfl
  | k :: r => by rw [List.map_cons, flatDL, ints_flat r]; rfl
mutual
theorem Ex.flat : ∀ e : Ex, flatD e.d = true
  | .node w ns ks es => by
    rw [Ex.d, flatD, flatDL, flatDL_append, flatDL_append, ints_flat, Kd.flatL, Ex.flatL es]; rfl
theorem Ex.flatL : ∀ es : List Ex, flatDL (Ex.dL es) = true
  | [] => rfl
  | e :: r => by rw [Ex.dL, flatDL, e.flat, Ex.flatL r]; rfl
end
/-- an expression stands at a -/
structure NodeAt (K : PySem.W.Frag) (H : Hp) (e : Ex) (a : Addr) (kvs evs : List V) : Prop where
  sq : SqT K H a (.str e.w.s :: (e.ns.map V.int ++ (kvs ++ evs)))
  ks : DpAll K H kvs (e.ks.map Kd.d)
  es : DpAll K H evs (Ex.dL e.es)
theorem node_of {K : PySem.W.Frag} {H : Hp} {e : Ex} {v : V} (h : Dp K H v e.d) : ∃ a kvs evs, v = .ref a ∧ NodeAt K H e a kvs evs := by
  cases e with
  | node w ns ks es =>
    rw [Ex.d] at h
    cases h with
    | tup q a =>
      cases a with
      | cons r t =>
        cases r
        obtain ⟨ws, us, rfl, h1, h2⟩ := DpAll.split t
        obtain ⟨kvs, evs, rfl, h3, h4⟩ := DpAll.split h2
        rw [DpAll.ints h1] at q
        exact ⟨_, kvs, evs, rfl, q, h3, h4⟩
theorem NodeAt.dp {K : PySem.W.Frag} {H : Hp} {e : Ex} {a : Addr} {kvs evs : List V} (n : NodeAt K H e a kvs evs) : Dp K H (.ref a) e.d := by
  cases e with
  | node w ns ks es =>
    rw [Ex.d]
    exact .tup n.sq (.cons (.str _) (DpAll.append (DpAll.ints' ns) (DpAll.append n.ks n.es)))
theorem NodeAt.tsame {K : PySem.W.Frag} {H H' : Hp} {e : Ex} {a : Addr} {kvs evs : List V} (s : TSame H H') (n : NodeAt K H e a kvs evs) : NodeAt K H' e a kvs evs :=
  ⟨s.seqT n.sq, DpAll.tsame s _ _ (Kd.flatL _) n.ks, DpAll.tsame s _ _ (Ex.flatL _) n.es⟩
/-! ### further operators -/
/-- xs != [], whatever stands in xs -/
theorem op_neE {X : Cx} (hu : X.A.units < cLine) : OpR X (compareOp .NotEq) (fun x y H Q => ∃ a b xs, x = .ref a ∧ y = .ref b ∧ SqL X.K H a xs ∧ SqL X.K H b [] ∧ Q (.bl (!xs.isEmpty)) H) := by
  intro pins s σ H x y v u Q I rx ry h
  obtain ⟨a, b, xs, rfl, rfl, ha, hb, q⟩ := h
  cases rx
  cases ry
  obtain ⟨its, rv, p, _⟩ := I.list ha
  obtain ⟨its2, rv2, p2, _⟩ := I.list hb
  cases rv2
  cases xs with
  | nil =>
    cases rv
    exact SeqAt.RcNeAt.lists (e := fun _ => true) p.isList p2.isList rfl hu (fun j h1 _ => by simp at h1) X.prog X.w _ _ ⟨.bl false, H, I, rfl, q⟩
  | cons z zs =>
    cases rv with
    | cons r t => exact SeqAt.RcNeAt.lists_lengths p.isList p2.isList (by simp) hu X.prog X.w _ _ ⟨.bl true, H, I, rfl, q⟩
theorem op_eqE {X : Cx} (hu : X.A.units < cLine) : OpR X (compareOp .Eq) (fun x y H Q => ∃ a b xs, x = .ref a ∧ y = .ref b ∧ SqL X.K H a xs ∧ SqL X.K H b [] ∧ Q (.bl xs.isEmpty) H) := by
  intro pins s σ H x y v u Q I rx ry h
  obtain ⟨a, b, xs, rfl, rfl, ha, hb, q⟩ := h
  cases rx
  cases ry
  obtain ⟨its, rv, p, _⟩ := I.list ha
  obtain ⟨its2, rv2, p2, _⟩ := I.list hb
  cases rv2
  cases xs with
  | nil =>
    cases rv
    exact SeqAt.RcAt.lists (e := fun _ => true) p.isList p2.isList rfl hu (fun j h1 _ => by simp at h1) X.prog X.w _ _ ⟨.bl true, H, I, rfl, q⟩
  | cons z zs =>
    cases rv with
    | cons r t => exact SeqAt.RcAt.lists_lengths p.isList p2.isList (by simp) hu X.prog X.w _ _ ⟨.bl false, H, I, rfl, q⟩
/-- t == (): a tuple whose first thing is there is not the empty one -/
theorem op_eqE' {X : Cx} (hu : X.A.units + 64 < cLine) : OpR X (compareOp .Eq) (fun x y H Q => ∃ a b xs, x = .ref a ∧ y = .ref b ∧ SqT X.K H a xs ∧ SqT X.K H b [] ∧ Q (.bl xs.isEmpty) H) := by
  intro pins s σ H x y v u Q I rx ry h
  obtain ⟨a, b, xs, rfl, rfl, ha, hb, q⟩ := h
  cases rx
  cases ry
  obtain ⟨its, rv, p, _⟩ := I.tuple ha
  obtain ⟨its2, rv2, p2, _⟩ := I.tuple hb
  cases rv2
  refine SeqAt.RcAt.tuples (e := fun _ => true) (show s.heap.IsTuple a its.toArray from p) (show s.heap.IsTuple b (([] : List Value).toArray) from p2) (by omega) (fun j _ h2 => by simp at h2) X.prog X.w _ _ ⟨.bl _, H, I, rfl, ?_⟩
  have e : ((List.range (min its.toArray.size (([] : List Value).toArray).size)).all (fun _ => true) && its.toArray.size == (([] : List Value).toArray).size) = xs.isEmpty := by
    have l := rv.length
    cases xs with
    | nil => cases its with | nil => rfl | cons _ _ => cases l
    | cons _ _ => cases its with | nil => cases l | cons _ _ => simp
  rw [e]
  exact q
/-- a tuple's slice, wherever it comes to stand -/
def rSlU (K : PySem.W.Frag) : V → Option Int → Option Int → Hp → VK → Prop := fun x lo hi H Q => ∃ a xs, x = .ref a ∧ SqT K H a xs ∧ ∀ q H', Same H H' → SqT K H' q (cutV xs lo hi) → Q (.ref q) H'
theorem sl_tupU {X : Cx} : SlR X (rSlU X.K) := by
  intro pins s σ H x v vl vu lo hi sl Q I rx hs pl pu h
  obtain ⟨a, xs, rfl, hx, q⟩ := h
  refine sl_tupA pins s σ H _ v vl vu lo hi sl Q I rx hs pl pu ⟨a, xs, rfl, hx, fun hw => q a H (Same.refl H) ?_, fun hw p hp => q p _ (fun b u e => ?_) (SqT.of upd_same)⟩
  · have : cutV xs lo hi = xs := by
      unfold cutV
      rw [hw.1, hw.2]
      simp
    rw [this]
    exact hx
  · rw [upd_ne (ne_of_none e hp)]
    exact e
def rCatU (K : PySem.W.Frag) : R2 := fun x y H Q => ∃ a b xs ys, x = .ref a ∧ y = .ref b ∧ SqT K H a xs ∧ SqT K H b ys ∧ xs.length + ys.length ≤ sizeLine ∧ ∀ q H', Same H H' → SqT K H' q (xs ++ ys) → Q (.ref q) H'
theorem op_catU {X : Cx} : OpR X (binaryOp .Add) (rCatU X.K) := by
  intro pins s σ H x y v u Q I rx ry h
  obtain ⟨a, b, xs, ys, rfl, rfl, ha, hb, hz, q⟩ := h
  refine op_catA pins s σ H _ _ v u Q I rx ry ⟨a, b, xs, ys, rfl, rfl, ha, hb, hz, fun e => q b H (Same.refl H) ?_, fun _ e => q a H (Same.refl H) ?_, fun _ _ p hp => q p _ (fun c w e => ?_) (SqT.of upd_same)⟩
  · subst e
    exact hb
  · subst e
    rw [List.append_nil]
    exact ha
  · rw [upd_ne (ne_of_none e hp)]
    exact e
/-! ### written dicts with text keys -/
structure KDc (K : PySem.W.Frag) (w : World) (d : Addr) (g : Str → Option V) : Prop where
  ex : ∃ es n, KDict K w d es n ∧ ∀ z, ∃ r, findBy Value.isStrOf es z = r ∧ RelO (g z) r
theorem findBy_list {es : Array DictEntry} {z : Str} : findBy Value.isStrOf es z = (es.toList.find? fun e => Value.isStrOf z e.key).map (·.val) := by
  obtain ⟨l⟩ := es
  unfold findBy
  simp
section
variable {X : Cx} {d : Addr} {g : Str → Option V}
theorem KDc.map {h : Heap} {prog : Program} (D : KDc X.K X.w d g) (kin : X.K.In h) : ∃ f : Str → Option Value, h.MapOf (strKind prog X.w) d f ∧ (∀ z, RelO (g z) (f z)) ∧ (d == sysModules) = false := by
  obtain ⟨es, n, k, q⟩ := D.ex
  refine ⟨_, PySem.W.mapOf_K kin k.at_ k.lit, fun z => ?_, k.low⟩
  obtain ⟨r, e, rr⟩ := q z
  rw [e]
  exact rr
theorem ix_kdc (D : KDc X.K X.w d g) : IxR X (fun x y H Q => ∃ z v, x = .ref d ∧ y = .str z ∧ g z = some v ∧ Q v H) := by
  intro value slice pins s σ H x y v u Q I rx ry h hs
  obtain ⟨z, r, rfl, rfl, e, q⟩ := h
  obtain rfl : v = Value.ref d := rx
  obtain ⟨t, rfl⟩ := ry
  obtain ⟨f, hm, hf, _⟩ := D.map (prog := X.prog) I.kIn
  have q2 := hf z
  rw [e] at q2
  obtain ⟨uu, e2, ru⟩ := q2.some_of
  exact tail_any hm.typeIs slot_dict_getitem.lookup (wpAny_getItem_of (strKind_is X.prog X.w z t) hm e2 ⟨r, H, I.tok _, ru, q⟩) hs
def tKGet2 (d : Addr) (g : Str → Option V) (to te tf : TE) : TE := fun σ H Q => to σ H fun x H1 => x = .ref d ∧ te σ H1 fun y H2 => tf σ H2 fun z' H3 => ∃ s, y = .str s ∧ Q ((g s).getD z') H3
theorem pe_kget2 {o e f : Expr} {apos cpos : Pos} {to te tf : TE} (D : KDc X.K X.w d g) (ho : PE X o to) (he : PE X e te) (hf : PE X f tf) (m : M2 X o "get" apos e f cpos) : PE X (.Call (.Attribute o "get" apos) [e, f] [] cpos) (tKGet2 d g to te tf) := by
  refine ⟨fun pins s σ H Q I h => ?_⟩
  refine wpAny_Call_method m.base m.few m.line PySem.F.plainAttrs_dict PySem.F.slot_dict_get PySem.F.type_dict_get (thn (ho.run pins s σ H _ I h) fun u s1 ⟨x, H1, I1, rx, ex, q1⟩ => ?_)
  subst ex
  obtain rfl : u = Value.ref d := rx
  obtain ⟨f1, hm, _, low⟩ := D.map (prog := X.prog) I1.kIn
  refine ⟨hm.typeIs, fun b q => ?_, ?_⟩
  · cases q
    obtain ⟨ob, _, _, h1, h2, _⟩ := hm
    exact ⟨ob, h1, h2.2.1⟩
  rw [m.trees]
  refine Calls.callWith_builtin rfl (Calls.evalArgs_plain (Calls.spliced_cons (thn (he.run pins s1 σ H1 _ I1 q1) fun iv s2 ⟨y, H2, I2, ry, q2⟩ =>
    Calls.spliced_cons (thn (hf.run pins s2 σ H2 _ I2 q2) fun fv s3 ⟨z, H3, I3, rz, k, ey, q3⟩ => Calls.spliced_nil ?_))))
  subst ey
  obtain ⟨t, rfl⟩ := ry
  obtain ⟨f3, hm3, hf3, _⟩ := D.map (prog := X.prog) I3.kIn
  refine call_meetsIn PySem.F.slot_dict_get hm3.typeIs PySem.F.entry_dict_get (PySem.F.args_dict_get_3 _ _ _) (meets_dict_get_default (strKind X.prog X.w) d (strKind_is X.prog X.w k t) low fv) ⟨_, hm3, ?_⟩
  refine ⟨_, H3, I3.tok _, ?_, q3⟩
  have q4 := hf3 k
  cases eg : g k with
  | none =>
    rw [eg] at q4
    rw [q4.none_of]
    exact rz
  | some v =>
    rw [eg] at q4
    obtain ⟨uu, e2, ru⟩ := q4.some_of
    rw [e2]
    exact ru
end
/-- a def of the module, by its name -/
structure Dfn (P : Program) (w : World) (K : PySem.W.Frag) (mg : Str → Option Value) (base : Heap) (x : Str) (k : Nat) (ps : List Str) (sp : Sp) : Prop where
  ex : ∃ f fd, FnOk P w K mg base CX0 k f fd ps sp ∧ mg x = some (.ref f) ∧ PySem.W.keepIn K (.ref f) = true ∧ Binds K fd ps []
theorem pe_callD {X : Cx} {x : Str} {k : Nat} {ps : List Str} {sp : Sp} {e : Expr} {es : List Expr} {t : TA} {p pos : Pos} (D : Dfn X.prog X.w X.K X.mg X.base x k ps sp) (hr : Room k X.A) (hg : Gl X x) (ha : PA X (e :: es) t)
    (hdb : (x == ("__debug__" : Str)) = false := by decide) (he : starEach (e :: es) X.env = (false, eval e X.env) :: starEach es X.env := by rfl) (hpl : (backTo pos (starEach es X.env)).any (·.1) = false := by rfl) :
    PE X (.Call (.Name x p) (e :: es) [] pos) (tCall sp [] E0 t) := by
  obtain ⟨f, fd, F, m, kp, b⟩ := D.ex
  exact pe_call F hr hg m kp b .nil pass0 ha hdb he hpl
theorem Dfn.mono {P : Program} {w : World} {K : PySem.W.Frag} {mg : Str → Option Value} {base : Heap} {x : Str} {j k : Nat} {ps : List Str} {sp : Sp} (D : Dfn P w K mg base x j ps sp) (h : j ≤ k) : Dfn P w K mg base x k ps sp := by
  obtain ⟨f, fd, F, m, kp, b⟩ := D.ex
  exact ⟨f, fd, F.mono h, m, kp, b⟩
/-- what a def with no defaults is, ahead of its promise: where it stands -/
structure At0 (K : PySem.W.Frag) (mg : Str → Option Value) (x qual : Str) (st : Stmt) (ps : List Str) : Prop where
  ex : ∃ f fd, Fun K x qual st f fd ∧ mg x = some (.ref f) ∧ Binds K fd ps []
theorem Dfn.of {P : Program} {w : World} {K : PySem.W.Frag} {mg : Str → Option Value} {base : Heap} {x qual : Str} {k : Nat} {st : Stmt} {ps : List Str} {sp : Sp} (a : At0 K mg x qual st ps)
    (h : ∀ f fd, Fun K x qual st f fd → FnOk P w K mg base CX0 k f fd ps sp) : Dfn P w K mg base x k ps sp := by
  obtain ⟨f, fd, F, m, b⟩ := a.ex
  exact ⟨f, fd, h f fd F, m, F.kp, b⟩
theorem Dfn.never {P : Program} {w : World} {K : PySem.W.Frag} {mg : Str → Option Value} {base : Heap} {x qual : Str} {st : Stmt} {ps : List Str} {sp : Sp} (a : At0 K mg x qual st ps)
    (h : ∀ vs H Q E, ¬ sp vs H Q E) : Dfn P w K mg base x 0 ps sp := by
  obtain ⟨f, fd, F, m, b⟩ := a.ex
  exact ⟨f, fd, ⟨fun vs H Q E q => absurd q (h _ _ _ _), fun A outer s H args us vs Q E hr e0 bt r q => absurd q (h _ _ _ _)⟩, m, F.kp, b⟩
/-! ### heaps -/
theorem Same.new {H : Hp} {p : Addr} {o : HO} (h : H p = none) : Same H (upd H p o) := fun b u e => by
  rw [upd_ne (ne_of_none e h)]
  exact e
theorem Same.over {H H1 : Hp} {p : Addr} {o : HO} (s : Same H H1) (h : H p = none) : Same H (upd H1 p o) := fun b u e => by
  rw [upd_ne (ne_of_none e h)]
  exact s b u e
theorem upd_no {H : Hp} {a b : Addr} {o : HO} (e : upd H a o b = none) : H b = none := by
  by_cases h : b = a
  · subst h
    rw [upd_same] at e
    cases e
  · rw [upd_ne h] at e
    exact e
theorem upd_no_ne {H : Hp} {a b : Addr} {o : HO} (e : upd H a o b = none) : b ≠ a := by
  rintro rfl
  rw [upd_same] at e
  cases e
/-- what changes is no tuple -/
theorem TSame.mut {H : Hp} {p : Addr} {o u : HO} (h : H p = some u) (m : Mut (some u)) : TSame H (upd H p o) :=
  ⟨fun a xs e => by rw [upd_ne (fun z => by subst z; rw [e] at h; cases h; exact m)]; exact e, fun a ob v e => by rw [upd_ne (fun z => by subst z; rw [e] at h; cases h; exact m)]; exact e⟩
/-! ### comprehensions that map -/
section
variable {J : It} {n : Nat} {G : Hp → Prop} {Y : Nat → Hp → V → Hp → Prop}
theorem lc_gen (w : Walk J n G Y) {g : TG} {te : TE} {vs : List Nat} {σ : L2.St} {H1 : Hp} {D : Addr} {Qd : Hp → Prop} (ys : List V) (hn : n = ys.length) (hz : ys.length < sizeLine) (R : Nat → Hp → Prop) (h0 : R 0 (upd H1 D (.lst [])))
    (hG : ∀ i H', R i H' → G H') (hD : ∀ i H' l, R i H' → R i (upd H' D (.lst l)))
    (hs : ∀ i x y H' H2 Q, i < n → ys[i]? = some y → R i H' → H' D = some (.lst (ys.take i)) → Y i H' x H2 → (∀ H3, R (i + 1) H3 → H3 D = some (.lst (ys.take i)) → Q y H3) → g x (wipe σ vs) H2 fun σ2 H3 => wipe σ2 vs = wipe σ vs ∧ te σ2 H3 Q)
    (hd : ∀ H', R n H' → H' D = some (.lst ys) → Qd H') (hgm : ∀ x σ1 H2 (P Q : L2.St → Hp → Prop), (∀ σ2 H3, P σ2 H3 → Q σ2 H3) → g x σ1 H2 P → g x σ1 H2 Q) :
    ∃ W : Nat → Nat → Hp → Prop, (∃ m, W 0 m (upd H1 D (.lst []))) ∧ ∀ i m H, W i m H →
      (J.stop i H ∧ Qd H) ∨ (J.go i H ∧ ∃ Nx : Hp → Prop, (∀ H', Nx H' → ∃ m', m' < m ∧ W (i + 1) m' H') ∧ ∀ x H', J.yld i H x H' → g x (wipe σ vs) H' fun σ2 H2 => wipe σ2 vs = wipe σ vs ∧ tYes σ2 H2 fun b H3 =>
        if b = true then te σ2 H3 fun y H4 => ∃ acc, H4 D = some (.lst acc) ∧ acc.length < sizeLine ∧ Nx (upd H4 D (.lst (acc ++ [y]))) else Nx H3) := by
  refine lc_it w (fun i H' => R i H' ∧ H' D = some (.lst (ys.take i))) ⟨h0, by rw [upd_same]; rfl⟩ (fun i H' _ h => hG i H' h.1) ?_ (fun H' h => hd H' h.1 (by rw [h.2, hn, List.take_length]))
  rintro i x H' H2 hi ⟨r, hl⟩ y
  have hlt : i < ys.length := by omega
  have hy : ys[i]? = some ys[i] := List.getElem?_eq_getElem hlt
  have et : ys.take (i + 1) = ys.take i ++ [ys[i]] := by rw [List.take_succ, hy]; rfl
  have q := hs i x ys[i] H' H2 (fun y H4 => ∃ acc, H4 D = some (.lst acc) ∧ acc.length < sizeLine ∧ R (i + 1) (upd H4 D (.lst (acc ++ [y]))) ∧ (upd H4 D (.lst (acc ++ [y]))) D = some (.lst (ys.take (i + 1)))) hi hy r hl y
    fun H3 r3 h3 => ⟨ys.take i, h3, by rw [List.length_take]; omega, hD _ _ _ r3, by rw [upd_same, et]⟩
  refine hgm _ _ _ _ _ (fun σ2 H3 h => ⟨h.1, ?_⟩) q
  exact iteT (B := R (i + 1) H3 ∧ H3 D = some (.lst (ys.take (i + 1)))) h.2
/-- the same, the values not known ahead -/
theorem lc_ex (w : Walk J n G Y) {g : TG} {te : TE} {vs : List Nat} {σ : L2.St} {H1 : Hp} {D : Addr} {Qd : Hp → Prop} (hz : n < sizeLine) (R : Nat → List V → Hp → Prop) (h0 : R 0 [] (upd H1 D (.lst [])))
    (hG : ∀ i acc H', R i acc H' → H' D = some (.lst acc) → G H')
    (hs : ∀ i acc x H' H2 Q, i < n → acc.length = i → R i acc H' → H' D = some (.lst acc) → Y i H' x H2 → (∀ y H3, H3 D = some (.lst acc) → R (i + 1) (acc ++ [y]) (upd H3 D (.lst (acc ++ [y]))) → Q y H3) → g x (wipe σ vs) H2 fun σ2 H3 => wipe σ2 vs = wipe σ vs ∧ te σ2 H3 Q)
    (hd : ∀ acc H', R n acc H' → H' D = some (.lst acc) → acc.length = n → Qd H') (hgm : ∀ x σ1 H2 (P Q : L2.St → Hp → Prop), (∀ σ2 H3, P σ2 H3 → Q σ2 H3) → g x σ1 H2 P → g x σ1 H2 Q) :
    ∃ W : Nat → Nat → Hp → Prop, (∃ m, W 0 m (upd H1 D (.lst []))) ∧ ∀ i m H, W i m H →
      (J.stop i H ∧ Qd H) ∨ (J.go i H ∧ ∃ Nx : Hp → Prop, (∀ H', Nx H' → ∃ m', m' < m ∧ W (i + 1) m' H') ∧ ∀ x H', J.yld i H x H' → g x (wipe σ vs) H' fun σ2 H2 => wipe σ2 vs = wipe σ vs ∧ tYes σ2 H2 fun b H3 =>
        if b = true then te σ2 H3 fun y H4 => ∃ acc, H4 D = some (.lst acc) ∧ acc.length < sizeLine ∧ Nx (upd H4 D (.lst (acc ++ [y]))) else Nx H3) := by
  refine lc_it w (fun i H' => ∃ acc, acc.length = i ∧ R i acc H' ∧ H' D = some (.lst acc)) ⟨[], rfl, h0, upd_same⟩ (fun i H' _ ⟨acc, _, r, h⟩ => hG i acc H' r h) ?_ (fun H' ⟨acc, e, r, h⟩ => hd acc H' r h e)
  rintro i x H' H2 hi ⟨acc, ha, r, hl⟩ y
  have q := hs i acc x H' H2 (fun y H4 => ∃ acc, H4 D = some (.lst acc) ∧ acc.length < sizeLine ∧ ∃ acc2, acc2.length = i + 1 ∧ R (i + 1) acc2 (upd H4 D (.lst (acc ++ [y]))) ∧ (upd H4 D (.lst (acc ++ [y]))) D = some (.lst acc2)) hi ha r hl y
    fun y H3 h3 r3 => ⟨acc, h3, by omega, acc ++ [y], by simp [ha], r3, upd_same⟩
  refine hgm _ _ _ _ _ (fun σ2 H3 h => ⟨h.1, ?_⟩) q
  exact iteT (B := ∃ acc, acc.length = i + 1 ∧ R (i + 1) acc H3 ∧ H3 D = some (.lst acc)) h.2
theorem gName_mono {i : Nat} (x : V) (σ1 : L2.St) (H2 : Hp) (P Q : L2.St → Hp → Prop) (h : ∀ σ2 H3, P σ2 H3 → Q σ2 H3) (q : gName i x σ1 H2 P) : gName i x σ1 H2 Q := h _ _ q
end
end Lw
set_option Elab.async false
set_option linter.all false
set_option maxRecDepth 100000
namespace Lw
open PySem PySem.Spec PyProof.Rows L2
def top (i : Nat) : Stmt := PySem.Challenge.pw_laterwright_k24_known_languages.main.body.getD i (.Pass ⟨0, 0, 0, 0⟩)
abbrev c_LaterError : Stmt := top 1
abbrev c_BadProgram : Stmt := top 2
abbrev s_BadProgram_init : Stmt := inClass (top 2) 0
abbrev c_BadKind : Stmt := top 3
abbrev s_BadKind_init : Stmt := inClass (top 3) 0
abbrev c_BadMost : Stmt := top 4
abbrev c_NotCode : Stmt := top 5
abbrev s_is_number : Stmt := top 18
abbrev s_is_kind : Stmt := top 19
abbrev s_has_code : Stmt := top 20
abbrev s_is_data : Stmt := top 21
abbrev s_is_head : Stmt := top 22
abbrev s_parts_of : Stmt := top 23
abbrev s_binders_of : Stmt := top 24
abbrev s_need_program : Stmt := top 25
abbrev s_size_of : Stmt := top 26
abbrev s_is_great : Stmt := top 27
abbrev s_rebuilt : Stmt := top 28
abbrev s_renumbered : Stmt := top 29
abbrev c_Name : Stmt := top 33
abbrev s_Name_init : Stmt := inClass (top 33) 0
abbrev s_with_name : Stmt := top 34
abbrev c_Check : Stmt := top 35
abbrev s_Check_init : Stmt := inClass (top 35) 0
abbrev s_Check_must : Stmt := inClass (top 35) 1
abbrev s_Check_look : Stmt := inClass (top 35) 2
abbrev s_Check_named : Stmt := inClass (top 35) 3
abbrev s_Check_inner : Stmt := inClass (top 35) 4
abbrev s_Check_kind_of : Stmt := inClass (top 35) 5
abbrev s_kind_of : Stmt := top 36
abbrev c_Function : Stmt := top 40
abbrev s_Function_init : Stmt := inClass (top 40) 0
abbrev s_with_names : Stmt := top 41
abbrev s_reckoned : Stmt := top 42
abbrev s_written_out : Stmt := top 43
abbrev c_Machine : Stmt := top 44
abbrev s_Machine_init : Stmt := inClass (top 44) 0
abbrev s_Machine_take : Stmt := inClass (top 44) 1
abbrev s_Machine_worth : Stmt := inClass (top 44) 2
abbrev s_Machine_code : Stmt := inClass (top 44) 3
abbrev s_Machine_go_on : Stmt := inClass (top 44) 4
abbrev s_Machine_done : Stmt := inClass (top 44) 5
abbrev s_Machine_call : Stmt := inClass (top 44) 6
abbrev s_shown : Stmt := top 45
abbrev s_need_most : Stmt := top 50
abbrev s_outcome : Stmt := top 51
abbrev s_need_code : Stmt := top 52
abbrev s_made : Stmt := top 53
abbrev s_levels : Stmt := top 54
abbrev s_law_taken : Stmt := top 56
abbrev s_law_alike : Stmt := top 57
abbrev s_law_parts : Stmt := top 58
abbrev s_law_many : Stmt := top 59
abbrev s_law_sum_of : Stmt := top 60
abbrev s_law_come_to : Stmt := top 61
abbrev s_law_folded : Stmt := top 62
abbrev s_law_makers : Stmt := top 63
abbrev s_law : Stmt := top 64
abbrev psTk : List Str := ["_law_row", "_law_many_here"]
abbrev nsTk : List Str := ["_law_row", "_law_many_here", "_law_found", "_law_cell"]
abbrev psAl : List Str := ["_law_one", "_law_other"]
abbrev nsAl : List Str := ["_law_one", "_law_other", "_law_k"]
end Lw
set_option Elab.async false
set_option linter.all false
set_option maxRecDepth 100000
set_option maxHeartbeats 4000000
namespace Lw
open PySem PySem.Spec PyProof.Rows L2 RZ
def GV (mg : Str → Option Value) (x : Str) (v : V) : Prop := ∃ u, mg x = some u ∧ RelV v u
theorem pe_gv {X : Cx} {x : Str} {v : V} {pos : Pos} (h : GV X.mg x v) (hg : Gl X x := by rfl) (hd : (x == ("__debug__" : Str)) = false := by decide) : PE X (.Name x pos) (tC v) := by
  obtain ⟨u, m, r⟩ := h
  exact pe_glob hg m r hd
def formTab : List (Str × Str) := [("num", "n"), ("name", "n"), ("plus", "ee"), ("times", "ee"), ("less", "ee"), ("if", "eee"), ("let", "nee"), ("fun", "nke"), ("rec", "nnkke"), ("call", "ee"), ("two", "ee"), ("first", "e"), ("second", "e"), ("quote", "e"), ("now", "e"), ("run", "e"), ("carry", "e")]
def formG (z : Str) : Option V := (formTab.lookup z).map V.str
theorem formG_w (w : Wd) : formG w.s = some (.str w.form) := by cases w <;> decide +kernel
def kindTab : List (Str × Int) := [("to", 2), ("two", 2), ("code", 1)]
def kindG (z : Str) : Option V := (kindTab.lookup z).map V.int
def laterTab : List (Str × Int) := [("quote", 1), ("now", -1), ("carry", -1)]
def laterG (z : Str) : Option V := (laterTab.lookup z).map V.int
/-- the constants of the modules, the built-in names that they leave alone -/
structure Cst (K : PySem.W.Frag) (w : World) (mg : Str → Option Value) (dF dK dL dB : Addr) : Prop where
  FORMS : GV mg "FORMS" (.ref dF)
  fF : KDc K w dF formG
  KINDS : GV mg "KINDS" (.ref dK)
  fK : KDc K w dK kindG
  LATER : GV mg "LATER" (.ref dL)
  fL : KDc K w dL laterG
  BOTH : GV mg "BOTH" (.ref dB)
  fB : ∀ H, SqT K H dB [.str "plus", .str "times", .str "less"]
  NUM : GV mg "NUM" (.str "num")
  TO : GV mg "TO" (.str "to")
  TWO : GV mg "TWO" (.str "two")
  CODE : GV mg "CODE" (.str "code")
  LIMIT : GV mg "LIMIT" (.int 1000)
  MIK : GV mg "MOST_IN_KIND" (.int 5)
  MP : GV mg "MOST_PARTS" (.int 400)
  MW : GV mg "MOST_WITHIN" (.int 40)
  ML : GV mg "MOST_LEVEL" (.int 3)
  zip : mg "zip" = none
  len : mg "len" = none
  isi : mg "isinstance" = none
  int : mg "int" = none
  bool : mg "bool" = none
  str : mg "str" = none
  tuple : mg "tuple" = none
  list : mg "list" = none
  dict : mg "dict" = none
  all : mg "all" = none
  any : mg "any" = none
  max : mg "max" = none
  range : mg "range" = none
def sN : V := .str "n"
def sK : V := .str "k"
def sE : V := .str "e"
def formL : Wd → List V
  | .num => [sN] | .name => [sN] | .plus => [sE, sE] | .times => [sE, sE] | .less => [sE, sE] | .ite => [sE, sE, sE] | .lt => [sN, sE, sE] | .fn => [sN, sK, sE] | .rc => [sN, sN, sK, sK, sE]
  | .call => [sE, sE] | .two => [sE, sE] | .fst => [sE] | .snd => [sE] | .quote => [sE] | .now => [sE] | .run => [sE] | .carry => [sE]
theorem signs_form (w : Wd) : signs w.form = formL w := by cases w <;> decide +kernel
theorem dNE : decide (sN = sE) = false := by decide +kernel
theorem dKE : decide (sK = sE) = false := by decide +kernel
theorem dNN : decide (sN = sN) = true := by decide +kernel
theorem dEN : decide (sE = sN) = false := by decide +kernel
theorem dKN : decide (sK = sN) = false := by decide +kernel
theorem dEE : decide (sE = sE) = true := by decide +kernel
theorem form_mem {w : Wd} {x : V} (h : x ∈ formL w) : x = sN ∨ x = sK ∨ x = sE := by
  have q : (formL w).all (fun x => decide (x = sN ∨ x = sK ∨ x = sE)) = true := by cases w <;> decide +kernel
  exact of_decide_eq_true (List.all_eq_true.mp q x h)
def pick (f ys : List V) : List V := ((f.zip ys).filter fun p => decide (p.1 = sE)).map (·.2)
theorem form_len {e : Ex} (h : e.ok = true) {kvs evs : List V} (h1 : kvs.length = e.ks.length) (h2 : evs.length = e.es.length) : (formL e.w).length = (e.ns.map V.int ++ (kvs ++ evs)).length := by
  obtain ⟨w, ns, ks, es⟩ := e
  rw [Ex.ok, Bool.and_eq_true, decide_eq_true_eq] at h
  obtain ⟨h, _⟩ := h
  simp only [Ex.w, Ex.ns, Ex.ks, Ex.es] at *
  simp only [List.length_append, List.length_map, h1, h2]
  cases w <;> simp only [Wd.ar, Prod.mk.injEq] at h <;> obtain ⟨a, b, c⟩ := h <;> simp only [formL, List.length_cons, List.length_nil] <;> omega
theorem len0 {α : Type} {l : List α} (h : l.length = 0) : l = [] := List.length_eq_zero_iff.mp h
theorem len1 {α : Type} {l : List α} (h : l.length = 1) : ∃ a, l = [a] := List.length_eq_one_iff.mp h
theorem len2 {α : Type} {l : List α} (h : l.length = 2) : ∃ a b, l = [a, b] := match l, h with | [a, b], _ => ⟨a, b, rfl⟩
theorem len3 {α : Type} {l : List α} (h : l.length = 3) : ∃ a b c, l = [a, b, c] := match l, h with | [a, b, c], _ => ⟨a, b, c, rfl⟩
theorem pick_form {e : Ex} (h : e.ok = true) {kvs evs : List V} (h1 : kvs.length = e.ks.length) (h2 : evs.length = e.es.length) : pick (formL e.w) (e.ns.map V.int ++ (kvs ++ evs)) = evs := by
  obtain ⟨w, ns, ks, es⟩ := e
  rw [Ex.ok, Bool.and_eq_true, decide_eq_true_eq] at h
  obtain ⟨h, _⟩ := h
  simp only [Ex.w, Ex.ns, Ex.ks, Ex.es] at *
  cases w <;> simp only [Wd.ar, Prod.mk.injEq] at h <;> obtain ⟨a, b, c⟩ := h <;> rw [b] at h1 <;> rw [c] at h2 <;>
    (first | (obtain rfl := len0 a) | (obtain ⟨n1, rfl⟩ := len1 a) | (obtain ⟨n1, n2, rfl⟩ := len2 a)) <;>
    (first | (obtain rfl := len0 h1) | (obtain ⟨k1, rfl⟩ := len1 h1) | (obtain ⟨k1, k2, rfl⟩ := len2 h1)) <;>
    (first | (obtain rfl := len0 h2) | (obtain ⟨e1, rfl⟩ := len1 h2) | (obtain ⟨e1, e2, rfl⟩ := len2 h2) | (obtain ⟨e1, e2, e3, rfl⟩ := len3 h2)) <;>
    simp [pick, formL, List.filter_cons, dNE, dKE, dEE]
/-! ### assoc lists -/
def look {α : Type} (l : List (Int × α)) (k : Int) : Option α := (l.find? fun p => decide (p.1 = k)).map (·.2)
def put {α : Type} (l : List (Int × α)) (k : Int) (v : α) : List (Int × α) :=
  if (l.any fun p => decide (p.1 = k)) = true then l.map (fun p => if p.1 = k then (p.1, v) else p) else l ++ [(k, v)]
theorem look_any {α : Type} (k : Int) : ∀ l : List (Int × α), (l.any fun p => decide (p.1 = k)) = (look l k).isSome
  | [] => rfl
  | p :: l => by
    rw [List.any_cons, look_any k l]
    unfold look
    rw [List.find?_cons]
    by_cases e : p.1 = k
    · simp [e]
    · simp [e]
theorem look_map {α : Type} (k j : Int) (y : α) : ∀ l : List (Int × α), look (l.map fun p => if p.1 = k then (p.1, y) else p) j = (look l j).map fun x => if j = k then y else x
  | [] => rfl
  | p :: l => by
    have ih := look_map k j y l
    unfold look at *
    rw [List.map_cons, List.find?_cons, List.find?_cons]
    by_cases e : p.1 = j
    · by_cases e2 : p.1 = k
      · subst e; subst e2; simp
      · have e3 : ¬ j = k := fun z => e2 (e.trans z)
        subst e
        simp [e2]
    · by_cases e2 : p.1 = k
      · have : ¬ k = j := fun z => e (e2.trans z)
        simp only [e2, if_true, this, decide_false]
        exact ih
      · simp only [e2, if_false, e, decide_false]
        exact ih
theorem look_snoc {α : Type} (k j : Int) (y : α) : ∀ l : List (Int × α), look l k = none → look (l ++ [(k, y)]) j = if j = k then some y else look l j
  | [], _ => by
    unfold look
    by_cases e : k = j
    · subst e; simp
    · have e3 : ¬ j = k := fun z => e z.symm
      simp [e, e3]
  | p :: l, h => by
    have h' : look l k = none := by
      unfold look at h ⊢
      rw [List.find?_cons] at h
      by_cases e : p.1 = k
      · simp [e] at h
      · simp only [e, decide_false] at h
        exact h
    have hp : ¬ p.1 = k := by
      intro e
      unfold look at h
      rw [List.find?_cons] at h
      simp [e] at h
    have ih := look_snoc k j y l h'
    unfold look at *
    rw [List.cons_append, List.find?_cons, List.find?_cons]
    by_cases e : p.1 = j
    · have : ¬ j = k := fun z => hp (e.trans z)
      simp [e, this]
    · simp only [e, decide_false]
      exact ih
theorem look_put {α : Type} (l : List (Int × α)) (k j : Int) (y : α) : look (put l k y) j = if j = k then some y else look l j := by
  unfold put
  by_cases h : (l.any fun p => decide (p.1 = k)) = true
  · rw [if_pos h, look_map]
    rw [look_any] at h
    by_cases e : j = k
    · subst e
      simp only [if_true]
      cases q : look l j with
      | none => rw [q] at h; cases h
      | some x => rfl
    · simp only [e, if_false]
      cases look l j <;> rfl
  · rw [if_neg h]
    rw [look_any] at h
    exact look_snoc k j y l (by cases q : look l k with | none => rfl | some x => rw [q] at h; exact absurd rfl h)
theorem put_len {α : Type} (l : List (Int × α)) (k : Int) (y : α) : (put l k y).length ≤ l.length + 1 := by
  unfold put
  split
  · simp
  · simp
/-- a dict of ints holds such things -/
abbrev DictAt {α : Type} (R : V → α → Prop) : List (Key × V) → List (Int × α) → Prop := Paired fun p q => p.1 = Sum.inl q.1 ∧ R p.2 q.2
section
variable {α : Type} {R R' : V → α → Prop}
theorem DictAt.length {kvs : List (Key × V)} {l : List (Int × α)} (h : DictAt R kvs l) : kvs.length = l.length := Paired.length h
theorem DictAt.mono : ∀ {kvs : List (Key × V)} {l : List (Int × α)}, DictAt R kvs l → (∀ v x, R v x → R' v x) → DictAt R' kvs l
  | _, _, .nil, _ => .nil
  | _, _, .cons r t, f => .cons ⟨r.1, f _ _ r.2⟩ (DictAt.mono t f)
theorem DictAt.look : ∀ {kvs : List (Key × V)} {l : List (Int × α)} {k : Int} {x : α}, DictAt R kvs l → Lw.look l k = some x → ∃ v, valV kvs (Sum.inl k : Key) = some v ∧ R v x
  | _, _, _, _, .nil, e => by cases e
  | p :: kvs, q :: l, k, x, .cons r t, e => by
    by_cases h : q.1 = k
    · have hp : p.1 = Sum.inl k := by rw [r.1, h]
      have : x = q.2 := by
        unfold Lw.look at e
        rw [List.find?_cons] at e
        simp only [h, decide_true, Option.map_some, Option.some.injEq] at e
        exact e.symm
      subst this
      exact ⟨p.2, valV_pos hp, r.2⟩
    · have hp : ¬ p.1 = Sum.inl k := fun z => h (Sum.inl.inj (r.1.symm.trans z))
      have e' : Lw.look l k = some x := by
        unfold Lw.look at e ⊢
        rw [List.find?_cons] at e
        simp only [h, decide_false] at e
        exact e
      obtain ⟨v, h1, h2⟩ := DictAt.look t e'
      exact ⟨v, by rw [valV_neg hp]; exact h1, h2⟩
theorem DictAt.any : ∀ {kvs : List (Key × V)} {l : List (Int × α)} {k : Int}, DictAt R kvs l → (kvs.any fun kv => decide (kv.1 = (Sum.inl k : Key))) = (l.any fun p => decide (p.1 = k))
  | _, _, _, .nil => rfl
  | p :: kvs, q :: l, k, .cons r t => by
    rw [List.any_cons, List.any_cons, DictAt.any t]
    congr 1
    rw [r.1]
    by_cases h : q.1 = k
    · rw [h]; simp
    · have : ¬ (Sum.inl q.1 : Key) = Sum.inl k := fun z => h (Sum.inl.inj z)
      rw [decide_eq_false h, decide_eq_false this]
theorem DictAt.none {kvs : List (Key × V)} {l : List (Int × α)} {k : Int} (h : DictAt R kvs l) (e : Lw.look l k = .none) : valV kvs (Sum.inl k : Key) = .none := by
  have q := h.any (k := k)
  rw [valV_any, look_any, e] at q
  cases z : valV kvs (Sum.inl k : Key) with
  | none => rfl
  | some v => rw [z] at q; cases q
theorem DictAt.append : ∀ {kvs kvs' : List (Key × V)} {l l' : List (Int × α)}, DictAt R kvs l → DictAt R kvs' l' → DictAt R (kvs ++ kvs') (l ++ l')
  | _, _, _, _, .nil, s => s
  | _, _, _, _, .cons r t, s => .cons r (DictAt.append t s)
theorem DictAt.map {k : Int} {v : V} {x : α} (hv : R v x) : ∀ {kvs : List (Key × V)} {l : List (Int × α)}, DictAt R kvs l → DictAt R (kvs.map fun kv => if kv.1 = (Sum.inl k : Key) then (kv.1, v) else kv) (l.map fun p => if p.1 = k then (p.1, x) else p)
  | _, _, .nil => .nil
  | p :: kvs, q :: l, .cons r t => by
    rw [List.map_cons, List.map_cons]
    refine .cons ?_ (DictAt.map hv t)
    by_cases h : q.1 = k
    · have hp : p.1 = Sum.inl k := by rw [r.1, h]
      rw [if_pos h, if_pos hp]
      exact ⟨r.1, hv⟩
    · have hp : ¬ p.1 = Sum.inl k := fun z => h (Sum.inl.inj (r.1.symm.trans z))
      rw [if_neg h, if_neg hp]
      exact r
theorem DictAt.put {kvs : List (Key × V)} {l : List (Int × α)} {k : Int} {v : V} {x : α} (h : DictAt R kvs l) (hv : R v x) : DictAt R (putK kvs (Sum.inl k : Key) v) (Lw.put l k x) := by
  unfold putK Lw.put
  rw [h.any]
  split
  · exact DictAt.map hv h
  · exact h.append (.cons ⟨rfl, hv⟩ .nil)
end
/-! ### types of data -/
def tyN : PyData → String
  | .none => "NoneType" | .bool _ => "bool" | .int _ => "int" | .str _ => "str" | .list _ => "list" | .tuple _ => "tuple" | .dict _ => "dict"
theorem ty_of {K : PySem.W.Frag} {H : Hp} {v : V} {d : PyData} (h : Dp K H v d) : TyX K H v (.type (tyN d)) := by
  cases h with
  | non => exact .base .non
  | bl b => exact .base (.bl b)
  | int i => exact .base (.int i)
  | str x => exact .base (.str x)
  | lst q _ =>
    rcases q with (q | ⟨o, q⟩) | ⟨o, its, n, hk, hc, _⟩
    · exact .base (.lst q)
    · exact .base (.frz q)
    · exact .kList hk hc
  | tup q _ =>
    rcases q with (q | ⟨o, q⟩) | ⟨o, its, n, hk, hc, _⟩
    · exact .base (.tup q)
    · exact .fTuple q
    · exact .kTuple hk hc
end Lw
set_option Elab.async false
set_option linter.all false
set_option maxRecDepth 100000
set_option maxHeartbeats 4000000
namespace Lw
open PySem PySem.Spec PyProof.Rows L2 RZ
/-! ### kinds as data -/
def Kd.dep : Kd → Nat
  | .num => 0 | .to a b => max a.dep b.dep + 1 | .two a b => max a.dep b.dep + 1 | .code a => a.dep + 1
theorem Kd.depth_eq : ∀ k : Kd, k.d.depth = k.dep
  | .num => rfl
  | .to a b => by simp [Kd.d, Kd.dep, PyData.depth, PyData.depthAll, a.depth_eq, b.depth_eq]
  | .two a b => by simp [Kd.d, Kd.dep, PyData.depth, PyData.depthAll, a.depth_eq, b.depth_eq]
  | .code a => by simp [Kd.d, Kd.dep, PyData.depth, PyData.depthAll, a.depth_eq]
theorem sok : PyData.strOk ("num" : Str) = true ∧ PyData.strOk ("to" : Str) = true ∧ PyData.strOk ("two" : Str) = true ∧ PyData.strOk ("code" : Str) = true := by decide +kernel
theorem Kd.lay : ∀ k : Kd, k.d.canLay0 = true
  | .num => sok.1
  | .to a b => by simp [Kd.d, PyData.canLay0, PyData.canLayAll0, a.lay, b.lay, sok]
  | .two a b => by simp [Kd.d, PyData.canLay0, PyData.canLayAll0, a.lay, b.lay, sok]
  | .code a => by simp [Kd.d, PyData.canLay0, PyData.canLayAll0, a.lay, sok]
theorem Kd.shaped {k : Kd} (h : k.dep ≤ 64) : SeqAt.shaped k.d = true := by
  unfold SeqAt.shaped
  rw [Kd.lay, Kd.depth_eq, decide_eq_true h]
  rfl
theorem num_shaped : SeqAt.shaped (.str ("num" : Str)) = true := Kd.shaped (k := .num) (by decide)
theorem sne : (("to" : Str) == "two") = false ∧ (("to" : Str) == "code") = false ∧ (("two" : Str) == "to") = false ∧ (("two" : Str) == "code") = false ∧ (("code" : Str) == "to") = false ∧ (("code" : Str) == "two") = false := by decide +kernel
theorem Kd.eqv : ∀ a b : Kd, PyData.eqv a.d b.d = decide (a = b)
  | .num, .num => by simp [Kd.d, PyData.eqv]
  | .num, .to _ _ => by simp [Kd.d, PyData.eqv]
  | .num, .two _ _ => by simp [Kd.d, PyData.eqv]
  | .num, .code _ => by simp [Kd.d, PyData.eqv]
  | .to _ _, .num => by simp [Kd.d, PyData.eqv]
  | .two _ _, .num => by simp [Kd.d, PyData.eqv]
  | .code _, .num => by simp [Kd.d, PyData.eqv]
  | .to a b, .to c d => by simp [Kd.d, PyData.eqv, PyData.eqvAll, a.eqv c, b.eqv d]
  | .two a b, .two c d => by simp [Kd.d, PyData.eqv, PyData.eqvAll, a.eqv c, b.eqv d]
  | .code a, .code c => by simp [Kd.d, PyData.eqv, PyData.eqvAll, a.eqv c]
  | .to a b, .two c d => by simp [Kd.d, PyData.eqv, PyData.eqvAll, sne]
  | .to a b, .code c => by simp [Kd.d, PyData.eqv, PyData.eqvAll, sne]
  | .two a b, .to c d => by simp [Kd.d, PyData.eqv, PyData.eqvAll, sne]
  | .two a b, .code c => by simp [Kd.d, PyData.eqv, PyData.eqvAll, sne]
  | .code a, .to c d => by simp [Kd.d, PyData.eqv, PyData.eqvAll, sne]
  | .code a, .two c d => by simp [Kd.d, PyData.eqv, PyData.eqvAll, sne]
def Kd.w : Kd → Str | .num => "num" | .to _ _ => "to" | .two _ _ => "two" | .code _ => "code"
def Kd.args : Kd → List Kd | .num => [] | .to a b => [a, b] | .two a b => [a, b] | .code a => [a]
theorem kd_of {K : PySem.W.Frag} {H : Hp} {k : Kd} {v : V} (h : Dp K H v k.d) (n : k ≠ .num) : ∃ p vs, v = .ref p ∧ SqT K H p (.str k.w :: vs) ∧ DpAll K H vs (k.args.map Kd.d) := by
  cases k with
  | num => exact absurd rfl n
  | to a b => cases h with | tup q r => cases r with | cons r1 r2 => cases r1; exact ⟨_, _, rfl, q, r2⟩
  | two a b => cases h with | tup q r => cases r with | cons r1 r2 => cases r1; exact ⟨_, _, rfl, q, r2⟩
  | code a => cases h with | tup q r => cases r with | cons r1 r2 => cases r1; exact ⟨_, _, rfl, q, r2⟩
def Kd.hasCode : Kd → Bool
  | .num => false | .to a b => a.hasCode || b.hasCode | .two a b => a.hasCode || b.hasCode | .code _ => true
theorem Kd.hasCode_eq {k : Kd} (n : k ≠ .num) : k.hasCode = (decide (k.w = "code") || (k.args.map Kd.hasCode).any id) := by
  cases k with
  | num => exact absurd rfl n
  | to a b => rw [show decide ((Kd.to a b).w = "code") = false from by show decide (("to" : Str) = "code") = false; decide +kernel]; simp [Kd.hasCode, Kd.args]
  | two a b => rw [show decide ((Kd.two a b).w = "code") = false from by show decide (("two" : Str) = "code") = false; decide +kernel]; simp [Kd.hasCode, Kd.args]
  | code a => rw [show decide ((Kd.code a).w = "code") = true from by show decide (("code" : Str) = "code") = true; decide +kernel]; rfl
theorem Kd.args_dep {k a : Kd} (h : a ∈ k.args) : a.dep < k.dep := by
  cases k <;> simp [Kd.args] at h
  · rcases h with rfl | rfl <;> simp only [Kd.dep] <;> omega
  · rcases h with rfl | rfl <;> simp only [Kd.dep] <;> omega
  · subst h; simp only [Kd.dep]; omega
def Kd.isData : Kd → Bool
  | .num => true | .two a b => a.isData && b.isData | _ => false
/-! ### heads -/
structure NodeV (K : PySem.W.Frag) (H : Hp) (w : Wd) (ns kvs evs : List V) (a : Addr) : Prop where
  sq : SqT K H a (.str w.s :: (ns ++ (kvs ++ evs)))
  ar : (ns.length, kvs.length, evs.length) = w.ar
theorem NodeV.tsame {K : PySem.W.Frag} {H H' : Hp} {w : Wd} {ns kvs evs : List V} {a : Addr} (n : NodeV K H w ns kvs evs a) (s : TSame H H') : NodeV K H' w ns kvs evs a := ⟨s.seqT n.sq, n.ar⟩
theorem NodeAt.v {K : PySem.W.Frag} {H : Hp} {e : Ex} {a : Addr} {kvs evs : List V} (n : NodeAt K H e a kvs evs) (ok : e.ok = true) : NodeV K H e.w (e.ns.map V.int) kvs evs a := by
  refine ⟨n.sq, ?_⟩
  have l1 : kvs.length = e.ks.length := by rw [DpAll.length n.ks, List.length_map]
  have l2 : evs.length = e.es.length := by rw [DpAll.length n.es, Ex.dL_eq, List.length_map]
  rw [l1, l2, List.length_map]
  cases e with
  | node w ns ks es =>
    rw [Ex.ok, Bool.and_eq_true, decide_eq_true_eq] at ok
    exact ok.1
theorem nodev_len {w : Wd} {ns kvs evs : List V} (h : (ns.length, kvs.length, evs.length) = w.ar) : (formL w).length = (ns ++ (kvs ++ evs)).length := by
  simp only [List.length_append]
  cases w <;> simp only [Wd.ar, Prod.mk.injEq] at h <;> obtain ⟨a, b, c⟩ := h <;> simp only [formL, List.length_cons, List.length_nil] <;> omega
theorem nodev_pick {w : Wd} {ns kvs evs : List V} (h : (ns.length, kvs.length, evs.length) = w.ar) : pick (formL w) (ns ++ (kvs ++ evs)) = evs := by
  cases w <;> simp only [Wd.ar, Prod.mk.injEq] at h <;> obtain ⟨a, b, c⟩ := h <;>
    (first | (obtain rfl := len0 a) | (obtain ⟨n1, rfl⟩ := len1 a) | (obtain ⟨n1, n2, rfl⟩ := len2 a)) <;>
    (first | (obtain rfl := len0 b) | (obtain ⟨k1, rfl⟩ := len1 b) | (obtain ⟨k1, k2, rfl⟩ := len2 b)) <;>
    (first | (obtain rfl := len0 c) | (obtain ⟨e1, rfl⟩ := len1 c) | (obtain ⟨e1, e2, rfl⟩ := len2 c) | (obtain ⟨e1, e2, e3, rfl⟩ := len3 c)) <;>
    simp [pick, formL, List.filter_cons, dNE, dKE, dEE]
def Wd.binds : Wd → Bool | .lt => true | .fn => true | .rc => true | _ => false
def bindV (w : Wd) (ns : List V) : List V := if w.binds then ns else []
theorem cut1 {x : V} {L : List V} : cutV (x :: L) (some 1) none = L := by
  unfold cutV
  rw [show HT.sIx (x :: L).length 0 (some 1) = 1 from (HT.sIx_nat _ _ 1).trans (by simp), HT.sIx_none]
  simp
theorem cut1_no {x : V} {L : List V} : ¬ (HT.sIx (x :: L).length 0 (some 1) = 0 ∧ HT.sIx (x :: L).length (x :: L).length none = (x :: L).length) := by
  rw [show HT.sIx (x :: L).length 0 (some 1) = 1 from (HT.sIx_nat _ _ 1).trans (by simp)]
  simp
theorem cut_no {x : V} {L : List V} {P : Prop} (hL : L ≠ []) : ¬ (HT.sIx (x :: L).length 0 (some 1) = 0 ∧ P) := by
  rw [show HT.sIx (x :: L).length 0 (some 1) = 1 from (HT.sIx_nat _ _ 1).trans (by simp)]
  exact fun h => absurd h.1 (by decide)
def spParts (K : PySem.W.Frag) : Sp := fun vs H Q _ => ∃ (w : Wd) (a : Addr) (ns kvs evs : List V), vs = [.ref a] ∧ NodeV K H w ns kvs evs a ∧
  ∀ H' p, Same H H' → H p = none → H' p = some (.lst evs) → Q (.ref p) H'
def spBinders (K : PySem.W.Frag) : Sp := fun vs H Q _ => ∃ (w : Wd) (a : Addr) (ns kvs evs : List V), vs = [.ref a] ∧ NodeV K H w ns kvs evs a ∧
  ∀ H' p, Same H H' → H p = none → H' p = some (.tup (bindV w ns)) → Q (.ref p) H'
def isIntD : PyData → Bool | .int _ => true | .bool _ => true | _ => false
def isBoolD : PyData → Bool | .bool _ => true | _ => false
def isNum (d : PyData) (lo hi : Int) : Bool := match d with | .int i => decide (lo ≤ i) && decide (i ≤ hi) | _ => false
def isStrD : PyData → Bool | .str _ => true | _ => false
def isTupD : PyData → Bool | .tuple _ => true | _ => false
def isLstD : PyData → Bool | .list _ => true | _ => false
theorem kit_int0 : kitB "NoneType" "int" = some false ∧ kitB "bool" "int" = some true ∧ kitB "int" "int" = some true ∧ kitB "str" "int" = some false ∧ kitB "list" "int" = some false ∧ kitB "tuple" "int" = some false ∧ kitB "dict" "int" = some false := by decide +kernel
theorem kit_int (d : PyData) : kitB (tyN d) "int" = some (isIntD d) := by
  obtain ⟨h1, h2, h3, h4, h5, h6, h7⟩ := kit_int0
  cases d
  · exact h1
  · exact h2
  · exact h3
  · exact h4
  · exact h5
  · exact h6
  · exact h7
theorem kit_bool0 : kitB "NoneType" "bool" = some false ∧ kitB "bool" "bool" = some true ∧ kitB "int" "bool" = some false ∧ kitB "str" "bool" = some false ∧ kitB "list" "bool" = some false ∧ kitB "tuple" "bool" = some false ∧ kitB "dict" "bool" = some false := by decide +kernel
theorem kit_bool (d : PyData) : kitB (tyN d) "bool" = some (isBoolD d) := by
  obtain ⟨h1, h2, h3, h4, h5, h6, h7⟩ := kit_bool0
  cases d
  · exact h1
  · exact h2
  · exact h3
  · exact h4
  · exact h5
  · exact h6
  · exact h7
theorem kit_str0 : kitB "NoneType" "str" = some false ∧ kitB "bool" "str" = some false ∧ kitB "int" "str" = some false ∧ kitB "str" "str" = some true ∧ kitB "list" "str" = some false ∧ kitB "tuple" "str" = some false ∧ kitB "dict" "str" = some false := by decide +kernel
theorem kit_str (d : PyData) : kitB (tyN d) "str" = some (isStrD d) := by
  obtain ⟨h1, h2, h3, h4, h5, h6, h7⟩ := kit_str0
  cases d
  · exact h1
  · exact h2
  · exact h3
  · exact h4
  · exact h5
  · exact h6
  · exact h7
theorem kit_tuple0 : kitB "NoneType" "tuple" = some false ∧ kitB "bool" "tuple" = some false ∧ kitB "int" "tuple" = some false ∧ kitB "str" "tuple" = some false ∧ kitB "list" "tuple" = some false ∧ kitB "tuple" "tuple" = some true ∧ kitB "dict" "tuple" = some false := by decide +kernel
theorem kit_tuple (d : PyData) : kitB (tyN d) "tuple" = some (isTupD d) := by
  obtain ⟨h1, h2, h3, h4, h5, h6, h7⟩ := kit_tuple0
  cases d
  · exact h1
  · exact h2
  · exact h3
  · exact h4
  · exact h5
  · exact h6
  · exact h7
theorem kit_list0 : kitB "NoneType" "list" = some false ∧ kitB "bool" "list" = some false ∧ kitB "int" "list" = some false ∧ kitB "str" "list" = some false ∧ kitB "list" "list" = some true ∧ kitB "tuple" "list" = some false ∧ kitB "dict" "list" = some false := by decide +kernel
theorem kit_list (d : PyData) : kitB (tyN d) "list" = some (isLstD d) := by
  obtain ⟨h1, h2, h3, h4, h5, h6, h7⟩ := kit_list0
  cases d
  · exact h1
  · exact h2
  · exact h3
  · exact h4
  · exact h5
  · exact h6
  · exact h7
def spIsNumber (K : PySem.W.Frag) : Sp := fun vs H Q _ => ∃ (v : V) (d : PyData) (lo hi : Int), vs = [v, .int lo, .int hi] ∧ Dp K H v d ∧ Q (.bl (isNum d lo hi)) H
def spHasCode (K : PySem.W.Frag) (n : Nat) : Sp := fun vs H Q _ => ∃ (v : V) (k : Kd), vs = [v] ∧ Dp K H v k.d ∧ k.dep < n ∧ k.dep ≤ 64 ∧ ∀ H', Same H H' → Q (.bl k.hasCode) H'
def spIsData (K : PySem.W.Frag) (n : Nat) : Sp := fun vs H Q _ => ∃ (v : V) (k : Kd), vs = [v] ∧ Dp K H v k.d ∧ k.dep < n ∧ k.dep ≤ 64 ∧ Q (.bl k.isData) H
section
variable {P : Program} {w : World} {K : PySem.W.Frag} {mg : Str → Option Value} {base : Heap} {dF dK dL dB : Addr}
theorem sc_parts_of : FnScope ["e", "sort", "inner"] ["e"] (defScope s_parts_of) := ⟨rfl, rfl, rfl, by decide +kernel, rfl, by decide +kernel, by decide +kernel⟩
theorem ok_parts_of {f : Addr} {fd : FuncData} (F : Fun K "parts_of" "parts_of" s_parts_of f fd) (C : Cst K w mg dF dK dL dB) : FnOk P w K mg base CX0 1 f fd ["e"] (spParts K) := by
  refine F.ok sc_parts_of (fun vs H Q E h => ?_) (fun cdv A outer s H vs Q E hr h => ?_)
  · obtain ⟨w, a, ns, kvs, evs, rfl, _⟩ := h
    rfl
  · obtain ⟨w, a, ns, kvs, evs, rfl, ⟨hsq, ar⟩, k⟩ := h
    refine ⟨_, pss_one (ps_ret (pe_lc (own := [("sort", 1), ("inner", 2)]) (g := gTup K 2 (gCons (gName 1) (gCons (gName 2) gNil))) rfl sc_parts_of.nd
      (pi_zipG (by rfl) C.zip (pa_cons (pe_ix (ix_kdc C.fF) (pe_gv C.FORMS) (pe_ix ix_tup (pv 0) pe_int (fun _ _ => rfl)) (fun _ _ => rfl)) (pa_cons (pe_slice sl_tup (pv 0) (po_some pe_int) po_none) pa_nil)))
      (blkOk_by (N := ["e", "sort", "inner"]) (sc := defScope s_parts_of) (by decide +kernel))
      (fun _ _ _ _ _ => pg_tup rfl (pgs_cons (pg_name (i := 1) sc_parts_of.nd rfl (Or.inl rfl)) (pgs_cons (pg_name (i := 2) sc_parts_of.nd rfl (Or.inl rfl)) pgs_nil)))
      (fun _ _ _ _ _ => pts_one (pt_cmpR op_eq (pv 1) pe_str (nomark _)))
      (fun _ _ _ _ _ => pv 2))), ?_⟩
    have hl := nodev_len ar
    have hpk := nodev_pick ar
    have l5 : (formL w).length ≤ 5 := by cases w <;> decide
    generalize hL : ns ++ (kvs ++ evs) = L at *
    have l6 : 1 ≤ L.length := by rw [← hl]; cases w <;> decide
    have ecut : cutV (.str w.s :: L) (some 1) none = L := by
      unfold cutV
      rw [show HT.sIx (V.str w.s :: L).length 0 (some 1) = 1 from (HT.sIx_nat _ _ 1).trans (by simp), HT.sIx_none]
      simp
    refine ⟨_, rfl, _, _, _, _, rfl, rfl, hsq, at_of (j := 0) rfl rfl, _, _, rfl, rfl, formG_w w, ?_⟩
    refine ⟨_, rfl, _, rfl, _, _, rfl, hsq, ?_, fun p hp => ?_⟩
    · rw [show HT.sIx (V.str w.s :: L).length 0 (some 1) = 1 from (HT.sIx_nat _ _ 1).trans (by simp)]
      simp
    rw [ecut]
    refine ⟨.str w.form, .tup p, formL w, L, rfl, (signs_form w).symm, SqT.of upd_same, fun D hD => ?_⟩
    have nD : H D = none := upd_no hD
    have sD : Same H (upd (upd H p (.tup L)) D (.lst [])) := Same.over (Same.new hp) nD
    refine lc_it (walk_zipG (xs := formL w) (ys := L) (n := L.length) (by omega)) (fun i H' => Same H H' ∧ SqT K H' p L ∧ H' D = some (.lst (((((formL w).zip L).take i).filter fun p => decide (p.1 = sE)).map (·.2)))) ?_ ?_ ?_ ?_
    · refine ⟨sD, SqT.of ?_, by rw [upd_same]; rfl⟩
      rw [upd_ne (upd_no_ne hD).symm, upd_same]
    · rintro i H' _ ⟨_, q, _⟩
      exact ⟨(signs_form w).symm, q⟩
    · rintro i v H1 H2 hi ⟨s1, q, hd1⟩ ⟨T, x, y, rfl, hT, rfl, hx, hy⟩
      have s2 : Same H1 (upd H1 T (.tup [x, y])) := Same.new hT
      have hz : ((formL w).zip L)[i]? = some (x, y) := by rw [List.getElem?_zip_eq_some]; exact ⟨hx, hy⟩
      have ht : ((formL w).zip L).take (i + 1) = ((formL w).zip L).take i ++ [(x, y)] := by rw [List.take_succ, hz]; rfl
      refine ⟨T, _, rfl, SqT.of upd_same, rfl, _, _, rfl, _, _, rfl, rfl, rfl, _, rfl, ?_, _, rfl, ?_⟩
      · rcases form_mem (List.mem_of_getElem? hx) with rfl | rfl | rfl <;> rfl
      refine ite2 (fun hc => ?_) (fun hc => ?_)
      · refine ⟨_, rfl, _, s2 _ _ hd1, ?_, ?_⟩
        · have := List.length_filter_le (fun p : V × V => decide (p.1 = sE)) (((formL w).zip L).take i)
          rw [List.length_map]
          have : (((formL w).zip L).take i).length ≤ 5 := by rw [List.length_take, List.length_zip]; omega
          exact small1000 (by omega)
        · refine ⟨Same.over (s1.trans s2) nD, (TSame.mut (s2 _ _ hd1) trivial).seqT (Same.seqT s2 q), ?_⟩
          rw [upd_same, ht, List.filter_append, List.map_append, List.filter_cons, if_pos (show decide ((x, y).1 = sE) = true from hc)]
          rfl
      · refine ⟨s1.trans s2, Same.seqT s2 q, ?_⟩
        rw [s2 _ _ hd1, ht, List.filter_append, List.map_append, List.filter_cons, if_neg (show ¬ decide ((x, y).1 = sE) = true from hc)]
        simp
    · rintro H' ⟨s1, q, hd1⟩
      refine k H' D s1 nD ?_
      rw [hd1, List.take_of_length_le (by rw [List.length_zip]; omega)]
      exact congrArg (fun l => some (HO.lst l)) hpk
theorem sc_is_number : FnScope ["thing", "low", "high"] ["thing", "low", "high"] (defScope s_is_number) := ⟨rfl, rfl, rfl, by decide +kernel, rfl, by decide +kernel, by decide +kernel⟩
theorem ok_is_number {f : Addr} {fd : FuncData} (F : Fun K "is_number" "is_number" s_is_number f fd) (C : Cst K w mg dF dK dL dB) : FnOk P w K mg base CX0 1 f fd ["thing", "low", "high"] (spIsNumber K) := by
  refine F.ok sc_is_number (fun vs H Q E h => ?_) (fun cdv A outer s H vs Q E hr h => ?_)
  · obtain ⟨v, d, lo, hi, rfl, _⟩ := h
    rfl
  · obtain ⟨v, d, lo, hi, rfl, hd, k⟩ := h
    refine ⟨_, pss_one (ps_ret (pe_and (pe_callB call_isi (by rfl) C.isi boot_isinstance (pa_cons (pv 0) (pa_cons (pe_bltn (v := .ty "int") (by rfl) C.int boot_int rfl) pa_nil)))
      (pe_and (pe_not (pe_callB call_isi (by rfl) C.isi boot_isinstance (pa_cons (pv 0) (pa_cons (pe_bltn (v := .ty "bool") (by rfl) C.bool boot_bool rfl) pa_nil))))
      (pe_one (pe_chain op_le op_le (pv 1) (pv 0) (pv 2)))))), ?_⟩
    refine ⟨_, rfl, _, _, _, _, _, rfl, .ty "int", ty_of hd, kit_ty (kit_int d), _, rfl, ?_⟩
    cases d with
    | int i =>
      cases hd
      refine iteT ⟨_, rfl, _, _, _, _, _, rfl, .ty "bool", ty_of (.int i), kit_ty (kit_bool (.int i)), _, rfl, _, rfl, iteT ?_⟩
      refine ⟨_, rfl, _, rfl, _, _, rfl, rfl, _, rfl, ite2 (fun h => ⟨_, rfl, _, _, rfl, rfl, ?_⟩) (fun h => ?_)⟩
      · rw [isNum, h, Bool.true_and] at k
        exact k
      · rw [isNum, Bool.eq_false_iff.mpr h, Bool.false_and] at k
        exact k
    | bool b =>
      cases hd
      refine iteT ⟨_, rfl, _, _, _, _, _, rfl, .ty "bool", ty_of (.bl b), kit_ty (kit_bool (.bool b)), _, rfl, _, rfl, iteF k⟩
    | none => exact iteF k
    | str x => exact iteF k
    | list x => exact iteF k
    | tuple x => exact iteF k
    | dict x => exact iteF k
theorem sc_has_code : FnScope ["kind", "inner"] ["kind"] (defScope s_has_code) := ⟨rfl, rfl, rfl, by decide +kernel, rfl, by decide +kernel, by decide +kernel⟩
theorem ok_has_code (a : At0 K mg "has_code" "has_code" s_has_code ["kind"]) (C : Cst K w mg dF dK dL dB) : ∀ n, Dfn P w K mg base "has_code" n ["kind"] (spHasCode K n)
  | 0 => .never a fun vs H Q E ⟨v, k, _, _, h, _⟩ => absurd h (Nat.not_lt_zero _)
  | n + 1 => .of a fun f fd F => by
    have G := ok_has_code a C n
    refine F.ok sc_has_code (fun vs H Q E h => ?_) (fun cdv A outer s H vs Q E hr h => ?_)
    · obtain ⟨v, k, rfl, _⟩ := h
      rfl
    · obtain ⟨v, kd, rfl, hd, hn, h64, k⟩ := h
      refine ⟨_, pss_one (ps_ret (pe_and (pe_cmpR (op_neD hr.units) (pv 0) (pe_gv C.NUM) (nomark _)) (pe_one (pe_or (pe_cmpR op_eq (pe_ix ix_tup (pv 0) pe_int (fun _ _ => rfl)) (pe_gv C.CODE) (nomark _))
        (pe_one (pe_callB (cr_any rfl) (by rfl) C.any boot_any (pa_cons (pe_lc (own := [("inner", 1)]) (g := gName 1) (tt := tYes) rfl sc_has_code.nd (pi_tup (pe_slice sl_tup (pv 0) (po_some pe_int) po_none))
          (blkOk_by (N := ["kind", "inner"]) (sc := defScope s_has_code) (by decide +kernel)) (fun _ _ _ _ _ => pg_name (i := 1) sc_has_code.nd rfl (Or.inl rfl)) (fun _ _ _ _ _ => pts_nil)
          (fun _ _ _ _ _ => pe_callD G hr (by rfl) (pa_cons (pv 1) pa_nil))) pa_nil))))))), ?_⟩
      refine ⟨_, rfl, kd.d, _, hd, .str _, Kd.shaped h64, num_shaped, _, rfl, ?_⟩
      rw [show PyData.eqv kd.d (.str "num") = decide (kd = .num) from Kd.eqv kd .num]
      by_cases e : kd = .num
      · subst e
        exact iteF (k H (Same.refl H))
      · rw [decide_eq_false e]
        obtain ⟨p, vs, rfl, hq, ha⟩ := kd_of hd e
        refine iteT ⟨_, rfl, _, _, _, _, rfl, rfl, hq, at_of (j := 0) rfl rfl, rfl, _, rfl, ?_⟩
        refine ite2 (fun hc => ?_) (fun hc => ?_)
        · rw [Kd.hasCode_eq e] at k
          have hw : kd.w = "code" := by simpa using hc
          rw [hw] at k
          exact k H (Same.refl H)
        · have hw : ¬ kd.w = "code" := by simpa using hc
          refine ⟨_, rfl, _, rfl, _, _, rfl, hq, cut1_no, fun t ht => ?_⟩
          rw [cut1]
          refine ⟨t, rfl, ⟨vs, SqT.of upd_same⟩, fun D hD => ?_⟩
          have nD : H D = none := upd_no hD
          have lv : vs.length = kd.args.length := by rw [DpAll.length ha, List.length_map]
          have l2 : kd.args.length ≤ 2 := by cases kd <;> simp [Kd.args]
          refine lc_gen walk_tup ((kd.args.map Kd.hasCode).map V.bl) (by simp [lv]) (small1000 (by simp; omega)) (fun i H' => Same H H' ∧ SqT K H' t vs ∧ ∃ l, H' D = some (.lst l)) ?_ (fun i H' r => r.2.1) ?_ ?_ ?_ gName_mono
          · refine ⟨Same.over (Same.new ht) nD, SqT.of ?_, _, upd_same⟩
            rw [upd_ne (upd_no_ne hD).symm, upd_same]
          · rintro i H' l ⟨s1, q, l0, hl0⟩
            exact ⟨Same.over s1 nD, (TSame.mut hl0 trivial).seqT q, _, upd_same⟩
          · rintro i x y H' H2 Q2 hi hy ⟨s1, q, l0, hl0⟩ hl ⟨rfl, hx⟩ k2
            obtain ⟨d, hd1, hd2⟩ := DpAll.get ha hx
            rw [List.getElem?_map] at hd1 hy
            cases ea : kd.args[i]? with
            | none => rw [ea] at hd1; cases hd1
            | some ka =>
              rw [ea] at hd1
              cases hd1
              rw [List.getElem?_map, ea] at hy
              cases hy
              have hdep := Kd.args_dep (List.mem_of_getElem? ea)
              refine ⟨rfl, _, rfl, x, ka, rfl, Dp.same s1 _ _ hd2, by omega, by omega, fun H3 s3 => k2 H3 ⟨s1.trans s3, Same.seqT s3 q, _, s3 _ _ hl0⟩ (s3 _ _ hl)⟩
          · rintro H' ⟨s1, q, _⟩ hl
            refine ⟨D, kd.args.map Kd.hasCode, rfl, SqL.of hl, ?_⟩
            rw [Kd.hasCode_eq e, decide_eq_false hw, Bool.false_or] at k
            exact k H' s1
theorem sc_is_data : FnScope ["kind"] ["kind"] (defScope s_is_data) := ⟨rfl, rfl, rfl, by decide +kernel, rfl, by decide +kernel, by decide +kernel⟩
theorem ok_is_data (a : At0 K mg "is_data" "is_data" s_is_data ["kind"]) (C : Cst K w mg dF dK dL dB) : ∀ n, Dfn P w K mg base "is_data" n ["kind"] (spIsData K n)
  | 0 => .never a fun vs H Q E ⟨v, k, _, _, h, _⟩ => absurd h (Nat.not_lt_zero _)
  | n + 1 => .of a fun f fd F => by
    have G := ok_is_data a C n
    refine F.ok sc_is_data (fun vs H Q E h => ?_) (fun cdv A outer s H vs Q E hr h => ?_)
    · obtain ⟨v, k, rfl, _⟩ := h
      rfl
    · obtain ⟨v, kd, rfl, hd, hn, h64, k⟩ := h
      refine ⟨_, pss_one (ps_ret (pe_or (pe_cmpR (op_eqD hr.units) (pv 0) (pe_gv C.NUM) (nomark _)) (pe_one (pe_and (pe_cmpR op_eq (pe_ix ix_tup (pv 0) pe_int (fun _ _ => rfl)) (pe_gv C.TWO) (nomark _))
        (pe_and (pe_callD G hr (by rfl) (pa_cons (pe_ix ix_tup (pv 0) pe_int (fun _ _ => rfl)) pa_nil)) (pe_one (pe_callD G hr (by rfl) (pa_cons (pe_ix ix_tup (pv 0) pe_int (fun _ _ => rfl)) pa_nil)))))))), ?_⟩
      refine ⟨_, rfl, kd.d, _, hd, .str _, Kd.shaped h64, num_shaped, _, rfl, ?_⟩
      rw [show PyData.eqv kd.d (.str "num") = decide (kd = .num) from Kd.eqv kd .num]
      by_cases e : kd = .num
      · subst e
        exact iteT k
      · rw [decide_eq_false e]
        obtain ⟨p, vs, rfl, hq, ha⟩ := kd_of hd e
        refine iteF ⟨_, rfl, _, _, _, _, rfl, rfl, hq, at_of (j := 0) rfl rfl, rfl, _, rfl, ?_⟩
        refine ite2 (fun hc => ?_) (fun hc => ?_)
        · have hw : kd.w = "two" := by simpa using hc
          cases kd with
          | num => exact absurd rfl e
          | to a b => exact absurd hw (by show ¬ (("to" : Str) = "two"); decide +kernel)
          | code a => exact absurd hw (by show ¬ (("code" : Str) = "two"); decide +kernel)
          | two a b =>
            cases ha with
            | cons h1 h2 =>
              cases h2 with
              | cons h2 h3 =>
                cases h3
                have d1 : a.dep < (Kd.two a b).dep := Kd.args_dep (by simp [Kd.args])
                have d2 : b.dep < (Kd.two a b).dep := Kd.args_dep (by simp [Kd.args])
                refine ⟨_, rfl, _, _, _, _, rfl, rfl, hq, at_of (j := 1) rfl rfl, _, a, rfl, h1, by omega, by omega, _, rfl, ?_⟩
                rw [Kd.isData] at k
                refine ite2 (fun hc => ?_) (fun hc => ?_)
                · rw [hc, Bool.true_and] at k
                  exact ⟨_, rfl, _, _, _, _, rfl, rfl, hq, at_of (j := 2) rfl rfl, _, b, rfl, h2, by omega, by omega, k⟩
                · rw [Bool.eq_false_iff.mpr hc, Bool.false_and] at k
                  exact k
        · have hw : ¬ kd.w = "two" := by simpa using hc
          cases kd with
          | num => exact absurd rfl e
          | to a b => exact k
          | code a => exact k
          | two a b => exact absurd rfl hw
theorem sc_binders_of : FnScope ["e"] ["e"] (defScope s_binders_of) := ⟨rfl, rfl, rfl, by decide +kernel, rfl, by decide +kernel, by decide +kernel⟩
theorem ok_binders_of {f : Addr} {fd : FuncData} (F : Fun K "binders_of" "binders_of" s_binders_of f fd) : FnOk P w K mg base CX0 1 f fd ["e"] (spBinders K) := by
  refine F.ok sc_binders_of (fun vs H Q E h => ?_) (fun cdv A outer s H vs Q E hr h => ?_)
  · obtain ⟨w, a, ns, kvs, evs, rfl, _⟩ := h
    rfl
  · obtain ⟨w, a, ns, kvs, evs, rfl, ⟨hsq, ar⟩, k⟩ := h
    refine ⟨_, pss_one (ps_ret (pe_ifExp (pt_cmpR op_eq (pe_ix ix_tup (pv 0) pe_int (fun _ _ => rfl)) pe_str (nomark _)) (pe_slice sl_tup (pv 0) (po_some pe_int) (po_some pe_int))
      (pe_ifExp (pt_cmpR op_in_seq (pe_ix ix_tup (pv 0) pe_int (fun _ _ => rfl)) (pe_tup (pa_cons pe_str (pa_cons pe_str pa_nil))) (by rfl)) (pe_slice sl_tup (pv 0) (po_some pe_int) (po_some pe_int)) (pe_tup pa_nil)))), ?_⟩
    refine ⟨_, rfl, _, _, _, _, rfl, rfl, hsq, at_of (j := 0) rfl rfl, rfl, _, rfl, ?_⟩
    refine ite2 (fun hc => ?_) (fun hc => ?_)
    · have hw : w = .rc := by
        have : w.s = "rec" := by simpa using hc
        revert this
        cases w <;> first | (intro _; rfl) | (intro h; exact absurd h (by decide +kernel))
      subst hw
      simp only [Wd.ar, Prod.mk.injEq] at ar
      obtain ⟨n1, n2, rfl⟩ := len2 ar.1
      obtain ⟨k1, k2, rfl⟩ := len2 ar.2.1
      obtain ⟨e1, rfl⟩ := len1 ar.2.2
      refine ⟨_, rfl, _, rfl, _, rfl, _, _, rfl, hsq, ?_, fun p hp => ?_⟩
      · exact cut_no (by simp)
      exact k _ p (Same.new hp) hp upd_same
    · have hw : ¬ w = .rc := by
        rintro rfl
        exact hc rfl
      refine ⟨_, rfl, _, _, _, _, rfl, rfl, hsq, at_of (j := 0) rfl rfl, by show 2 ≤ sizeLine; decide, fun t ht => ?_⟩
      have s1 : Same H (upd H t (.tup [.str "let", .str "fun"])) := Same.new ht
      have hin : (if false = true then !inV (V.str w.s) [V.str "let", V.str "fun"] else inV (V.str w.s) [V.str "let", V.str "fun"]) = w.binds := by
        rw [if_neg Bool.false_ne_true]
        cases w <;> first | exact absurd rfl hw | decide +kernel
      refine ⟨_, _, rfl, .inr (SqT.of upd_same), rfl, rfl, _, rfl, ?_⟩
      rw [hin]
      refine ite2 (fun hb => ?_) (fun hb => ?_)
      · have hns : ∃ n1, ns = [n1] := by
          cases w <;> first | (exact len1 (by simpa [Wd.ar] using congrArg (·.1) ar)) | exact absurd hb (by decide) | exact absurd rfl hw
        obtain ⟨n1, rfl⟩ := hns
        have hne : [n1] ++ (kvs ++ evs) ≠ [] := by simp
        refine ⟨_, rfl, _, rfl, _, rfl, _, _, rfl, Same.seqT s1 hsq, ?_, fun p hp => ?_⟩
        · exact cut_no hne
        have np : H p = none := upd_no hp
        refine k _ p (Same.over s1 np) np ?_
        rw [upd_same, bindV, if_pos hb]
        have : cutV (V.str w.s :: ([n1] ++ (kvs ++ evs))) (some 1) (some 2) = [n1] := by
          unfold cutV
          rw [show HT.sIx (V.str w.s :: ([n1] ++ (kvs ++ evs))).length 0 (some 1) = 1 from (HT.sIx_nat _ _ 1).trans (by simp), show HT.sIx (V.str w.s :: ([n1] ++ (kvs ++ evs))).length (V.str w.s :: ([n1] ++ (kvs ++ evs))).length (some 2) = 2 from (HT.sIx_nat _ _ 2).trans (by simp)]
          simp
        rw [this]
      · refine ⟨by show 0 ≤ sizeLine; decide, fun p hp => ?_⟩
        have np : H p = none := upd_no hp
        refine k _ p (Same.over s1 np) np ?_
        rw [upd_same, bindV, if_neg hb]
end
end Lw
set_option Elab.async false
set_option linter.all false
set_option maxRecDepth 100000
set_option maxHeartbeats 4000000
namespace Lw
open PySem PySem.Spec PyProof.Rows L2 RZ
/-- all but the list at L stands -/
def Chg (L : Addr) (H H' : Hp) : Prop := ∀ b o, H b = some o → b ≠ L → H' b = some o
theorem Chg.refl (L : Addr) (H : Hp) : Chg L H H := fun _ _ h _ => h
theorem Chg.trans {L : Addr} {H1 H2 H3 : Hp} (a : Chg L H1 H2) (b : Chg L H2 H3) : Chg L H1 H3 := fun c o h n => b c o (a c o h n) n
theorem Chg.of {L : Addr} {H H' : Hp} (s : Same H H') : Chg L H H' := fun c o h _ => s c o h
theorem Chg.upd {L : Addr} {H : Hp} {o : HO} : Chg L H (upd H L o) := fun c u h n => by rw [upd_ne n]; exact h
theorem Chg.tsame {L : Addr} {H H' : Hp} {l : List V} (s : Chg L H H') (h : H L = some (.lst l)) : TSame H H' :=
  ⟨fun a xs e => s _ _ e fun z => (by subst z; rw [e] at h; cases h), fun a o u e => s _ _ e fun z => (by subst z; rw [e] at h; cases h)⟩
theorem Chg.free {L : Addr} {H H' : Hp} (s : Chg L H H') {q : Addr} (n : q ≠ L) (h : H' q = none) : H q = none := by
  cases e : H q with
  | none => rfl
  | some o => rw [s _ _ e n] at h; cases h
/-! ### classes and methods -/
structure MDfn (P : Program) (w : World) (K : PySem.W.Frag) (mg : Str → Option Value) (base : Heap) (C : Addr) (m : Str) (k : Nat) (ps : List Str) (sp : Sp) : Prop where
  ex : ∃ f fd, FnOk P w K mg base CX0 k f fd ps sp ∧ Meth K C m f ∧ Binds K fd ps []
structure MAt (K : PySem.W.Frag) (C : Addr) (m qual : Str) (st : Stmt) (ps : List Str) : Prop where
  ex : ∃ f fd, Fun K m qual st f fd ∧ Meth K C m f ∧ Binds K fd ps []
section
variable {P : Program} {w : World} {K : PySem.W.Frag} {mg : Str → Option Value} {base : Heap} {C : Addr} {m qual : Str} {k : Nat} {st : Stmt} {ps : List Str} {sp : Sp}
theorem MDfn.of (a : MAt K C m qual st ps) (h : ∀ f fd, Fun K m qual st f fd → FnOk P w K mg base CX0 k f fd ps sp) : MDfn P w K mg base C m k ps sp := by
  obtain ⟨f, fd, F, M, b⟩ := a.ex
  exact ⟨f, fd, h f fd F, M, b⟩
theorem MDfn.never (a : MAt K C m qual st ps) (h : ∀ vs H Q E, ¬ sp vs H Q E) : MDfn P w K mg base C m 0 ps sp := by
  obtain ⟨f, fd, F, M, b⟩ := a.ex
  exact ⟨f, fd, ⟨fun vs H Q E q => absurd q (h _ _ _ _), fun A outer s H args us vs Q E hr e0 bt r q => absurd q (h _ _ _ _)⟩, M, b⟩
theorem MDfn.mono {j : Nat} (D : MDfn P w K mg base C m j ps sp) (h : j ≤ k) : MDfn P w K mg base C m k ps sp := by
  obtain ⟨f, fd, F, M, b⟩ := D.ex
  exact ⟨f, fd, F.mono h, M, b⟩
end
section
variable {X : Cx} {C : Addr} {m : Str} {k : Nat} {ps : List Str} {sp : Sp} {o e : Expr} {es : List Expr} {ta : TE} {t : TA} {apos pos : Pos}
theorem pe_methD {pl : Sem Bool} (he : PE X o ta) (c : Cls X.K C) (D : MDfn X.prog X.w X.K X.mg X.base C m k ps sp) (hr : Room k X.A) (ha : PA X (e :: es) t)
    (hst : starEach (e :: es) X.env = (false, eval e X.env) :: starEach es X.env := by rfl) (hpl : (backTo pos (starEach es X.env)).any (·.1) = false := by rfl)
    (ht : eval (.Call (.Attribute o m apos) (e :: es) [] pos) X.env = (do
      let ov ← eval o X.env
      standAt apos.atName
      let (f, first) ← holding [ov] (getMethod ov m pl)
      callWith pos f first (backTo pos (starEach (e :: es) X.env)) (backToKw pos (keywordEach [] X.env))) := by rfl) :
    PE X (.Call (.Attribute o m apos) (e :: es) [] pos) (tMeth C m sp [] E0 ta t) := by
  obtain ⟨f, fd, F, M, b⟩ := D.ex
  exact pe_meth he c M F hr b .nil pass0 ha hst hpl ht
theorem pe_methD0 {pl : Sem Bool} (he : PE X o ta) (c : Cls X.K C) (D : MDfn X.prog X.w X.K X.mg X.base C m k ps sp) (hr : Room k X.A)
    (ht : eval (.Call (.Attribute o m apos) [] [] pos) X.env = (do
      let ov ← eval o X.env
      standAt apos.atName
      let (f, first) ← holding [ov] (getMethod ov m pl)
      callWith pos f first (backTo pos (starEach [] X.env)) (backToKw pos (keywordEach [] X.env))) := by rfl) :
    PE X (.Call (.Attribute o m apos) [] [] pos) (tMeth C m sp [] E0 ta tNil) := by
  obtain ⟨f, fd, F, M, b⟩ := D.ex
  exact pe_meth0 he c M F hr b .nil pass0 ht
end
/-- a class that is called -/
structure CDfn (P : Program) (w : World) (K : PySem.W.Frag) (mg : Str → Option Value) (base : Heap) (x : Str) (C : Addr) (k : Nat) (ps : List Str) (sp : Sp) : Prop where
  g : mg x = some (.ref C)
  ex : ∃ f fd, FnOk P w K mg base CX0 k f fd ps sp ∧ Mk K C f ∧ Binds K fd ps []
structure CAt (K : PySem.W.Frag) (mg : Str → Option Value) (x : Str) (C : Addr) (qual : Str) (st : Stmt) (ps : List Str) : Prop where
  g : mg x = some (.ref C)
  ex : ∃ f fd, Fun K "__init__" qual st f fd ∧ Mk K C f ∧ Binds K fd ps []
theorem CDfn.of {P : Program} {w : World} {K : PySem.W.Frag} {mg : Str → Option Value} {base : Heap} {x qual : Str} {C : Addr} {k : Nat} {st : Stmt} {ps : List Str} {sp : Sp} (a : CAt K mg x C qual st ps)
    (h : ∀ f fd, Fun K "__init__" qual st f fd → FnOk P w K mg base CX0 k f fd ps sp) : CDfn P w K mg base x C k ps sp := by
  obtain ⟨f, fd, F, M, b⟩ := a.ex
  exact ⟨a.g, f, fd, h f fd F, M, b⟩
theorem pe_makeD {X : Cx} {x : Str} {C : Addr} {k : Nat} {ps : List Str} {sp : Sp} {e : Expr} {es : List Expr} {t : TA} {p pos : Pos} (D : CDfn X.prog X.w X.K X.mg X.base x C k ps sp) (hr : Room (k + 1) X.A) (hg : Gl X x) (ha : PA X (e :: es) t)
    (hdb : (x == ("__debug__" : Str)) = false := by decide) (he : starEach (e :: es) X.env = (false, eval e X.env) :: starEach es X.env := by rfl) (hpl : (backTo pos (starEach es X.env)).any (·.1) = false := by rfl) :
    PE X (.Call (.Name x p) (e :: es) [] pos) (tMake C sp [] E0 t) := by
  obtain ⟨f, fd, F, M, b⟩ := D.ex
  exact pe_make M F hr hg D.g b .nil pass0 ha hdb he hpl
/-! ### names -/
structure Nm where
  level : Int
  kind : Kd
  runs : List Int
def runsD (r : List Int) : PyData := .tuple (r.map PyData.int)
theorem runs_flat (r : List Int) : flatD (runsD r) = true := by rw [runsD, flatD, ints_flat]
def nmF (l k r : V) : List (Str × V) := [("level", l), ("kind", k), ("runs", r)]
theorem nmS : ¬ (("level" : Str) = "kind") ∧ ¬ (("level" : Str) = "runs") ∧ ¬ (("kind" : Str) = "runs") ∧ ¬ (("kind" : Str) = "level") ∧ ¬ (("runs" : Str) = "level") ∧ ¬ (("runs" : Str) = "kind") := by decide +kernel
theorem lookup_hd {f : Str} {v : V} {l : List (Str × V)} : ((f, v) :: l).lookup f = some v := by simp [List.lookup]
theorem lookup_tl {f g : Str} {v : V} {l : List (Str × V)} (h : ¬ f = g) : ((g, v) :: l).lookup f = l.lookup f := by
  have : (f == g) = false := beq_eq_false_iff_ne.mpr h
  simp [List.lookup, this]
theorem nmF_level (l k r : V) : (nmF l k r).lookup ("level" : Str) = some l := lookup_hd
theorem nmF_kind (l k r : V) : (nmF l k r).lookup ("kind" : Str) = some k := (lookup_tl nmS.2.2.2.1).trans lookup_hd
theorem nmF_runs (l k r : V) : (nmF l k r).lookup ("runs" : Str) = some r := (lookup_tl nmS.2.2.2.2.1).trans ((lookup_tl nmS.2.2.2.2.2).trans lookup_hd)
theorem putF_hd {f : Str} {v u : V} {l : List (Str × V)} : putF f v ((f, u) :: l) = (f, v) :: l := by
  show (if f = f then _ else _) = _
  rw [if_pos rfl]
theorem putF_tl {f g : Str} {v u : V} {l : List (Str × V)} (h : ¬ g = f) : putF f v ((g, u) :: l) = (g, u) :: putF f v l := by
  show (if g = f then _ else _) = _
  rw [if_neg h]
theorem putF_nil {f : Str} {v : V} : putF f v [] = [(f, v)] := rfl
/-- a Name stands there -/
def NameAt (K : PySem.W.Frag) (CN : Addr) (H : Hp) (v : V) (m : Nm) : Prop := ∃ a dx kv rv, v = .ref a ∧ H a = some (.ins CN dx (nmF (.int m.level) kv rv)) ∧ Dp K H kv m.kind.d ∧ Dp K H rv (runsD m.runs)
abbrev Ctx := List (Int × Nm)
def CtxAt (K : PySem.W.Frag) (CN : Addr) (H : Hp) (nd : Addr) (c : Ctx) : Prop := ∃ kvs, H nd = some (.dK kvs) ∧ DictAt (NameAt K CN H) kvs c
theorem NameAt.chg {K : PySem.W.Frag} {CN L : Addr} {H H' : Hp} {v : V} {m : Nm} {l : List V} (n : NameAt K CN H v m) (s : Chg L H H') (h : H L = some (.lst l)) : NameAt K CN H' v m := by
  obtain ⟨a, dx, kv, rv, e, ha, h1, h2⟩ := n
  refine ⟨a, dx, kv, rv, e, s _ _ ha fun z => (by subst z; rw [ha] at h; cases h), Dp.tsame (s.tsame h) _ _ (Kd.flat _) h1, Dp.tsame (s.tsame h) _ _ (runs_flat _) h2⟩
theorem CtxAt.chg {K : PySem.W.Frag} {CN L : Addr} {H H' : Hp} {nd : Addr} {c : Ctx} {l : List V} (n : CtxAt K CN H nd c) (s : Chg L H H') (h : H L = some (.lst l)) : CtxAt K CN H' nd c := by
  obtain ⟨kvs, hd, q⟩ := n
  exact ⟨kvs, s _ _ hd fun z => (by subst z; rw [hd] at h; cases h), q.mono fun v m x => x.chg s h⟩
theorem NameAt.same {K : PySem.W.Frag} {CN : Addr} {H H' : Hp} {v : V} {m : Nm} (n : NameAt K CN H v m) (s : Same H H') : NameAt K CN H' v m := by
  obtain ⟨a, dx, kv, rv, e, ha, h1, h2⟩ := n
  exact ⟨a, dx, kv, rv, e, s _ _ ha, Dp.same s _ _ h1, Dp.same s _ _ h2⟩
theorem CtxAt.same {K : PySem.W.Frag} {CN : Addr} {H H' : Hp} {nd : Addr} {c : Ctx} (n : CtxAt K CN H nd c) (s : Same H H') : CtxAt K CN H' nd c := by
  obtain ⟨kvs, hd, q⟩ := n
  exact ⟨kvs, s _ _ hd, q.mono fun v m x => x.same s⟩
def named (c : Ctx) (n lv : Int) (runs : List Int) : Option Kd :=
  match look c n with
  | none => none
  | some m => if m.level = lv ∧ ((runs.drop m.runs.length).all fun r => decide (m.level ≤ r) && !m.kind.hasCode) = true ∧ m.kind.dep ≤ 60 then some m.kind else none
theorem named_inv {c : Ctx} {n lv : Int} {runs : List Int} {k : Kd} (h : named c n lv runs = some k) : ∃ m, look c n = some m ∧ m.kind = k ∧ m.level = lv ∧ ((runs.drop m.runs.length).all fun r => decide (m.level ≤ r) && !m.kind.hasCode) = true ∧ m.kind.dep ≤ 60 := by
  unfold named at h
  cases hl : look c n with
  | none => rw [hl] at h; cases h
  | some m =>
    rw [hl] at h
    dsimp only at h
    by_cases hc : m.level = lv ∧ ((runs.drop m.runs.length).all fun r => decide (m.level ≤ r) && !m.kind.hasCode) = true ∧ m.kind.dep ≤ 60
    · rw [if_pos hc] at h
      exact ⟨m, rfl, Option.some.inj h, hc⟩
    · rw [if_neg hc] at h
      cases h
/-! ### promises -/
def spNameInit (CN : Addr) : Sp := fun vs H Q _ => ∃ (p dx : Addr) (l k r : V), vs = [.ref p, l, k, r] ∧ H p = some (.ins CN dx []) ∧
  ∀ H', (∀ b o, H b = some o → b ≠ p → H' b = some o) → H' p = some (.ins CN dx (nmF l k r)) → Q .non H'
def spWithName : Sp := fun vs H Q _ => ∃ (d : Addr) (kvs : List (Key × V)) (n : Int) (v : V), vs = [.ref d, .int n, v] ∧ H d = some (.dK kvs) ∧ kvs.length < 1000000 ∧
  ∀ H' p, Same H H' → H p = none → H' p = some (.dK (putK kvs (Sum.inl n) v)) → Q (.ref p) H'
def spMust : Sp := fun vs H Q _ => ∃ (s p y : V) (b : Bool), vs = [s, .bl b, p, y] ∧ b = true ∧ Q .non H
def spNamed (K : PySem.W.Frag) (CC CN : Addr) : Sp := fun vs H Q _ => ∃ (ck dx nd : Addr) (fs : List (Str × V)) (n lv : Int) (pv rv : V) (c : Ctx) (runs : List Int) (k : Kd), vs = [.ref ck, .int n, pv, .int lv, .ref nd, rv] ∧
  H ck = some (.ins CC dx fs) ∧ fs.lookup ("must" : Str) = none ∧ CtxAt K CN H nd c ∧ Dp K H rv (runsD runs) ∧ named c n lv runs = some k ∧
  ∀ H' v, Same H H' → Dp K H' v k.d → Q v H'
/-- the facts of the class Name -/
structure NameC (K : PySem.W.Frag) (CN : Addr) : Prop where
  cl : Cls K CN
  nL : NoAttr K CN "level"
  nK : NoAttr K CN "kind"
  nR : NoAttr K CN "runs"
section
variable {P : Program} {w : World} {K : PySem.W.Frag} {mg : Str → Option Value} {base : Heap} {dF dK dL dB CN CC : Addr}
theorem sc_Name_init : FnScope ["self", "level", "kind", "runs"] ["self", "level", "kind", "runs"] (defScope s_Name_init) := ⟨rfl, rfl, rfl, by decide +kernel, rfl, by decide +kernel, by decide +kernel⟩
theorem ok_Name_init {f : Addr} {fd : FuncData} (F : Fun K "__init__" "Name.__init__" s_Name_init f fd) (N : NameC K CN) : FnOk P w K mg base CX0 1 f fd ["self", "level", "kind", "runs"] (spNameInit CN) := by
  refine F.ok sc_Name_init (fun vs H Q E h => ?_) (fun cdv A outer s H vs Q E hr h => ?_)
  · obtain ⟨p, dx, l, k, r, rfl, _⟩ := h
    rfl
  · obtain ⟨p, dx, l, kk, r, rfl, hp, k⟩ := h
    refine ⟨_, pss_cons (ps_fld (pv 0) (pv 1) rfl) (pss_cons (ps_fld (pv 0) (pv 2) rfl) (pss_one (ps_fld (pv 0) (pv 3) rfl))), ?_⟩
    refine ⟨_, rfl, _, rfl, p, CN, dx, [], rfl, hp, N.cl, N.nL, (by show 0 < 1000; decide), ?_⟩
    refine ⟨_, rfl, _, rfl, p, CN, dx, _, rfl, upd_same, N.cl, N.nK, (by show 1 < 1000; decide), ?_⟩
    refine ⟨_, rfl, _, rfl, p, CN, dx, _, rfl, upd_same, N.cl, N.nR, ?_, ?_⟩
    · rw [putF_nil, putF_tl nmS.1, putF_nil]; show 2 < 1000; decide
    refine k _ (fun b o h n => by rw [upd_ne n, upd_ne n, upd_ne n]; exact h) ?_
    rw [upd_same, putF_nil, putF_tl nmS.1, putF_nil, putF_tl nmS.2.1, putF_tl nmS.2.2.1, putF_nil]
    rfl
theorem sc_with_name : FnScope ["names", "number", "name", "found"] ["names", "number", "name"] (defScope s_with_name) := ⟨rfl, rfl, rfl, by decide +kernel, rfl, by decide +kernel, by decide +kernel⟩
theorem ok_with_name {f : Addr} {fd : FuncData} (F : Fun K "with_name" "with_name" s_with_name f fd) (C : Cst K w mg dF dK dL dB) : FnOk P w K mg base CX0 1 f fd ["names", "number", "name"] spWithName := by
  refine F.ok sc_with_name (fun vs H Q E h => ?_) (fun cdv A outer s H vs Q E hr h => ?_)
  · obtain ⟨d, kvs, n, v, rfl, _⟩ := h
    rfl
  · obtain ⟨d, kvs, n, v, rfl, hd, hl, k⟩ := h
    refine ⟨_, pss_cons (ps_set (i := 3) sc_with_name.nd rfl (Or.inl rfl) (pe_callTy call_dictD (by rfl) C.dict boot_dict (pa_cons (pv 0) pa_nil)))
      (pss_cons (ps_dput (hu_of hr) (pv 3) (pv 1) (pv 2) rfl) (pss_one (ps_ret (pv 3)))), ?_⟩
    refine ⟨_, rfl, d, kvs, rfl, .inl hd, fun p hp => ?_⟩
    refine ⟨_, rfl, _, rfl, _, rfl, p, _, rfl, DPut.k (k := Sum.inl n) upd_same (Nat.lt_trans hl (by decide)), _, rfl, ?_⟩
    rw [upd_upd]
    exact k _ p (Same.new hp) hp upd_same
theorem sc_must : FnScope ["self", "good", "place", "why"] ["self", "good", "place", "why"] (defScope s_Check_must) := ⟨rfl, rfl, rfl, by decide +kernel, rfl, by decide +kernel, by decide +kernel⟩
theorem ok_must {f : Addr} {fd : FuncData} (F : Fun K "must" "Check.must" s_Check_must f fd) : FnOk P w K mg base CX0 1 f fd ["self", "good", "place", "why"] spMust := by
  refine F.ok sc_must (fun vs H Q E h => ?_) (fun cdv A outer s H vs Q E hr h => ?_)
  · obtain ⟨s, p, y, b, rfl, _⟩ := h
    rfl
  · obtain ⟨s', p, y, b, rfl, rfl, k⟩ := h
    exact ⟨_, pss_one (ps_if (pt_not (pt_val (pv 1))) (pss_one ps_never) pss_nil), _, rfl, true, rfl, iteF k⟩
theorem sc_named : FnScope ["self", "number", "place", "level", "names", "runs", "name", "run"] ["self", "number", "place", "level", "names", "runs"] (defScope s_Check_named) := ⟨rfl, rfl, rfl, by decide +kernel, rfl, by decide +kernel, by decide +kernel⟩
theorem ok_named {f : Addr} {fd : FuncData} (F : Fun K "named" "Check.named" s_Check_named f fd) (C : Cst K w mg dF dK dL dB) (cC : Cls K CC) (N : NameC K CN) (M : MDfn P w K mg base CC "must" 1 ["self", "good", "place", "why"] spMust)
    (G : Dfn P w K mg base "has_code" 65 ["kind"] (spHasCode K 65)) : FnOk P w K mg base CX0 67 f fd ["self", "number", "place", "level", "names", "runs"] (spNamed K CC CN) := by
  refine F.ok sc_named (fun vs H Q E h => ?_) (fun cdv A outer s H vs Q E hr h => ?_)
  · obtain ⟨ck, dx, nd, fs, n, lv, pv, rv, c, runs, k, rfl, _⟩ := h
    rfl
  · obtain ⟨ck, dx, nd, fs, n, lv, pv', rv, c, runs, kd, rfl, hck, hnm, hc, hrv, hm, k⟩ := h
    have hr1 : Room 1 _ := hr.mono (by decide)
    refine ⟨_, pss_cons (ps_expr (pe_methD (pv 0) cC M hr1 (pa_cons (pe_cmp (pc_din (hu_of hr) (pv 1) (pv 4)) (by rfl)) (pa_cons (pv 2) (pa_cons pe_str pa_nil)))))
      (pss_cons (ps_set (i := 6) sc_named.nd rfl (Or.inl rfl) (pe_dget (hu_of hr) (pv 4) (pv 1) (fun _ _ => rfl)))
      (pss_cons (ps_expr (pe_methD (pv 0) cC M hr1 (pa_cons (pe_cmpR op_le (pe_fld (pv 6) rfl) (pv 3) (nomark _)) (pa_cons (pv 2) (pa_cons pe_str pa_nil)))))
      (pss_cons (ps_expr (pe_methD (pv 0) cC M hr1 (pa_cons (pe_cmpR op_eq (pe_fld (pv 6) rfl) (pv 3) (nomark _)) (pa_cons (pv 2) (pa_cons pe_str pa_nil)))))
      (pss_cons (ps_for PassesOwn.never rfl (pi_tup (pe_slice sl_tupU (pv 5) (po_some (pe_callB call_len_seq (by rfl) C.len boot_len (pa_cons (pe_fld (pv 6) rfl) pa_nil))) po_none)) (pg_name (i := 7) sc_named.nd rfl (Or.inl rfl))
        (pss_one (ps_expr (pe_methD (pv 0) cC M hr1 (pa_cons (pe_and (pe_cmpR op_le (pe_fld (pv 6) rfl) (pv 7) (nomark _)) (pe_one (pe_not (pe_callD G (hr.mono (by decide)) (by rfl) (pa_cons (pe_fld (pv 6) rfl) pa_nil))))) (pa_cons (pv 2) (pa_cons pe_str pa_nil)))))))
      (pss_one (ps_ret (pe_fld (pv 6) rfl))))))), ?_⟩
    obtain ⟨kvs, hnd, hdc⟩ := hc
    obtain ⟨m, hl, rfl, c1, c2, c3⟩ := named_inv hm
    obtain ⟨v, hv, ⟨na, ndx, kv, rnv, rfl, hna, hkd, hrd⟩⟩ := hdc.look hl
    have hD := DGet.k (k := Sum.inl n) hnd
    rw [hv] at hD
    have e1 : decide (m.level ≤ lv) = true := decide_eq_true (by omega)
    have e2 : decide (V.int m.level = V.int lv) = true := decide_eq_true (by rw [c1])
    refine ⟨_, rfl, ck, dx, fs, rfl, hck, hnm, _, rfl, _, rfl, nd, _, rfl, hD, _, rfl, _, _, _, _, rfl, rfl, ?_⟩
    refine ⟨_, rfl, _, rfl, nd, _, rfl, hD, ?_⟩
    refine ⟨_, rfl, ck, dx, fs, rfl, hck, hnm, _, rfl, na, CN, ndx, _, _, rfl, hna, N.cl, N.nL, nmF_level _ _ _, _, rfl, _, _, rfl, rfl, _, rfl, _, _, _, _, rfl, e1, ?_⟩
    refine ⟨_, rfl, ck, dx, fs, rfl, hck, hnm, _, rfl, na, CN, ndx, _, _, rfl, hna, N.cl, N.nL, nmF_level _ _ _, _, rfl, rfl, _, rfl, _, _, _, _, rfl, e2, ?_⟩
    cases hrd with
    | tup hq1 ha1 =>
      rename_i ra rvs
      obtain rfl := DpAll.ints ha1
      cases hrv with
      | tup hq2 ha2 =>
        rename_i rb rws
        obtain rfl := DpAll.ints ha2
        refine ⟨_, rfl, _, rfl, na, CN, ndx, _, _, rfl, hna, N.cl, N.nR, nmF_runs _ _ _, ra, _, rfl, .inr hq1, _, rfl, rb, _, rfl, hq2, fun q H' s1 hq => ?_⟩
        have ecut : cutV (runs.map V.int) (some ((m.runs.map V.int).length : Int)) none = (runs.drop m.runs.length).map V.int := by
          unfold cutV
          rw [HT.sIx_nat, HT.sIx_none]
          simp only [List.length_map]
          rw [List.map_drop]
          by_cases h : m.runs.length ≤ runs.length
          · rw [Nat.min_eq_left h, List.take_of_length_le (by simp)]
          · rw [Nat.min_eq_right (by omega), List.drop_of_length_le (by simp), List.drop_of_length_le (by simp; omega)]
            simp
        rw [ecut] at hq
        refine ⟨q, rfl, ⟨_, hq⟩, for_it (walk_tup (K := K) (a := q) (xs := (runs.drop m.runs.length).map V.int)) (fun i σ H2 => Same H' H2 ∧ ∃ z, σ = [some (.ref ck), some (.int n), some pv', some (.int lv), some (.ref nd), some (.ref rb), some (.ref na), z])
          ⟨Same.refl H', _, rfl⟩ (fun i σ H2 _ h => Same.seqT h.1 hq) ?_ ?_⟩
        · rintro i x σ H2 H3 hi ⟨s2, z, rfl⟩ ⟨rfl, hx⟩
          have s3 := s1.trans s2
          rw [List.getElem?_map] at hx
          cases er : (runs.drop m.runs.length)[i]? with
          | none => rw [er] at hx; cases hx
          | some r =>
            rw [er] at hx
            cases hx
            have hall := List.all_eq_true.mp c2 r (List.mem_of_getElem? er)
            rw [Bool.and_eq_true] at hall
            refine ⟨_, rfl, ck, dx, fs, rfl, s3 _ _ hck, hnm, _, rfl, na, CN, ndx, _, _, rfl, s3 _ _ hna, N.cl, N.nL, nmF_level _ _ _, _, rfl, _, _, rfl, rfl, _, rfl, ?_⟩
            rw [hall.1]
            refine iteT ⟨_, rfl, na, CN, ndx, _, _, rfl, s3 _ _ hna, N.cl, N.nK, nmF_kind _ _ _, _, _, rfl, Dp.same s3 _ _ hkd, by omega, by omega, fun H4 s4 => ?_⟩
            exact ⟨_, rfl, _, rfl, _, _, _, _, rfl, hall.2, s2.trans s4, _, rfl⟩
        · rintro σ H2 ⟨s2, z, rfl⟩
          have s3 := s1.trans s2
          exact ⟨_, rfl, na, CN, ndx, _, _, rfl, s3 _ _ hna, N.cl, N.nK, nmF_kind _ _ _, k _ _ s3 (Dp.same s3 _ _ hkd)⟩
end
end Lw
set_option Elab.async false
set_option linter.all false
set_option maxRecDepth 100000
set_option maxHeartbeats 4000000
namespace Lw
open PySem PySem.Spec PyProof.Rows L2 RZ
def Wd.ofS (z : Str) : Option Wd := ([("num", Wd.num), ("name", .name), ("plus", .plus), ("times", .times), ("less", .less), ("if", .ite), ("let", .lt), ("fun", .fn), ("rec", .rc), ("call", .call), ("two", .two), ("first", .fst), ("second", .snd), ("quote", .quote), ("now", .now), ("run", .run), ("carry", .carry)] : List (Str × Wd)).lookup z
theorem Wd.ofS_s (w : Wd) : Wd.ofS w.s = some w := by cases w <;> decide +kernel
theorem Wd.inj {a b : Wd} (h : a.s = b.s) : a = b := Option.some.inj ((Wd.ofS_s a).symm.trans ((congrArg Wd.ofS h).trans (Wd.ofS_s b)))
theorem tst {w b : Wd} (h : decide (V.str w.s = V.str b.s) = true) : w = b := Wd.inj (V.str.inj (of_decide_eq_true h))
theorem tstN {w b : Wd} (h : ¬ decide (V.str w.s = V.str b.s) = true) : ¬ w = b := fun e => h (decide_eq_true (by rw [e]))
theorem Wd.dec (a b : Wd) : decide (V.str a.s = V.str b.s) = decide (a = b) := by
  by_cases e : a = b
  · subst e; simp
  · rw [decide_eq_false e, decide_eq_false fun h => e (Wd.inj (V.str.inj h))]
def kindBy (w : Wd) (ks kinds : List Kd) : Option Kd :=
  match w with
  | .num => match kinds with | [] => some .num | _ => none
  | .plus | .times | .less => match kinds with | [.num, .num] => some .num | _ => none
  | .ite => match kinds with | [.num, a, b] => if a = b then some a else none | _ => none
  | .lt => match kinds with | [_, b] => some b | _ => none
  | .fn => match ks, kinds with | [k], [b] => some (.to k b) | _, _ => none
  | .rc => match ks, kinds with | [a, b], [c] => if c = b then some (.to a b) else none | _, _ => none
  | .call => match kinds with | [.to a b, c] => if a = c then some b else none | _ => none
  | .two => match kinds with | [a, b] => some (.two a b) | _ => none
  | .fst => match kinds with | [.two a _] => some a | _ => none
  | .snd => match kinds with | [.two _ b] => some b | _ => none
  | .quote => match kinds with | [a] => some (.code a) | _ => none
  | .carry => match kinds with | [a] => if a.isData then some a else none | _ => none
  | .now | .run => match kinds with | [.code a] => some a | _ => none
  | .name => none
theorem kb_ite {ks kinds : List Kd} {k : Kd} (h : kindBy .ite ks kinds = some k) : kinds = [.num, k, k] := by
  simp only [kindBy] at h
  split at h
  · split at h
    · rename_i e; cases h; rw [e]
    · cases h
  · cases h
theorem kb_lt {ks kinds : List Kd} {k : Kd} (h : kindBy .lt ks kinds = some k) : ∃ a, kinds = [a, k] := by
  simp only [kindBy] at h
  split at h
  · cases h; exact ⟨_, rfl⟩
  · cases h
theorem kb_fn {ks kinds : List Kd} {k : Kd} (h : kindBy .fn ks kinds = some k) : ∃ a b, ks = [a] ∧ kinds = [b] ∧ k = .to a b := by
  simp only [kindBy] at h
  split at h
  · cases h; exact ⟨_, _, rfl, rfl, rfl⟩
  · cases h
theorem kb_rc {ks kinds : List Kd} {k : Kd} (h : kindBy .rc ks kinds = some k) : ∃ a b, ks = [a, b] ∧ kinds = [b] ∧ k = .to a b := by
  simp only [kindBy] at h
  split at h
  · split at h
    · rename_i e; cases h; rw [e]; exact ⟨_, _, rfl, rfl, rfl⟩
    · cases h
  · cases h
theorem kb_call {ks kinds : List Kd} {k : Kd} (h : kindBy .call ks kinds = some k) : ∃ a, kinds = [.to a k, a] := by
  simp only [kindBy] at h
  split at h
  · split at h
    · rename_i e; cases h; rw [e]; exact ⟨_, rfl⟩
    · cases h
  · cases h
theorem kb_two {ks kinds : List Kd} {k : Kd} (h : kindBy .two ks kinds = some k) : ∃ a b, kinds = [a, b] ∧ k = .two a b := by
  simp only [kindBy] at h
  split at h
  · cases h; exact ⟨_, _, rfl, rfl⟩
  · cases h
theorem kb_fst {ks kinds : List Kd} {k : Kd} (h : kindBy .fst ks kinds = some k) : ∃ b, kinds = [.two k b] := by
  simp only [kindBy] at h
  split at h
  · cases h; exact ⟨_, rfl⟩
  · cases h
theorem kb_snd {ks kinds : List Kd} {k : Kd} (h : kindBy .snd ks kinds = some k) : ∃ a, kinds = [.two a k] := by
  simp only [kindBy] at h
  split at h
  · cases h; exact ⟨_, rfl⟩
  · cases h
theorem kb_quote {ks kinds : List Kd} {k : Kd} (h : kindBy .quote ks kinds = some k) : ∃ a, kinds = [a] ∧ k = .code a := by
  simp only [kindBy] at h
  split at h
  · cases h; exact ⟨_, rfl, rfl⟩
  · cases h
theorem kb_carry {ks kinds : List Kd} {k : Kd} (h : kindBy .carry ks kinds = some k) : kinds = [k] ∧ k.isData = true := by
  simp only [kindBy] at h
  split at h
  · split at h
    · rename_i e; cases h; exact ⟨rfl, e⟩
    · cases h
  · cases h
theorem kb_now {w : Wd} {ks kinds : List Kd} {k : Kd} (hw : w = .now ∨ w = .run) (h : kindBy w ks kinds = some k) : kinds = [.code k] := by
  rcases hw with rfl | rfl <;> simp only [kindBy] at h <;> split at h <;> first | (cases h; rfl) | cases h
theorem kb_num {w : Wd} {ks kinds : List Kd} {k : Kd} (hw : w = .num ∨ w = .plus ∨ w = .times ∨ w = .less) (h : kindBy w ks kinds = some k) : k = .num ∧ (∀ x ∈ kinds, x = .num) ∧ kinds.length ≤ 2 := by
  rcases hw with rfl | rfl | rfl | rfl <;> simp only [kindBy] at h <;> split at h <;> first | (cases h; simp) | cases h
theorem eqv_same (k : Kd) : PyData.eqv k.d k.d = true := by rw [Kd.eqv]; simp
theorem neq_num {k : Kd} (h : k ≠ .num) : (!PyData.eqv k.d (.str "num")) = true := by
  rw [show PyData.eqv k.d (.str "num") = decide (k = .num) from Kd.eqv k .num, decide_eq_false h]; rfl
section
variable {K : PySem.W.Frag} {H : Hp}
theorem dp1 {kv : List V} {a : PyData} (h : DpAll K H kv [a]) : ∃ x, kv = [x] ∧ Dp K H x a := by
  cases h with | cons r t => cases t; exact ⟨_, rfl, r⟩
theorem dp2 {kv : List V} {a b : PyData} (h : DpAll K H kv [a, b]) : ∃ x y, kv = [x, y] ∧ Dp K H x a ∧ Dp K H y b := by
  cases h with | cons r t => obtain ⟨y, rfl, q⟩ := dp1 t; exact ⟨_, _, rfl, r, q⟩
theorem dp3 {kv : List V} {a b c : PyData} (h : DpAll K H kv [a, b, c]) : ∃ x y z, kv = [x, y, z] ∧ Dp K H x a ∧ Dp K H y b ∧ Dp K H z c := by
  cases h with | cons r t => obtain ⟨y, z, rfl, q⟩ := dp2 t; exact ⟨_, _, _, rfl, r, q⟩
end
theorem nowrun (w : Wd) (m0 : w ≠ .name) (h1 : ¬ w = .num) (h0 : ¬ (w = .plus ∨ w = .times ∨ w = .less)) (h2 : ¬ (w = .fst ∨ w = .snd)) (m1 : ¬ w = .ite) (m2 : ¬ w = .lt) (m3 : ¬ w = .fn) (m4 : ¬ w = .rc) (m5 : ¬ w = .call) (m6 : ¬ w = .two) (m8 : ¬ w = .quote) (m9 : ¬ w = .carry) : w = .now ∨ w = .run := by
  cases w <;> simp_all
def spKindBy (K : PySem.W.Frag) (CC : Addr) : Sp := fun vs H Q _ => ∃ (ck dx a kl : Addr) (fs : List (Str × V)) (pv : V) (w : Wd) (ns kvs evs kv : List V) (ks kinds : List Kd) (k : Kd), vs = [.ref ck, .ref a, pv, .ref kl] ∧
  H ck = some (.ins CC dx fs) ∧ fs.lookup ("must" : Str) = none ∧ NodeV K H w ns kvs evs a ∧ DpAll K H kvs (ks.map Kd.d) ∧ SqL K H kl kv ∧ DpAll K H kv (kinds.map Kd.d) ∧ (∀ k ∈ ks, k.dep ≤ 60) ∧ (∀ k ∈ kinds, k.dep ≤ 60) ∧
  kindBy w ks kinds = some k ∧ ∀ H' v, Same H H' → Dp K H' v k.d → Q v H'
section
variable {P : Program} {w : World} {K : PySem.W.Frag} {mg : Str → Option Value} {base : Heap} {dF dK dL dB CN CC : Addr}
theorem sc_kindBy : FnScope ["self", "e", "place", "kinds", "word", "kind"] ["self", "e", "place", "kinds"] (defScope s_Check_kind_of) := ⟨rfl, rfl, rfl, by decide +kernel, rfl, by decide +kernel, by decide +kernel⟩
theorem ok_kindBy {f : Addr} {fd : FuncData} (F : Fun K "kind_of" "Check.kind_of" s_Check_kind_of f fd) (C : Cst K w mg dF dK dL dB) (cC : Cls K CC) (M : MDfn P w K mg base CC "must" 1 ["self", "good", "place", "why"] spMust)
    (G : Dfn P w K mg base "is_data" 65 ["kind"] (spIsData K 65)) : FnOk P w K mg base CX0 67 f fd ["self", "e", "place", "kinds"] (spKindBy K CC) := by
  refine F.ok sc_kindBy (fun vs H Q E h => ?_) (fun cdv A outer s H vs Q E hr h => ?_)
  · obtain ⟨ck, dx, a, kl, fs, pv, w, ns, kvs, evs, kv, ks, kinds, k, rfl, _⟩ := h
    rfl
  · obtain ⟨ck, dx, a, kl, fs, pv', w, ns, kvs, evs, kv, ks, kinds, kd, rfl, hck, hnm, hn, hks, hkl, hkv, dk, dks, hby, k⟩ := h
    have hr1 : Room 1 _ := hr.mono (by decide)
    have hrD : Room 65 _ := hr.mono (by decide)
    refine ⟨_, pss_cons (ps_set (i := 4) sc_kindBy.nd rfl (Or.inl rfl) (pe_ix ix_tup (pv 1) pe_int (fun _ _ => rfl))) (
      pss_cons (ps_if (PW.pt (pw_or (pt_cmpR op_eq (pv 4) pe_str (nomark _)) (pw_or1 (pt_cmpR op_in_seq (pv 4) (pe_gv C.BOTH) (by rfl)))))
        (pss_cons (ps_expr (pe_methD (pv 0) cC M hr1 (pa_cons (pe_callB (cr_all rfl) (by rfl) C.all boot_all (pa_cons
          (pe_lc (own := [("kind", 5)]) (g := gName 5) (tt := tYes) (te := tOp (rEqD K) (tVar 5) (tC (.str "num"))) rfl sc_kindBy.nd (pi_list (pv 3)) (blkOk_by (N := ["self", "e", "place", "kinds", "word", "kind"]) (sc := defScope s_Check_kind_of) (by decide +kernel))
            (fun _ _ _ _ _ => pg_name (i := 5) sc_kindBy.nd rfl (Or.inl rfl)) (fun _ _ _ _ _ => pts_nil) (fun _ _ _ _ _ => pe_cmpR (op_eqD hr.units) (pv 5) (pe_gv C.NUM) (nomark _))) pa_nil)) (pa_cons (pv 2) (pa_cons pe_str pa_nil)))))
          (pss_one (ps_ret (pe_gv C.NUM)))) pss_nil) (
      pss_cons (ps_if (pt_cmpR op_eq (pv 4) pe_str (nomark _))
        (pss_cons (ps_expr (pe_methD (pv 0) cC M hr1 (pa_cons (pe_and (pe_cmpR (op_eqD hr.units) (pe_ix ix_list (pv 3) pe_int (fun _ _ => rfl)) (pe_gv C.NUM) (nomark _)) (pe_one (pe_cmpR (op_eqD hr.units) (pe_ix ix_list (pv 3) pe_int (fun _ _ => rfl)) (pe_ix ix_list (pv 3) pe_int (fun _ _ => rfl)) (nomark _)))) (pa_cons (pv 2) (pa_cons pe_str pa_nil)))))
          (pss_one (ps_ret (pe_ix ix_list (pv 3) pe_int (fun _ _ => rfl))))) pss_nil) (
      pss_cons (ps_if (pt_cmpR op_eq (pv 4) pe_str (nomark _)) (pss_one (ps_ret (pe_ix ix_list (pv 3) pe_int (fun _ _ => rfl)))) pss_nil) (
      pss_cons (ps_if (pt_cmpR op_eq (pv 4) pe_str (nomark _)) (pss_one (ps_ret (pe_tup (pa_cons (pe_gv C.TO) (pa_cons (pe_ix ix_tup (pv 1) pe_int (fun _ _ => rfl)) (pa_cons (pe_ix ix_list (pv 3) pe_int (fun _ _ => rfl)) pa_nil)))))) pss_nil) (
      pss_cons (ps_if (pt_cmpR op_eq (pv 4) pe_str (nomark _))
        (pss_cons (ps_expr (pe_methD (pv 0) cC M hr1 (pa_cons (pe_cmpR (op_eqD hr.units) (pe_ix ix_list (pv 3) pe_int (fun _ _ => rfl)) (pe_ix ix_tup (pv 1) pe_int (fun _ _ => rfl)) (nomark _)) (pa_cons (pv 2) (pa_cons pe_str pa_nil)))))
          (pss_one (ps_ret (pe_tup (pa_cons (pe_gv C.TO) (pa_cons (pe_ix ix_tup (pv 1) pe_int (fun _ _ => rfl)) (pa_cons (pe_ix ix_tup (pv 1) pe_int (fun _ _ => rfl)) pa_nil))))))) pss_nil) (
      pss_cons (ps_if (pt_cmpR op_eq (pv 4) pe_str (nomark _))
        (pss_cons (ps_expr (pe_methD (pv 0) cC M hr1 (pa_cons (pe_and (pe_cmpR (op_neD hr.units) (pe_ix ix_list (pv 3) pe_int (fun _ _ => rfl)) (pe_gv C.NUM) (nomark _)) (pe_and (pe_cmpR op_eq (pe_ix ix_tup (pe_ix ix_list (pv 3) pe_int (fun _ _ => rfl)) pe_int (fun _ _ => rfl)) (pe_gv C.TO) (nomark _))
            (pe_one (pe_cmpR (op_eqD hr.units) (pe_ix ix_tup (pe_ix ix_list (pv 3) pe_int (fun _ _ => rfl)) pe_int (fun _ _ => rfl)) (pe_ix ix_list (pv 3) pe_int (fun _ _ => rfl)) (nomark _))))) (pa_cons (pv 2) (pa_cons pe_str pa_nil)))))
          (pss_one (ps_ret (pe_ix ix_tup (pe_ix ix_list (pv 3) pe_int (fun _ _ => rfl)) pe_int (fun _ _ => rfl))))) pss_nil) (
      pss_cons (ps_if (pt_cmpR op_eq (pv 4) pe_str (nomark _)) (pss_one (ps_ret (pe_tup (pa_cons (pe_gv C.TWO) (pa_cons (pe_ix ix_list (pv 3) pe_int (fun _ _ => rfl)) (pa_cons (pe_ix ix_list (pv 3) pe_int (fun _ _ => rfl)) pa_nil)))))) pss_nil) (
      pss_cons (ps_if (pt_cmpR op_in_seq (pv 4) (pe_tup (pa_cons pe_str (pa_cons pe_str pa_nil))) (by rfl))
        (pss_cons (ps_expr (pe_methD (pv 0) cC M hr1 (pa_cons (pe_and (pe_cmpR (op_neD hr.units) (pe_ix ix_list (pv 3) pe_int (fun _ _ => rfl)) (pe_gv C.NUM) (nomark _)) (pe_one (pe_cmpR op_eq (pe_ix ix_tup (pe_ix ix_list (pv 3) pe_int (fun _ _ => rfl)) pe_int (fun _ _ => rfl)) (pe_gv C.TWO) (nomark _))))
            (pa_cons (pv 2) (pa_cons pe_str pa_nil)))))
          (pss_one (ps_ret (pe_ix ix_tup (pe_ix ix_list (pv 3) pe_int (fun _ _ => rfl)) (pe_ifExp (pt_cmpR op_eq (pv 4) pe_str (nomark _)) pe_int pe_int) (fun _ _ => rfl))))) pss_nil) (
      pss_cons (ps_if (pt_cmpR op_eq (pv 4) pe_str (nomark _)) (pss_one (ps_ret (pe_tup (pa_cons (pe_gv C.CODE) (pa_cons (pe_ix ix_list (pv 3) pe_int (fun _ _ => rfl)) pa_nil))))) pss_nil) (
      pss_cons (ps_if (pt_cmpR op_eq (pv 4) pe_str (nomark _))
        (pss_cons (ps_expr (pe_methD (pv 0) cC M hr1 (pa_cons (pe_callD G hrD (by rfl) (pa_cons (pe_ix ix_list (pv 3) pe_int (fun _ _ => rfl)) pa_nil)) (pa_cons (pv 2) (pa_cons pe_str pa_nil)))))
          (pss_one (ps_ret (pe_ix ix_list (pv 3) pe_int (fun _ _ => rfl))))) pss_nil) (
      pss_cons (ps_expr (pe_methD (pv 0) cC M hr1 (pa_cons (pe_and (pe_cmpR (op_neD hr.units) (pe_ix ix_list (pv 3) pe_int (fun _ _ => rfl)) (pe_gv C.NUM) (nomark _)) (pe_one (pe_cmpR op_eq (pe_ix ix_tup (pe_ix ix_list (pv 3) pe_int (fun _ _ => rfl)) pe_int (fun _ _ => rfl)) (pe_gv C.CODE) (nomark _))))
          (pa_cons (pv 2) (pa_cons pe_str pa_nil))))) (pss_one (ps_ret (pe_ix ix_tup (pe_ix ix_list (pv 3) pe_int (fun _ _ => rfl)) pe_int (fun _ _ => rfl))))))))))))))), ?_⟩
    refine ⟨_, rfl, _, _, _, _, rfl, rfl, hn.sq, at_of (j := 0) rfl rfl, ?_⟩
    have hin : inV (V.str w.s) [.str "plus", .str "times", .str "less"] = decide (w = .plus ∨ w = .times ∨ w = .less) := by cases w <;> decide +kernel
    refine ⟨_, rfl, rfl, _, rfl, ite2 (fun hc => iteT ?_) (fun hc => ⟨_, rfl, dB, _, rfl, .inr (C.fB _), rfl, rfl, _, rfl, ite2 (fun hc2 => ?_) (fun hc2 => ?_)⟩)⟩
    rotate_right
    · have hw0 : ¬ (w = .plus ∨ w = .times ∨ w = .less) := fun h => hc2 (by rw [if_neg Bool.false_ne_true, hin]; exact decide_eq_true h)
      have hw1 := tstN (b := .num) hc
      clear hc hc2 hin
      refine ⟨_, rfl, rfl, _, rfl, ite2 (fun hc => ?_) (fun n1 => ?_)⟩
      · obtain rfl := tst (b := .ite) hc
        obtain rfl := kb_ite hby
        obtain ⟨v0, v1, v2, rfl, h0, h1, h2⟩ := dp3 hkv
        have dk1 := dks kd (by simp)
        refine ⟨_, rfl, ck, dx, fs, rfl, hck, hnm, _, rfl, kl, _, _, _, rfl, rfl, hkl, at_of (j := 0) rfl rfl, Kd.num.d, _, h0, .str _, num_shaped, num_shaped, true, congrArg V.bl (eqv_same .num), iteT ?_⟩
        refine ⟨_, rfl, kl, _, _, _, rfl, rfl, hkl, at_of (j := 1) rfl rfl, _, rfl, kl, _, _, _, rfl, rfl, hkl, at_of (j := 2) rfl rfl, kd.d, kd.d, h1, h2, Kd.shaped (by omega), Kd.shaped (by omega), _, rfl, _, _, _, _, rfl, eqv_same kd, ?_⟩
        exact ⟨_, rfl, kl, _, _, _, rfl, rfl, hkl, at_of (j := 1) rfl rfl, k H _ (Same.refl H) h1⟩
      refine ⟨_, rfl, rfl, _, rfl, ite2 (fun hc => ?_) (fun n2 => ?_)⟩
      · obtain rfl := tst (b := .lt) hc
        obtain ⟨ka, rfl⟩ := kb_lt hby
        obtain ⟨v0, v1, rfl, h0, h1⟩ := dp2 hkv
        exact ⟨_, rfl, kl, _, _, _, rfl, rfl, hkl, at_of (j := 1) rfl rfl, k H _ (Same.refl H) h1⟩
      refine ⟨_, rfl, rfl, _, rfl, ite2 (fun hc => ?_) (fun n3 => ?_)⟩
      · obtain rfl := tst (b := .fn) hc
        obtain ⟨ka, kb, rfl, rfl, rfl⟩ := kb_fn hby
        obtain ⟨v0, rfl, h0⟩ := dp1 hkv
        obtain ⟨u0, rfl, g0⟩ := dp1 hks
        have ar := hn.ar
        simp only [Wd.ar, Prod.mk.injEq] at ar
        obtain ⟨n1, rfl⟩ := len1 ar.1
        refine ⟨_, rfl, _, _, _, _, rfl, rfl, hn.sq, at_of (j := 2) rfl rfl, _, rfl, kl, _, _, _, rfl, rfl, hkl, at_of (j := 0) rfl rfl, by show 3 ≤ sizeLine; decide, fun p hp => ?_⟩
        have sp := Same.new (o := .tup [.str "to", u0, v0]) hp
        exact k _ _ sp (.tup (SqT.of upd_same) (.cons (.str _) (.cons (Dp.same sp _ _ g0) (.cons (Dp.same sp _ _ h0) .nil))))
      refine ⟨_, rfl, rfl, _, rfl, ite2 (fun hc => ?_) (fun n4 => ?_)⟩
      · obtain rfl := tst (b := .rc) hc
        obtain ⟨ka, kb, rfl, rfl, rfl⟩ := kb_rc hby
        obtain ⟨v0, rfl, h0⟩ := dp1 hkv
        obtain ⟨u0, u1, rfl, g0, g1⟩ := dp2 hks
        have ar := hn.ar
        simp only [Wd.ar, Prod.mk.injEq] at ar
        obtain ⟨n1, n2, rfl⟩ := len2 ar.1
        have dk1 := dks kb (by simp)
        refine ⟨_, rfl, ck, dx, fs, rfl, hck, hnm, _, rfl, kl, _, _, _, rfl, rfl, hkl, at_of (j := 0) rfl rfl, _, rfl, _, _, _, _, rfl, rfl, hn.sq, at_of (j := 4) rfl rfl, kb.d, kb.d, h0, g1, Kd.shaped (by omega), Kd.shaped (by omega), _, rfl, _, _, _, _, rfl, eqv_same kb, ?_⟩
        refine ⟨_, rfl, _, _, _, _, rfl, rfl, hn.sq, at_of (j := 3) rfl rfl, _, rfl, _, _, _, _, rfl, rfl, hn.sq, at_of (j := 4) rfl rfl, by show 3 ≤ sizeLine; decide, fun p hp => ?_⟩
        have sp := Same.new (o := .tup [.str "to", u0, u1]) hp
        exact k _ _ sp (.tup (SqT.of upd_same) (.cons (.str _) (.cons (Dp.same sp _ _ g0) (.cons (Dp.same sp _ _ g1) .nil))))
      refine ⟨_, rfl, rfl, _, rfl, ite2 (fun hc => ?_) (fun n5 => ?_)⟩
      · obtain rfl := tst (b := .call) hc
        obtain ⟨ka, rfl⟩ := kb_call hby
        obtain ⟨v0, v1, rfl, h0, h1⟩ := dp2 hkv
        have d0 := dks (.to ka kd) (by simp)
        have d1 := dks ka (by simp)
        obtain ⟨p, vs, rfl, hq, ha⟩ := kd_of h0 (by simp)
        obtain ⟨w1, w2, rfl, g1, g2⟩ := dp2 ha
        refine ⟨_, rfl, ck, dx, fs, rfl, hck, hnm, _, rfl, kl, _, _, _, rfl, rfl, hkl, at_of (j := 0) rfl rfl, (Kd.to ka kd).d, _, h0, .str _, Kd.shaped (by omega), num_shaped, true, congrArg V.bl (neq_num (by simp)), iteT ?_⟩
        refine ⟨_, rfl, kl, _, _, _, rfl, rfl, hkl, at_of (j := 0) rfl rfl, _, _, _, _, rfl, rfl, hq, at_of (j := 0) rfl rfl, rfl, true, congrArg V.bl (decide_eq_true rfl), iteT ?_⟩
        refine ⟨_, rfl, kl, _, _, _, rfl, rfl, hkl, at_of (j := 0) rfl rfl, _, _, _, _, rfl, rfl, hq, at_of (j := 1) rfl rfl, _, rfl, kl, _, _, _, rfl, rfl, hkl, at_of (j := 1) rfl rfl, ka.d, ka.d, g1, h1, Kd.shaped (by omega), Kd.shaped (by omega), _, rfl, _, _, _, _, rfl, eqv_same ka, ?_⟩
        exact ⟨_, rfl, kl, _, _, _, rfl, rfl, hkl, at_of (j := 0) rfl rfl, _, _, _, _, rfl, rfl, hq, at_of (j := 2) rfl rfl, k H _ (Same.refl H) g2⟩
      refine ⟨_, rfl, rfl, _, rfl, ite2 (fun hc => ?_) (fun n6 => ?_)⟩
      · obtain rfl := tst (b := .two) hc
        obtain ⟨ka, kb, rfl, rfl⟩ := kb_two hby
        obtain ⟨v0, v1, rfl, h0, h1⟩ := dp2 hkv
        refine ⟨_, rfl, kl, _, _, _, rfl, rfl, hkl, at_of (j := 0) rfl rfl, _, rfl, kl, _, _, _, rfl, rfl, hkl, at_of (j := 1) rfl rfl, by show 3 ≤ sizeLine; decide, fun p hp => ?_⟩
        have sp := Same.new (o := .tup [.str "two", v0, v1]) hp
        exact k _ _ sp (.tup (SqT.of upd_same) (.cons (.str _) (.cons (Dp.same sp _ _ h0) (.cons (Dp.same sp _ _ h1) .nil))))
      have hin2 : inV (V.str w.s) [.str "first", .str "second"] = decide (w = .fst ∨ w = .snd) := by cases w <;> decide +kernel
      refine ⟨_, rfl, by show 2 ≤ sizeLine; decide, fun t ht => ?_⟩
      have s1 : Same H (upd H t (.tup [.str "first", .str "second"])) := Same.new ht
      refine ⟨_, _, rfl, .inr (SqT.of upd_same), rfl, rfl, _, rfl, ?_⟩
      rw [if_neg Bool.false_ne_true, hin2]
      refine ite2 (fun hc => ?_) (fun n7 => ?_)
      · have hkl1 := Same.seq s1 hkl
        rcases of_decide_eq_true hc with rfl | rfl
        · obtain ⟨kb, rfl⟩ := kb_fst hby
          obtain ⟨v0, rfl, h0⟩ := dp1 hkv
          have d0 := dks (.two kd kb) (by simp)
          obtain ⟨p, vs, rfl, hq, ha⟩ := kd_of h0 (by simp)
          obtain ⟨w1, w2, rfl, g1, g2⟩ := dp2 ha
          refine ⟨_, rfl, ck, dx, fs, rfl, s1 _ _ hck, hnm, _, rfl, kl, _, _, _, rfl, rfl, hkl1, at_of (j := 0) rfl rfl, (Kd.two kd kb).d, _, Dp.same s1 _ _ h0, .str _, Kd.shaped (by omega), num_shaped, true, congrArg V.bl (neq_num (by simp)), iteT ?_⟩
          refine ⟨_, rfl, kl, _, _, _, rfl, rfl, hkl1, at_of (j := 0) rfl rfl, _, _, _, _, rfl, rfl, Same.seqT s1 hq, at_of (j := 0) rfl rfl, rfl, _, rfl, _, _, _, _, rfl, decide_eq_true rfl, ?_⟩
          exact ⟨_, rfl, kl, _, _, _, rfl, rfl, hkl1, at_of (j := 0) rfl rfl, _, rfl, rfl, _, rfl, iteT ⟨_, _, _, _, rfl, rfl, Same.seqT s1 hq, at_of (j := 1) rfl rfl, k _ _ s1 (Dp.same s1 _ _ g1)⟩⟩
        · obtain ⟨ka, rfl⟩ := kb_snd hby
          obtain ⟨v0, rfl, h0⟩ := dp1 hkv
          have d0 := dks (.two ka kd) (by simp)
          obtain ⟨p, vs, rfl, hq, ha⟩ := kd_of h0 (by simp)
          obtain ⟨w1, w2, rfl, g1, g2⟩ := dp2 ha
          refine ⟨_, rfl, ck, dx, fs, rfl, s1 _ _ hck, hnm, _, rfl, kl, _, _, _, rfl, rfl, hkl1, at_of (j := 0) rfl rfl, (Kd.two ka kd).d, _, Dp.same s1 _ _ h0, .str _, Kd.shaped (by omega), num_shaped, true, congrArg V.bl (neq_num (by simp)), iteT ?_⟩
          refine ⟨_, rfl, kl, _, _, _, rfl, rfl, hkl1, at_of (j := 0) rfl rfl, _, _, _, _, rfl, rfl, Same.seqT s1 hq, at_of (j := 0) rfl rfl, rfl, _, rfl, _, _, _, _, rfl, decide_eq_true rfl, ?_⟩
          exact ⟨_, rfl, kl, _, _, _, rfl, rfl, hkl1, at_of (j := 0) rfl rfl, _, rfl, rfl, _, rfl, iteF ⟨_, _, _, _, rfl, rfl, Same.seqT s1 hq, at_of (j := 2) rfl rfl, k _ _ s1 (Dp.same s1 _ _ g2)⟩⟩
      have hw2 : ¬ (w = .fst ∨ w = .snd) := fun h => n7 (decide_eq_true h)
      have hkl1 := Same.seq s1 hkl
      refine ⟨_, rfl, rfl, _, rfl, ite2 (fun hc => ?_) (fun n8 => ?_)⟩
      · obtain rfl := tst (b := .quote) hc
        obtain ⟨ka, rfl, rfl⟩ := kb_quote hby
        obtain ⟨v0, rfl, h0⟩ := dp1 hkv
        refine ⟨_, rfl, kl, _, _, _, rfl, rfl, hkl1, at_of (j := 0) rfl rfl, by show 2 ≤ sizeLine; decide, fun p hp => ?_⟩
        have sp := Same.over (o := .tup [.str "code", v0]) s1 (upd_no hp)
        exact k _ _ sp (.tup (SqT.of upd_same) (.cons (.str _) (.cons (Dp.same sp _ _ h0) .nil)))
      refine ⟨_, rfl, rfl, _, rfl, ite2 (fun hc => ?_) (fun n9 => ?_)⟩
      · obtain rfl := tst (b := .carry) hc
        obtain ⟨rfl, hdat⟩ := kb_carry hby
        obtain ⟨v0, rfl, h0⟩ := dp1 hkv
        have d0 := dks kd (by simp)
        refine ⟨_, rfl, ck, dx, fs, rfl, s1 _ _ hck, hnm, _, rfl, kl, _, _, _, rfl, rfl, hkl1, at_of (j := 0) rfl rfl, _, kd, rfl, Dp.same s1 _ _ h0, by omega, by omega, _, rfl, _, _, _, _, rfl, hdat, ?_⟩
        exact ⟨_, rfl, kl, _, _, _, rfl, rfl, hkl1, at_of (j := 0) rfl rfl, k _ _ s1 (Dp.same s1 _ _ h0)⟩
      have hw3 : w = .now ∨ w = .run := by
        have m1 := tstN (b := .ite) n1
        have m2 := tstN (b := .lt) n2
        have m3 := tstN (b := .fn) n3
        have m4 := tstN (b := .rc) n4
        have m5 := tstN (b := .call) n5
        have m6 := tstN (b := .two) n6
        have m8 := tstN (b := .quote) n8
        have m9 := tstN (b := .carry) n9
        have m0 : w ≠ .name := by rintro rfl; simp [kindBy] at hby
        exact nowrun w m0 hw1 hw0 hw2 m1 m2 m3 m4 m5 m6 m8 m9
      obtain rfl := kb_now hw3 hby
      obtain ⟨v0, rfl, h0⟩ := dp1 hkv
      have d0 := dks (.code kd) (by simp)
      obtain ⟨p, vs, rfl, hq, ha⟩ := kd_of h0 (by simp)
      obtain ⟨w1, rfl, g1⟩ := dp1 ha
      refine ⟨_, rfl, ck, dx, fs, rfl, s1 _ _ hck, hnm, _, rfl, kl, _, _, _, rfl, rfl, hkl1, at_of (j := 0) rfl rfl, (Kd.code kd).d, _, Dp.same s1 _ _ h0, .str _, Kd.shaped (by omega), num_shaped, true, congrArg V.bl (neq_num (by simp)), iteT ?_⟩
      refine ⟨_, rfl, kl, _, _, _, rfl, rfl, hkl1, at_of (j := 0) rfl rfl, _, _, _, _, rfl, rfl, Same.seqT s1 hq, at_of (j := 0) rfl rfl, rfl, _, rfl, _, _, _, _, rfl, decide_eq_true rfl, ?_⟩
      exact ⟨_, rfl, kl, _, _, _, rfl, rfl, hkl1, at_of (j := 0) rfl rfl, _, _, _, _, rfl, rfl, Same.seqT s1 hq, at_of (j := 1) rfl rfl, k _ _ s1 (Dp.same s1 _ _ g1)⟩
    all_goals
      have hk : kd = .num ∧ (∀ k ∈ kinds, k = .num) ∧ kinds.length ≤ 2 := by
        refine kb_num ?_ hby
        first
          | exact .inl (tst (b := .num) hc)
          | (rw [if_neg Bool.false_ne_true, hin] at hc2; exact .inr (of_decide_eq_true hc2))
      obtain ⟨rfl, hk, l5⟩ := hk
      have lk : kv.length = kinds.length := by rw [DpAll.length hkv, List.length_map]
      refine ⟨_, rfl, ck, dx, fs, rfl, hck, hnm, _, rfl, kl, rfl, ⟨_, hkl⟩, fun D hD => ?_⟩
      refine lc_gen walk_list ((kinds.map fun _ => true).map V.bl) (by simp [lk]) (small1000 (by simp; omega)) (fun i H' => Same H H' ∧ ∃ l, H' D = some (.lst l)) ⟨Same.new hD, _, upd_same⟩ (fun i H' r => Same.seq r.1 hkl) ?_ ?_ ?_ gName_mono
      · rintro i H' l ⟨s1, l0, hl0⟩
        exact ⟨Same.over s1 hD, _, upd_same⟩
      · rintro i x y H' H2 Q2 hi hy ⟨s1, l0, hl0⟩ hl ⟨rfl, hx⟩ k2
        obtain ⟨d, hd1, hd2⟩ := DpAll.get hkv hx
        rw [List.getElem?_map] at hd1 hy
        cases ea : kinds[i]? with
        | none => rw [ea] at hd1; cases hd1
        | some ka =>
          rw [ea] at hd1
          cases hd1
          rw [List.getElem?_map, ea] at hy
          cases hy
          obtain rfl := hk ka (List.mem_of_getElem? ea)
          refine ⟨rfl, _, rfl, Kd.num.d, _, Dp.same s1 _ _ hd2, .str _, num_shaped, num_shaped, ?_⟩
          rw [show PyData.eqv Kd.num.d (.str "num") = true from eqv_same .num]
          exact k2 _ ⟨s1, l0, hl0⟩ hl
      · rintro H' ⟨s1, _⟩ hl
        refine ⟨D, _, rfl, SqL.of hl, _, rfl, _, _, _, _, rfl, by simp, ?_⟩
        exact k H' _ s1 (.str _)
end
end Lw
set_option Elab.async false
set_option linter.all false
set_option maxRecDepth 100000
set_option maxHeartbeats 4000000
namespace Lw
open PySem PySem.Spec PyProof.Rows L2 RZ
def Wd.later : Wd → Int | .quote => 1 | .now => -1 | .carry => -1 | _ => 0
theorem laterG_w (w : Wd) : (laterG w.s).getD (.int 0) = .int w.later := by cases w <;> decide +kernel
def row (place : List Int) (lv : Int) (k : Kd) : PyData := .tuple [runsD place, .int lv, k.d]
abbrev Chk := Ex → List Int → Int → Ctx → List Int → Option (Kd × List PyData)
def mapChk (f : Int → Ex → Option (Kd × List PyData)) : Int → List Ex → Option (List Kd × List PyData)
  | _, [] => some ([], [])
  | i, e :: r => match f i e with
    | none => none
    | some (k, rows) => match mapChk f (i + 1) r with
      | none => none
      | some (ks, rs) => some (k :: ks, rows ++ rs)
def scopeBy (w : Wd) (ns : List Int) (ks : List Kd) (lv : Int) (c : Ctx) (runs : List Int) : Ctx :=
  match w, ns, ks with
  | .fn, [x], [k] => put c x ⟨lv, k, runs⟩
  | .rc, [f, x], [a, b] => put (put c f ⟨lv, .to a b, runs⟩) x ⟨lv, a, runs⟩
  | _, _, _ => c
theorem scopeBy_no {w : Wd} {ns : List Int} {ks : List Kd} {lv : Int} {c : Ctx} {runs : List Int} (h1 : ¬ w = .fn) (h2 : ¬ w = .rc) : scopeBy w ns ks lv c runs = c := by
  cases w <;> simp_all [scopeBy]
def chkIn (chk : Chk) (w : Wd) (ns : List Int) (ks : List Kd) (es : List Ex) (place : List Int) (lv : Int) (c : Ctx) (runs : List Int) : Option (List Kd × List PyData) :=
  if w = .lt then
    match ns, es with
    | [x], [a, b] => match chk a (place ++ [0]) (lv + w.later) c runs with
      | none => none
      | some (ka, ra) => match chk b (place ++ [1]) (lv + w.later) (put c x ⟨lv, ka, runs⟩) runs with
        | none => none
        | some (kb, rb) => some ([ka, kb], ra ++ rb)
    | _, _ => none
  else mapChk (fun i e => chk e (place ++ [i]) (lv + w.later) (scopeBy w ns ks lv c runs) (if w = .run then runs ++ [lv] else runs)) 0 es
theorem chkIn_lt {ch : Chk} {ns : List Int} {ks : List Kd} {es : List Ex} {p : List Int} {lv : Int} {c : Ctx} {r : List Int} {kinds : List Kd} {rows : List PyData} (h : chkIn ch .lt ns ks es p lv c r = some (kinds, rows)) :
    ∃ x a b ka ra kb rb, ns = [x] ∧ es = [a, b] ∧ ch a (p ++ [0]) (lv + Wd.lt.later) c r = some (ka, ra) ∧ ch b (p ++ [1]) (lv + Wd.lt.later) (put c x ⟨lv, ka, r⟩) r = some (kb, rb) ∧ kinds = [ka, kb] ∧ rows = ra ++ rb := by
  unfold chkIn at h
  rw [if_pos rfl] at h
  split at h
  · split at h
    · cases h
    · rename_i h1
      split at h
      · cases h
      · rename_i h2
        cases h
        exact ⟨_, _, _, _, _, _, _, rfl, rfl, h1, h2, rfl, rfl⟩
  · cases h
def chk : Nat → Chk
  | 0 => fun _ _ _ _ _ => none
  | n + 1 => fun e place lv c runs =>
    if e.w = .name then match e.ns with | [x] => (named c x lv runs).map fun k => (k, [row place lv k]) | _ => none
    else if (0 ≤ lv + e.w.later ∧ lv + e.w.later ≤ 3) ∧ (e.ks.all fun k => decide (k.dep ≤ 58)) = true then
      match chkIn (chk n) e.w e.ns e.ks e.es place lv c runs with
      | none => none
      | some (kinds, rows) => match kindBy e.w e.ks kinds with
        | none => none
        | some k => if k.dep ≤ 60 then some (k, rows ++ [row place lv k]) else none
    else none
theorem row_flat (p : List Int) (lv : Int) (k : Kd) : flatD (row p lv k) = true := by
  rw [row, flatD, flatDL, flatDL, flatDL, runs_flat, k.flat]; rfl
theorem mapChk_p {f : Int → Ex → Option (Kd × List PyData)} (hf : ∀ i e k rows, f i e = some (k, rows) → k.dep ≤ 60 ∧ flatDL rows = true) : ∀ (es : List Ex) (i : Int) (ks : List Kd) (rs : List PyData), mapChk f i es = some (ks, rs) → (∀ k ∈ ks, k.dep ≤ 60) ∧ flatDL rs = true ∧ ks.length = es.length
  | [], i, ks, rs, h => by
    rw [mapChk] at h
    cases h
    exact ⟨by simp, rfl, rfl⟩
  | e :: r, i, ks, rs, h => by
    rw [mapChk] at h
    cases h1 : f i e with
    | none => rw [h1] at h; cases h
    | some p =>
      obtain ⟨k, rows⟩ := p
      rw [h1] at h
      dsimp only at h
      cases h2 : mapChk f (i + 1) r with
      | none => rw [h2] at h; cases h
      | some p2 =>
        obtain ⟨ks2, rs2⟩ := p2
        rw [h2] at h
        cases h
        obtain ⟨a, b⟩ := hf i e k rows h1
        obtain ⟨c, d, l⟩ := mapChk_p hf r (i + 1) ks2 rs2 h2
        refine ⟨fun x hx => ?_, by rw [flatDL_append, b, d]; rfl, congrArg Nat.succ l⟩
        rcases List.mem_cons.mp hx with rfl | hx
        · exact a
        · exact c x hx
theorem mapChk_step {f : Int → Ex → Option (Kd × List PyData)} {i : Int} {e : Ex} {r : List Ex} {ks : List Kd} {rs : List PyData}
    (h : mapChk f i (e :: r) = some (ks, rs)) :
    ∃ k rows, f i e = some (k, rows) ∧ ∃ ks2 rs2, mapChk f (i + 1) r = some (ks2, rs2) ∧ ks = k :: ks2 ∧ rs = rows ++ rs2 := by
  rw [mapChk] at h
  cases h1 : f i e with
  | none => rw [h1] at h; cases h
  | some p =>
    obtain ⟨k, rows⟩ := p
    rw [h1] at h
    dsimp only at h
    cases h2 : mapChk f (i + 1) r with
    | none => rw [h2] at h; cases h
    | some p2 =>
      obtain ⟨ks2, rs2⟩ := p2
      rw [h2] at h
      cases h
      exact ⟨k, rows, rfl, ks2, rs2, rfl, rfl, rfl⟩
theorem chkIn_p {ch : Chk} (hf : ∀ e p lv c r k rows, ch e p lv c r = some (k, rows) → k.dep ≤ 60 ∧ flatDL rows = true) {w : Wd} {ns : List Int} {ks : List Kd} {es : List Ex} {p : List Int} {lv : Int} {c : Ctx} {r : List Int} {kinds : List Kd} {rows : List PyData}
    (h : chkIn ch w ns ks es p lv c r = some (kinds, rows)) : (∀ k ∈ kinds, k.dep ≤ 60) ∧ flatDL rows = true := by
  unfold chkIn at h
  split at h
  · split at h
    · split at h
      · cases h
      · rename_i h1
        split at h
        · cases h
        · rename_i h2
          cases h
          obtain ⟨a, b⟩ := hf _ _ _ _ _ _ _ h1
          obtain ⟨a2, b2⟩ := hf _ _ _ _ _ _ _ h2
          refine ⟨fun x hx => ?_, by rw [flatDL_append, b, b2]; rfl⟩
          rcases List.mem_cons.mp hx with rfl | hx
          · exact a
          · rw [List.mem_singleton.mp hx]; exact a2
    · cases h
  · obtain ⟨a, b, _⟩ := mapChk_p (fun i e k rows h => hf _ _ _ _ _ _ _ h) _ _ _ _ h
    exact ⟨a, b⟩
theorem chk_p : ∀ (n : Nat) (e : Ex) (p : List Int) (lv : Int) (c : Ctx) (r : List Int) (k : Kd) (rows : List PyData), chk n e p lv c r = some (k, rows) → k.dep ≤ 60 ∧ flatDL rows = true
  | 0, _, _, _, _, _, _, _, h => by cases h
  | n + 1, e, p, lv, c, r, k, rows, h => by
    rw [chk] at h
    dsimp only at h
    split at h
    · split at h
      · cases hn : named c _ lv r with
        | none => rw [hn] at h; cases h
        | some k2 =>
          rw [hn] at h
          cases h
          obtain ⟨m, _, rfl, _, _, d⟩ := named_inv hn
          exact ⟨d, by rw [flatDL, row_flat]; rfl⟩
      · cases h
    · split at h
      · split at h
        · cases h
        · rename_i h1
          split at h
          · cases h
          · split at h
            · rename_i hd
              cases h
              refine ⟨hd, ?_⟩
              rw [flatDL_append, (chkIn_p (chk_p n) h1).2, flatDL, row_flat]
              rfl
            · cases h
      · cases h
theorem chk_name {n : Nat} {e : Ex} {p : List Int} {lv : Int} {c : Ctx} {r : List Int} {k : Kd} {rows : List PyData} (hw : e.w = .name) (h : chk (n + 1) e p lv c r = some (k, rows)) : ∃ x, e.ns = [x] ∧ named c x lv r = some k ∧ rows = [row p lv k] := by
  rw [chk] at h
  dsimp only at h
  rw [if_pos hw] at h
  split at h
  · rename_i x hx
    cases hn : named c x lv r with
    | none => rw [hn] at h; cases h
    | some k2 =>
      rw [hn] at h
      cases h
      exact ⟨x, hx, hn, rfl⟩
  · cases h
theorem chk_other {n : Nat} {e : Ex} {p : List Int} {lv : Int} {c : Ctx} {r : List Int} {k : Kd} {rows : List PyData} (hw : ¬ e.w = .name) (h : chk (n + 1) e p lv c r = some (k, rows)) :
    0 ≤ lv + e.w.later ∧ lv + e.w.later ≤ 3 ∧ (∀ k ∈ e.ks, k.dep ≤ 58) ∧ ∃ kinds rows1, chkIn (chk n) e.w e.ns e.ks e.es p lv c r = some (kinds, rows1) ∧ kindBy e.w e.ks kinds = some k ∧ rows = rows1 ++ [row p lv k] := by
  rw [chk] at h
  dsimp only at h
  rw [if_neg hw] at h
  split at h
  · rename_i h0
    split at h
    · cases h
    · rename_i h1
      split at h
      · cases h
      · rename_i h2
        split at h
        · cases h
          refine ⟨h0.1.1, h0.1.2, fun k hk => of_decide_eq_true (List.all_eq_true.mp h0.2 k hk), _, _, h1, h2, rfl⟩
        · cases h
  · cases h
def ckF (L : Addr) : List (Str × V) := [("found", .ref L)]
theorem ckF_no {L : Addr} {f : Str} (h : ¬ f = "found") : (ckF L).lookup f = none := lookup_tl h
theorem ckS : ¬ (("must" : Str) = "found") ∧ ¬ (("named" : Str) = "found") ∧ ¬ (("inner" : Str) = "found") ∧ ¬ (("look" : Str) = "found") ∧ ¬ (("kind_of" : Str) = "found") := by decide +kernel
/-- what look and inner start from -/
structure LookAt (K : PySem.W.Frag) (CC CN : Addr) (H : Hp) (e : Ex) (place : List Int) (lv : Int) (c : Ctx) (runs : List Int) (rows0 : List PyData) (vs : List V) (L : Addr) : Prop where
  ex : ∃ (ck dx a nd : Addr) (pv rv : V) (kvs evs fv : List V), vs = [.ref ck, .ref a, pv, .int lv, .ref nd, rv] ∧ H ck = some (.ins CC dx (ckF L)) ∧ NodeAt K H e a kvs evs ∧ e.ok = true ∧ Dp K H pv (runsD place) ∧ CtxAt K CN H nd c ∧ Dp K H rv (runsD runs) ∧
    H L = some (.lst fv) ∧ DpAll K H fv rows0 ∧ flatDL rows0 = true
def spLook (K : PySem.W.Frag) (CC CN : Addr) (n : Nat) : Sp := fun vs H Q _ => ∃ (e : Ex) (place : List Int) (lv : Int) (c : Ctx) (runs : List Int) (rows0 rows : List PyData) (k : Kd) (L : Addr),
  LookAt K CC CN H e place lv c runs rows0 vs L ∧ chk n e place lv c runs = some (k, rows) ∧ rows0.length + rows.length ≤ 1000000 ∧ c.length + 2 * n ≤ 1000 ∧ place.length + n ≤ 1000 ∧ runs.length + n ≤ 1000 ∧
  ∀ H' v fv, Chg L H H' → Dp K H' v k.d → H' L = some (.lst fv) → DpAll K H' fv (rows0 ++ rows) → Q v H'
def spInner (K : PySem.W.Frag) (CC CN : Addr) (n : Nat) : Sp := fun vs H Q _ => ∃ (e : Ex) (place : List Int) (lv : Int) (c : Ctx) (runs : List Int) (rows0 rows : List PyData) (kinds : List Kd) (L : Addr),
  LookAt K CC CN H e place lv c runs rows0 vs L ∧ chkIn (chk n) e.w e.ns e.ks e.es place lv c runs = some (kinds, rows) ∧ rows0.length + rows.length ≤ 1000000 ∧ c.length + 2 * n + 2 ≤ 1000 ∧ place.length + n + 1 ≤ 1000 ∧ runs.length + n + 1 ≤ 1000 ∧
  ∀ H' q kv fv, Chg L H H' → H q = none → H' q = some (.lst kv) → DpAll K H' kv (kinds.map Kd.d) → H' L = some (.lst fv) → DpAll K H' fv (rows0 ++ rows) → Q (.ref q) H'
abbrev psLook : List Str := ["self", "e", "place", "level", "names", "runs"]
section
variable {P : Program} {w : World} {K : PySem.W.Frag} {mg : Str → Option Value} {base : Heap} {dF dK dL dB CN CC : Addr}
structure CheckC (K : PySem.W.Frag) (CC : Addr) : Prop where
  cl : Cls K CC
  nF : NoAttr K CC "found"
  nK : NoAttr K CC "kind"
theorem sc_look : FnScope ["self", "e", "place", "level", "names", "runs", "kind"] psLook (defScope s_Check_look) := ⟨rfl, rfl, rfl, by decide +kernel, rfl, by decide +kernel, by decide +kernel⟩
theorem ok_look {f : Addr} {fd : FuncData} {n : Nat} (F : Fun K "look" "Check.look" s_Check_look f fd) (C : Cst K w mg dF dK dL dB) (cC : CheckC K CC) (M : MDfn P w K mg base CC "must" 1 ["self", "good", "place", "why"] spMust)
    (GN : MDfn P w K mg base CC "named" 67 ["self", "number", "place", "level", "names", "runs"] (spNamed K CC CN)) (GK : MDfn P w K mg base CC "kind_of" 67 ["self", "e", "place", "kinds"] (spKindBy K CC)) (GI : MDfn P w K mg base CC "inner" (70 + 2 * n + 1) psLook (spInner K CC CN n)) :
    FnOk P w K mg base CX0 (70 + 2 * (n + 1)) f fd psLook (spLook K CC CN (n + 1)) := by
  refine F.ok sc_look (fun vs H Q E h => ?_) (fun cdv A outer s H vs Q E hr h => ?_)
  · obtain ⟨e, place, lv, c, runs, rows0, rows, k, L, ⟨ck, dx, a, nd, pv, rv, kvs, evs, fv, rfl, _⟩, _⟩ := h
    rfl
  · obtain ⟨e, place, lv, c, runs, rows0, rows, kd, L, ⟨ck, dx, a, nd, pv', rv, kvs, evs, fv, rfl, hck, hn, ok, hpl, hc, hrv, hL, hfv, ff⟩, hchk, b1, b2, b3, b4, k⟩ := h
    have hr1 : Room 1 _ := hr.mono (show 1 ≤ 70 + 2 * n + 1 by omega)
    have hr67 : Room 67 _ := hr.mono (show 67 ≤ 70 + 2 * n + 1 by omega)
    refine ⟨_, (pss_cons (ps_if (pt_cmpR op_eq (pe_ix ix_tup (pv 1) pe_int (fun _ _ => rfl)) pe_str (nomark _))
          (pss_one (ps_set (i := 6) sc_look.nd rfl (Or.inl rfl) (pe_methD (pv 0) cC.cl GN hr67 (pa_cons (pe_ix ix_tup (pv 1) pe_int (fun _ _ => rfl)) (pa_cons (pv 2) (pa_cons (pv 3) (pa_cons (pv 4) (pa_cons (pv 5) (pa_nil)))))))))
          (pss_cons (ps_expr (pe_methD (pv 0) cC.cl M hr1 (pa_cons (pe_chain op_le op_le pe_int (pe_op op_add (pv 3) (pe_kget2 C.fL (pe_gv C.LATER) (pe_ix ix_tup (pv 1) pe_int (fun _ _ => rfl)) pe_int ⟨rfl, rfl, rfl, rfl⟩)) (pe_gv C.ML)) (pa_cons (pv 2) (pa_cons (pe_str) (pa_nil)))))) (pss_one (ps_set (i := 6) sc_look.nd rfl (Or.inl rfl) (pe_methD (pv 0) cC.cl GK hr67 (pa_cons (pv 1) (pa_cons (pv 2) (pa_cons (pe_methD (pv 0) cC.cl GI hr (pa_cons (pv 1) (pa_cons (pv 2) (pa_cons (pv 3) (pa_cons (pv 4) (pa_cons (pv 5) (pa_nil))))))) (pa_nil))))))))) (pss_cons (ps_expr (pe_bm PySem.F.plainAttrs_list PySem.F.slot_list_append PySem.F.type_list_append mt_append (pe_fld (pv 0) rfl) (pa_cons (pe_tup (pa_cons (pv 2) (pa_cons (pv 3) (pa_cons (pv 6) (pa_nil))))) (pa_nil)))) (pss_one (ps_ret (pv 6))))), ?_⟩
    have hsq := (hn.v ok).sq
    -- the end: found.append and return
    have fin : ∀ (H1 : Hp) (v : V) (fv1 : List V) (z : Kd) (rows1 : List PyData), Chg L H H1 → Dp K H1 v z.d → H1 L = some (.lst fv1) → DpAll K H1 fv1 (rows0 ++ rows1) → z = kd → rows = rows1 ++ [row place lv z] → flatDL rows1 = true →
        tSeq (tDrop (tBM K "list" rAppend (tFld K (tVar 0) "found") (tCons (tTup (tCons (tVar 2) (tCons (tVar 3) (tCons (tVar 6) tNil)))) tNil))) (tRet (tVar 6)) { nx := fun _ H' => Q .non H', rt := Q } [some (.ref ck), some (.ref a), some pv', some (.int lv), some (.ref nd), some rv, some v] H1 := by
      intro H1 v fv1 z rows1 ch hv hL1 hfv1 hz hrows ff1
      subst hz
      have hckL : ck ≠ L := fun z => by subst z; rw [hck] at hL; cases hL
      have ts := ch.tsame hL
      refine ⟨_, rfl, ck, CC, dx, _, _, rfl, ch _ _ hck hckL, cC.cl, cC.nF, lookup_hd, .inl ⟨rfl, _, SqL.of hL1⟩, ?_⟩
      refine ⟨_, rfl, _, rfl, _, rfl, by show 3 ≤ sizeLine; decide, fun p hp => ?_⟩
      have sp := Same.new (o := .tup [pv', .int lv, v]) hp
      have lfv : fv1.length = rows0.length + rows1.length := by rw [DpAll.length hfv1, List.length_append]
      have lr : rows.length = rows1.length + 1 := by rw [hrows]; simp
      refine ⟨L, fv1, _, rfl, rfl, sp _ _ hL1, Nat.lt_of_lt_of_le (show fv1.length < 1000001 by omega) (by decide), ?_⟩
      have hpL : p ≠ L := fun z => by subst z; rw [hL1] at hp; cases hp
      have tsp : TSame (upd H1 p (.tup [pv', .int lv, v])) (upd (upd H1 p (.tup [pv', .int lv, v])) L (.lst (fv1 ++ [.ref p]))) := TSame.mut (sp _ _ hL1) trivial
      refine ⟨_, rfl, k _ v (fv1 ++ [.ref p]) ?_ ?_ upd_same ?_⟩
      · exact (ch.trans (Chg.of sp)).trans Chg.upd
      · exact Dp.tsame tsp _ _ (Kd.flat _) (Dp.same sp _ _ hv)
      · rw [hrows, ← List.append_assoc]
        refine DpAll.append ?_ (.cons ?_ .nil)
        · exact DpAll.tsame tsp _ _ (by rw [flatDL_append, ff, ff1]; rfl) (DpAll.same sp _ _ hfv1)
        · refine .tup (tsp.seqT (SqT.of upd_same)) (.cons ?_ (.cons (.int _) (.cons ?_ .nil)))
          · exact Dp.tsame tsp _ _ (runs_flat _) (Dp.same sp _ _ (Dp.tsame ts _ _ (runs_flat _) hpl))
          · exact Dp.tsame tsp _ _ (Kd.flat _) (Dp.same sp _ _ hv)
    refine ⟨_, rfl, _, _, _, _, rfl, rfl, hsq, at_of (j := 0) rfl rfl, rfl, _, rfl, ite2 (fun hc' => ?_) (fun hc' => ?_)⟩
    · obtain ⟨x, hx, hnam, hrows⟩ := chk_name (tst (b := .name) hc') hchk
      rw [hx] at hsq
      refine ⟨_, rfl, ck, dx, _, rfl, hck, ckF_no ckS.2.1, _, rfl, _, _, _, _, rfl, rfl, hsq, at_of (j := 1) rfl rfl, _, rfl, _, rfl, _, rfl, _, rfl, ck, dx, nd, _, x, lv, pv', rv, c, runs, kd, rfl, hck, ckF_no ckS.1, hc, hrv, hnam, fun H1 v s1 hv => ?_⟩
      exact fin H1 v fv kd [] (Chg.of s1) hv (s1 _ _ hL) (by rw [List.append_nil]; exact DpAll.same s1 _ _ hfv) rfl hrows rfl
    · obtain ⟨l0, l3, dk, kinds, rows1, hin, hby, hrows⟩ := chk_other (tstN (b := .name) hc') hchk
      obtain ⟨dks, ff1⟩ := chkIn_p (chk_p n) hin
      refine ⟨_, rfl, ck, dx, _, rfl, hck, ckF_no ckS.1, _, rfl, rfl, _, rfl, _, _, _, _, rfl, rfl, hsq, at_of (j := 0) rfl rfl, _, rfl, lv, e.w.later, rfl, laterG_w _, _, _, rfl, rfl, _, rfl, ite2 (fun _ => ?_) (fun h => absurd (decide_eq_true l0) h)⟩
      refine ⟨_, _, rfl, rfl, _, rfl, _, _, _, _, rfl, decide_eq_true l3, ?_⟩
      refine ⟨_, rfl, ck, dx, _, rfl, hck, ckF_no ckS.2.2.2.2, _, rfl, _, rfl, _, rfl, ck, dx, _, rfl, hck, ckF_no ckS.2.2.1, _, rfl, _, rfl, _, rfl, _, rfl, _, rfl, ?_⟩
      have lr : rows.length = rows1.length + 1 := by rw [hrows]; simp
      refine ⟨e, place, lv, c, runs, rows0, rows1, kinds, L, ⟨ck, dx, a, nd, pv', rv, kvs, evs, fv, rfl, hck, hn, ok, hpl, hc, hrv, hL, hfv, ff⟩, hin, by omega, by omega, by omega, by omega, fun H1 q kv fv1 ch hq hq1 hkv hL1 hfv1 => ?_⟩
      have ts := ch.tsame hL
      have hckL : ck ≠ L := fun z => by subst z; rw [hck] at hL; cases hL
      have hn1 := hn.tsame ts
      refine ⟨ck, dx, a, q, _, pv', e.w, _, kvs, evs, kv, e.ks, kinds, kd, rfl, ch _ _ hck hckL, ckF_no ckS.1, hn1.v ok, hn1.ks, SqL.of hq1, hkv, fun k hk => Nat.le_trans (dk k hk) (by decide), dks, hby, fun H2 v s2 hv => ?_⟩
      exact fin H2 v fv1 kd rows1 (ch.trans (Chg.of s2)) hv (s2 _ _ hL1) (DpAll.same s2 _ _ hfv1) rfl hrows ff1
theorem putK_len2 (c : List (Key × V)) (k : Key) (x : V) : (putK c k x).length ≤ c.length + 1 := by
  unfold putK
  split <;> simp
abbrev nsInner : List Str := ["self", "e", "place", "level", "names", "runs", "parts", "there", "more", "first", "scope", "k"]
theorem sc_inner : FnScope nsInner psLook (defScope s_Check_inner) := ⟨rfl, rfl, rfl, by decide +kernel, rfl, by decide +kernel, by decide +kernel⟩
theorem name_made {H : Hp} {l k r : V} {Q : VK} (h : ∀ (x : Addr) (H' : Hp), Same H H' → H x = none → (∃ dx, H' x = some (.ins CN dx (nmF l k r))) → Q (.ref x) H') :
    ∀ x dx, H x = none → H dx = none → dx ≠ x → spNameInit CN (.ref x :: ([l, k, r] ++ [])) (upd (upd H dx (.own x)) x (.ins CN dx [])) (fun v H2 => v = .non ∧ Q (.ref x) H2) E0 := fun x dx nx nd ne =>
  ⟨x, dx, l, k, r, rfl, upd_same, fun H' keep hp => ⟨rfl, h x H' (Same.made nx nd keep) nx ⟨dx, hp⟩⟩⟩
theorem NameAt.updD {H : Hp} {v : V} {m : Nm} {d : Addr} {kvs : List (Key × V)} {o : HO} (n : NameAt K CN H v m) (hd : H d = some (.dK kvs)) : NameAt K CN (upd H d o) v m := by
  obtain ⟨a, dx, kv, rv, e, ha, h1, h2⟩ := n
  have ts : TSame H (upd H d o) := TSame.mut hd trivial
  exact ⟨a, dx, kv, rv, e, by rw [upd_ne (fun z => by subst z; rw [ha] at hd; cases hd)]; exact ha, Dp.tsame ts _ _ (Kd.flat _) h1, Dp.tsame ts _ _ (runs_flat _) h2⟩
def teInner (K : PySem.W.Frag) (CC CN : Addr) (n : Nat) : TE := tMeth CC "look" (spLook K CC CN n) [] E0 (tVar 0) (tCons (tOp (rIxL K) (tVar 6) (tVar 11)) (tCons (tOp (rCatU K) (tVar 2) (tTup (tCons (tVar 11) tNil))) (tCons (tVar 7) (tCons (tVar 10) (tCons (tVar 8) tNil)))))
theorem ok_inner {f : Addr} {fd : FuncData} {n : Nat} (F : Fun K "inner" "Check.inner" s_Check_inner f fd) (C : Cst K w mg dF dK dL dB) (cC : CheckC K CC)
    (GP : Dfn P w K mg base "parts_of" 1 ["e"] (spParts K)) (GW : Dfn P w K mg base "with_name" 1 ["names", "number", "name"] spWithName) (GM : CDfn P w K mg base "Name" CN 1 ["self", "level", "kind", "runs"] (spNameInit CN))
    (GL : MDfn P w K mg base CC "look" (70 + 2 * n) psLook (spLook K CC CN n)) : FnOk P w K mg base CX0 (70 + 2 * n + 1) f fd psLook (spInner K CC CN n) := by
  refine F.ok sc_inner (fun vs H Q E h => ?_) (fun cdv A outer s H vs Q E hr h => ?_)
  · obtain ⟨e, place, lv, c, runs, rows0, rows, k, L, ⟨ck, dx, a, nd, pv, rv, kvs, evs, fv, rfl, _⟩, _⟩ := h
    rfl
  · obtain ⟨e, place, lv, c, runs, rows0, rows, kinds, L, ⟨ck, dx, a, nd, pv', rv, kvs, evs, fv, rfl, hck, hn, ok, hpl, hc, hrv, hL, hfv, ff⟩, hin, b1, b2, b3, b4, k⟩ := h
    have hr1 : Room 1 _ := hr.mono (show 1 ≤ 70 + 2 * n by omega)
    have hr2 : Room 2 _ := hr.mono (show 2 ≤ 70 + 2 * n by omega)
    refine ⟨_, (pss_cons (ps_set (i := 6) sc_inner.nd rfl (Or.inr rfl) (pe_callD GP hr1 (by rfl) (pa_cons (pv 1) (pa_nil)))) (pss_cons (ps_set (i := 7) sc_inner.nd rfl (Or.inr rfl) (pe_op op_add (pv 3) (pe_kget2 C.fL (pe_gv C.LATER) (pe_ix ix_tup (pv 1) pe_int (fun _ _ => rfl)) pe_int ⟨rfl, rfl, rfl, rfl⟩))) (pss_cons (ps_set (i := 8) sc_inner.nd rfl (Or.inr rfl) (pe_ifExp (pt_cmpR op_eq (pe_ix ix_tup (pv 1) pe_int (fun _ _ => rfl)) pe_str (nomark _)) (pe_op op_catU (pv 5) (pe_tup (pa_cons (pv 3) (pa_nil)))) (pv 5))) (pss_cons (ps_if (pt_cmpR op_eq (pe_ix ix_tup (pv 1) pe_int (fun _ _ => rfl)) pe_str (nomark _))
        (pss_cons (ps_set (i := 9) sc_inner.nd rfl (Or.inl rfl) (pe_methD (pv 0) cC.cl GL hr (pa_cons (pe_ix ix_list (pv 6) pe_int (fun _ _ => rfl)) (pa_cons (pe_op op_catU (pv 2) (pe_tup (pa_cons (pe_int) (pa_nil)))) (pa_cons (pv 7) (pa_cons (pv 4) (pa_cons (pv 5) (pa_nil)))))))) (pss_cons (ps_set (i := 10) sc_inner.nd rfl (Or.inr rfl) (pe_callD GW hr1 (by rfl) (pa_cons (pv 4) (pa_cons (pe_ix ix_tup (pv 1) pe_int (fun _ _ => rfl)) (pa_cons (pe_makeD GM hr2 (by rfl) (pa_cons (pv 3) (pa_cons (pv 9) (pa_cons (pv 5) (pa_nil))))) (pa_nil)))))) (pss_one (ps_ret (pe_lst (pa_cons (pv 9) (pa_cons (pe_methD (pv 0) cC.cl GL hr (pa_cons (pe_ix ix_list (pv 6) pe_int (fun _ _ => rfl)) (pa_cons (pe_op op_catU (pv 2) (pe_tup (pa_cons (pe_int) (pa_nil)))) (pa_cons (pv 7) (pa_cons (pv 10) (pa_cons (pv 5) (pa_nil))))))) (pa_nil)))))))) pss_nil) (pss_cons (ps_set (i := 10) sc_inner.nd rfl (Or.inr rfl) (pv 4)) (pss_cons (ps_if (pt_cmpR op_eq (pe_ix ix_tup (pv 1) pe_int (fun _ _ => rfl)) pe_str (nomark _))
        (pss_one (ps_set (i := 10) sc_inner.nd rfl (Or.inr rfl) (pe_callD GW hr1 (by rfl) (pa_cons (pv 4) (pa_cons (pe_ix ix_tup (pv 1) pe_int (fun _ _ => rfl)) (pa_cons (pe_makeD GM hr2 (by rfl) (pa_cons (pv 3) (pa_cons (pe_ix ix_tup (pv 1) pe_int (fun _ _ => rfl)) (pa_cons (pv 5) (pa_nil))))) (pa_nil))))))) pss_nil) (pss_cons (ps_if (pt_cmpR op_eq (pe_ix ix_tup (pv 1) pe_int (fun _ _ => rfl)) pe_str (nomark _))
        (pss_cons (ps_set (i := 10) sc_inner.nd rfl (Or.inr rfl) (pe_callD GW hr1 (by rfl) (pa_cons (pv 4) (pa_cons (pe_ix ix_tup (pv 1) pe_int (fun _ _ => rfl)) (pa_cons (pe_makeD GM hr2 (by rfl) (pa_cons (pv 3) (pa_cons (pe_tup (pa_cons (pe_gv C.TO) (pa_cons (pe_ix ix_tup (pv 1) pe_int (fun _ _ => rfl)) (pa_cons (pe_ix ix_tup (pv 1) pe_int (fun _ _ => rfl)) (pa_nil))))) (pa_cons (pv 5) (pa_nil))))) (pa_nil)))))) (pss_one (ps_dput (hu_of hr) (pv 10) (pe_ix ix_tup (pv 1) pe_int (fun _ _ => rfl)) (pe_makeD GM hr2 (by rfl) (pa_cons (pv 3) (pa_cons (pe_ix ix_tup (pv 1) pe_int (fun _ _ => rfl)) (pa_cons (pv 5) (pa_nil))))) rfl))) pss_nil) (pss_one (ps_ret (pe_lc (own := [("k", 11)]) (g := gName 11) (tt := tYes) (te := teInner K CC CN n) rfl sc_inner.nd (pi_range1 (by rfl) C.range (pa_cons (pe_callB call_len_seq (by rfl) C.len boot_len (pa_cons (pv 6) (pa_nil))) (pa_nil))) (blkOk_by (N := nsInner) (sc := defScope s_Check_inner) (by decide +kernel))
        (fun _ _ _ _ _ => pg_name (i := 11) sc_inner.nd rfl (Or.inl rfl)) (fun _ _ _ _ _ => pts_nil) (fun _ _ _ _ _ => pe_methD (pv 0) cC.cl GL hr (pa_cons (pe_ix ix_list (pv 6) (pv 11) (fun _ _ => rfl)) (pa_cons (pe_op op_catU (pv 2) (pe_tup (pa_cons (pv 11) (pa_nil)))) (pa_cons (pv 7) (pa_cons (pv 10) (pa_cons (pv 8) (pa_nil))))))))))))))))), ?_⟩
    cases hpl with
    | tup hqp hap =>
    rename_i pa pvs
    obtain rfl := DpAll.ints hap
    cases hrv with
    | tup hqr har =>
    rename_i ra rvs
    obtain rfl := DpAll.ints har
    have hv := hn.v ok
    have hsq := hv.sq
    have hckL : ck ≠ L := fun z => by subst z; rw [hck] at hL; cases hL
    have lev : evs.length = e.es.length := by rw [DpAll.length hn.es, Ex.dL_eq, List.length_map]
    have lev3 : evs.length ≤ 3 := by
      rw [show evs.length = e.w.ar.2.2 from congrArg (·.2.2) hv.ar]
      cases e.w <;> decide
    have hoks : ∀ x ∈ e.es, x.ok = true := by
      cases e with
      | node w0 ns0 ks0 es0 =>
        rw [Ex.ok, Bool.and_eq_true] at ok
        exact Ex.okL_iff.mp ok.2
    refine ⟨_, rfl, e.w, a, _, kvs, evs, rfl, hv, fun H1 p s1 np hp => ?_⟩
    refine ⟨_, rfl, rfl, _, rfl, _, _, _, _, rfl, rfl, Same.seqT s1 hsq, at_of (j := 0) rfl rfl, _, rfl, lv, e.w.later, rfl, laterG_w _, ?_⟩
    have comp : ∀ (H2 : Hp) (z9 : Option V) (sd mq : Addr) (c2 : Ctx) (more : List Int), Same H H2 → H2 p = some (.lst evs) → CtxAt K CN H2 sd c2 → Dp K H2 (.ref mq) (runsD more) → more.length ≤ runs.length + 1 → c2.length ≤ c.length + 2 →
        mapChk (fun i e' => chk n e' (place ++ [i]) (lv + e.w.later) c2 more) 0 e.es = some (kinds, rows) →
        tRet (tLc (iRng1 (tCons (tCB (fun xs H Q => ∃ p ys, xs = [V.ref p] ∧ (SqL K H p ys ∨ SqT K H p ys) ∧ Q (.int (ys.length : Nat)) H) (tCons (tVar 6) tNil)) tNil)) (gName 11) tYes (teInner K CC CN n) [11]) { nx := fun _ H' => Q .non H', rt := Q }
          [some (.ref ck), some (.ref a), some (.ref pa), some (.int lv), some (.ref nd), some (.ref ra), some (.ref p), some (.int (lv + e.w.later)), some (.ref mq), z9, some (.ref sd), none] H2 := by
      intro H2 z9 sd mq c2 more s2 hp2 hc2 hmq lm lc hmap
      have hL2 := s2 _ _ hL
      refine ⟨_, rfl, p, evs, rfl, .inl (SqL.of hp2), _, rfl, by omega, by omega, fun D hD => ?_⟩
      have hDL : D ≠ L := fun z => by subst z; rw [hL2] at hD; cases hD
      refine lc_ex (walk_range (lo := 0) (n := evs.length)) (Nat.lt_of_le_of_lt (show evs.length ≤ 1000 by omega) (by decide)) (fun i acc H' => Chg L H2 H' ∧ ∃ ks1 rs1 ks2 rs2 fv1, kinds = ks1 ++ ks2 ∧ rows = rs1 ++ rs2 ∧ mapChk (fun i e' => chk n e' (place ++ [i]) (lv + e.w.later) c2 more) (i : Nat) (e.es.drop i) = some (ks2, rs2) ∧
        DpAll K H' acc (ks1.map Kd.d) ∧ H' L = some (.lst fv1) ∧ DpAll K H' fv1 (rows0 ++ rs1) ∧ flatDL rs1 = true) ?_ (fun _ _ _ _ _ => trivial) ?_ ?_ gName_mono
      · refine ⟨Chg.of (Same.new hD), [], [], kinds, rows, fv, rfl, rfl, hmap, .nil, Same.new hD _ _ hL2, ?_, rfl⟩
        rw [List.append_nil]
        exact DpAll.same (s2.trans (Same.new hD)) _ _ hfv
      · rintro i acc x H0 H' Q2 hi hacc ⟨ch, ks1, rs1, ks2, rs2, fv1, ek, er, hmp, hda, hL', hfv', ff1⟩ hl ⟨rfl, rfl⟩ k2
        have hlt : i < e.es.length := by omega
        have he : e.es[i]? = some e.es[i] := List.getElem?_eq_getElem hlt
        have hd : e.es.drop i = e.es[i] :: e.es.drop (i + 1) := List.drop_eq_getElem_cons hlt
        rw [hd] at hmp
        obtain ⟨ki, ri, hchk, ks3, rs3, hmp3, e3, e4⟩ := mapChk_step hmp
        subst e3 e4
        obtain ⟨ev, hev, hdev⟩ := DpAll.get' hn.es (show (Ex.dL e.es)[i]? = some e.es[i].d by rw [Ex.dL_eq, List.getElem?_map, he]; rfl)
        obtain ⟨ai, kvi, evi, rfl, hni⟩ := node_of hdev
        have ts2 : TSame H H' := (TSame.of s2).trans (ch.tsame hL2)
        have hpL : p ≠ L := fun z => by subst z; rw [hL] at np; cases np
        have hcb := chk_p n _ _ _ _ _ _ _ hchk
        refine ⟨rfl, _, rfl, ck, dx, _, rfl, ch _ _ (s2 _ _ hck) hckL, ckF_no ckS.2.2.2.1, _, rfl, _, rfl, p, evs, _, _, rfl, rfl, SqL.of (ch _ _ hp2 hpL), at_of (j := i) (by omega) hev, _, rfl, _, rfl, by show 1 ≤ sizeLine; decide, fun t ht => ?_⟩
        have st := Same.new (o := .tup [.int (0 + (i : Int))]) ht
        refine ⟨pa, t, place.map V.int, _, rfl, rfl, Same.seqT st (ts2.seqT hqp), SqT.of upd_same, ?_, fun q H3 s3 hq => ?_⟩
        · simp only [List.length_map, List.length_cons, List.length_nil]
          exact Nat.le_trans (show place.length + 1 ≤ 1000 by omega) (by decide)
        have s4 : Same H' H3 := st.trans s3
        have ch3 : Chg L H2 H3 := ch.trans (Chg.of s4)
        have ts3 : TSame H H3 := ts2.trans (TSame.of s4)
        have hq' : SqT K H3 q ((place ++ [(i : Int)]).map V.int) := by
          rw [List.map_append]
          simpa using hq
        refine ⟨_, rfl, _, rfl, _, rfl, e.es[i], place ++ [(i : Int)], lv + e.w.later, c2, more, rows0 ++ rs1, ri, ki, L, ⟨ck, dx, ai, sd, .ref q, .ref mq, kvi, evi, fv1, rfl, s4 _ _ (ch _ _ (s2 _ _ hck) hckL), hni.tsame ts3, hoks _ (List.getElem_mem hlt), .tup hq' (DpAll.ints' _), hc2.chg ch3 hL2, Dp.tsame (ch3.tsame hL2) _ _ (runs_flat _) hmq, s4 _ _ hL', DpAll.same s4 _ _ hfv', by rw [flatDL_append, ff, ff1]; rfl⟩, hchk, ?_, by omega, ?_, by omega, fun H4 v fv4 ch4 hv4 hL4 hfv4 => ?_⟩
        · rw [er] at b1
          simp only [List.length_append] at b1 ⊢
          omega
        · simp only [List.length_append, List.length_cons, List.length_nil]
          omega
        have hD4 : H4 D = some (.lst acc) := ch4 _ _ (s4 _ _ hl) hDL
        have tsD : TSame H4 (upd H4 D (.lst (acc ++ [v]))) := TSame.mut hD4 trivial
        have ts34 := ch4.tsame (s4 _ _ hL')
        refine k2 v H4 hD4 ⟨fun b o hb nb => ?_, ks1 ++ [ki], rs1 ++ ri, ks3, rs3, fv4, by rw [ek]; simp, by rw [er]; simp, ?_, ?_, by rw [upd_ne hDL.symm]; exact hL4, ?_, by rw [flatDL_append, ff1, hcb.2]; rfl⟩
        · rw [upd_ne (ne_of_none hb hD)]
          exact ch4 _ _ (ch3 _ _ hb nb) nb
        · have ei : ((i + 1 : Nat) : Int) = (i : Int) + 1 := by omega
          rw [ei]
          exact hmp3
        · rw [List.map_append]
          exact DpAll.append (DpAll.tsame tsD _ _ (Kd.flatL _) (DpAll.tsame ts34 _ _ (Kd.flatL _) (DpAll.same s4 _ _ hda))) (.cons (Dp.tsame tsD _ _ (Kd.flat _) hv4) .nil)
        · rw [← List.append_assoc]
          exact DpAll.tsame tsD _ _ (by rw [flatDL_append, flatDL_append, ff, ff1, hcb.2]; rfl) hfv4
      · rintro acc H' ⟨ch, ks1, rs1, ks2, rs2, fv1, ek, er, hmp, hda, hL', hfv', ff1⟩ hl hacc
        rw [List.drop_of_length_le (by omega)] at hmp
        cases hmp
        rw [List.append_nil] at ek er
        subst ek er
        exact k H' D acc fv1 ((Chg.of s2).trans ch) (s2.free hD) hl hda hL' hfv'
    have hsq1 := Same.seqT s1 hsq
    have hL1 := s1 _ _ hL
    have hpL : p ≠ L := fun z => by subst z; rw [hL] at np; cases np
    have nrun : ∀ w' : Wd, w' ≠ .run → ¬ (decide (V.str w'.s = V.str ("run" : Str)) = true) := fun w' h hc => h (tst (b := .run) hc)
    refine ⟨_, rfl, _, _, _, _, rfl, rfl, hsq1, at_of (j := 0) rfl rfl, rfl, _, rfl, ite2 (fun hcR => ?_) (fun hcR => ?_)⟩
    · -- run
      have hw : e.w = .run := tst (b := .run) hcR
      refine ⟨_, rfl, _, rfl, by show 1 ≤ sizeLine; decide, fun t ht => ?_⟩
      have st := Same.new (o := .tup [.int lv]) ht
      refine ⟨ra, t, runs.map V.int, _, rfl, rfl, Same.seqT (s1.trans st) hqr, SqT.of upd_same, ?_, fun q H2 s2 hq => ?_⟩
      · simp only [List.length_map, List.length_cons, List.length_nil]
        exact Nat.le_trans (show runs.length + 1 ≤ 1000 by omega) (by decide)
      have s3 : Same H H2 := s1.trans (st.trans s2)
      have hsq3 := Same.seqT s3 hsq
      have hmap : mapChk (fun i e' => chk n e' (place ++ [i]) (lv + e.w.later) c (runs ++ [lv])) 0 e.es = some (kinds, rows) := by
        unfold chkIn at hin
        rw [if_neg (by rw [hw]; decide), if_pos hw] at hin
        rw [show scopeBy e.w e.ns e.ks lv c runs = c by rw [hw]; rfl] at hin
        exact hin
      refine ⟨_, rfl, _, _, _, _, rfl, rfl, hsq3, at_of (j := 0) rfl rfl, rfl, _, rfl, ite2 (fun hc' => absurd (tst (b := .lt) hc') (by rw [hw]; decide)) (fun _ => ?_)⟩
      refine ⟨_, rfl, ?_⟩
      refine ⟨_, rfl, _, _, _, _, rfl, rfl, hsq3, at_of (j := 0) rfl rfl, rfl, _, rfl, ite2 (fun hc' => absurd (tst (b := .fn) hc') (by rw [hw]; decide)) (fun _ => ?_)⟩
      refine ⟨_, rfl, _, _, _, _, rfl, rfl, hsq3, at_of (j := 0) rfl rfl, rfl, _, rfl, ite2 (fun hc' => absurd (tst (b := .rc) hc') (by rw [hw]; decide)) (fun _ => ?_)⟩
      refine comp H2 none nd q c (runs ++ [lv]) s3 (s2 _ _ (st _ _ hp)) (hc.same s3) (.tup ?_ (DpAll.ints' _)) (by simp) (by omega) hmap
      rw [List.map_append]
      exact hq
    · have hwr : ¬ e.w = .run := fun h => nrun e.w (fun _ => hcR (by rw [h]; rfl)) (by rw [h]; rfl)
      refine ⟨_, rfl, ?_⟩
      refine ⟨_, rfl, _, _, _, _, rfl, rfl, hsq1, at_of (j := 0) rfl rfl, rfl, _, rfl, ite2 (fun hcL => ?_) (fun hcL => ?_)⟩
      · -- let
        have hw : e.w = .lt := tst (b := .lt) hcL
        rw [hw] at hin
        obtain ⟨x, ea, eb, ka, ra', kb, rb', hx, hes, hca, hcb, rfl, rfl⟩ := chkIn_lt hin
        have hdes := hn.es
        rw [hes] at hdes
        obtain ⟨ev1, ev2, rfl, hd1, hd2⟩ := dp2 hdes
        obtain ⟨aa, kva, eva, rfl, hna⟩ := node_of hd1
        obtain ⟨ab, kvb, evb, rfl, hnb⟩ := node_of hd2
        have hoa := hoks ea (by rw [hes]; simp)
        have hob := hoks eb (by rw [hes]; simp)
        rw [hx] at hsq hsq1
        obtain ⟨pka, pfa⟩ := chk_p n _ _ _ _ _ _ _ hca
        obtain ⟨pkb, pfb⟩ := chk_p n _ _ _ _ _ _ _ hcb
        simp only [List.length_append] at b1
        have hth : lv + e.w.later = lv + Wd.lt.later := by rw [hw]
        refine ⟨_, rfl, ck, dx, _, rfl, s1 _ _ hck, ckF_no ckS.2.2.2.1, _, rfl, p, _, _, _, rfl, rfl, SqL.of hp, at_of (j := 0) rfl rfl, _, rfl, by show 1 ≤ sizeLine; decide, fun t ht => ?_⟩
        have st := Same.new (o := .tup [.int 0]) ht
        refine ⟨pa, t, place.map V.int, _, rfl, rfl, Same.seqT (s1.trans st) hqp, SqT.of upd_same, ?_, fun q H2 s2 hq => ?_⟩
        · simp only [List.length_map, List.length_cons, List.length_nil]
          exact Nat.le_trans (show place.length + 1 ≤ 1000 by omega) (by decide)
        have s3 := (s1.trans st).trans s2
        have hq' : SqT K H2 q ((place ++ [(0 : Int)]).map V.int) := by
          rw [List.map_append]
          exact hq
        refine ⟨_, rfl, _, rfl, _, rfl, ea, place ++ [0], lv + e.w.later, c, runs, rows0, ra', ka, L, ⟨ck, dx, aa, nd, .ref q, .ref ra, kva, eva, fv, rfl, s3 _ _ hck, hna.tsame (TSame.of s3), hoa, .tup hq' (DpAll.ints' _), hc.same s3, .tup (Same.seqT s3 hqr) (DpAll.ints' _), s3 _ _ hL, DpAll.same s3 _ _ hfv, ff⟩, by rw [hth]; exact hca, by omega, by omega, by simp; omega, by omega, fun H3 v1 fv1 ch1 hv1 hL3 hfv1 => ?_⟩
        have hL2 := s3 _ _ hL
        have ch3 : Chg L H H3 := (Chg.of s3).trans ch1
        have ts3 := ch3.tsame hL
        have hc3 := hc.chg ch3 hL
        obtain ⟨kvs0, hnd0, hda0⟩ := hc3
        refine ⟨_, rfl, _, rfl, _, _, _, _, rfl, rfl, ts3.seqT hsq, at_of (j := 1) rfl rfl, _, rfl, _, rfl, _, rfl, ?_⟩
        intro xa xdx nx ndx nex
        refine ⟨xa, xdx, _, _, _, rfl, upd_same, fun H4 kxa hxa => ⟨rfl, ?_⟩⟩
        have s4 := Same.made nx ndx kxa
        refine ⟨nd, kvs0, x, .ref xa, rfl, s4 _ _ hnd0, Nat.lt_of_le_of_lt (show kvs0.length ≤ 1000 by rw [hda0.length]; omega) (by decide), fun H5 sd s5 nsd hsd => ?_⟩
        have s45 := s4.trans s5
        have ch5 : Chg L H H5 := ch3.trans (Chg.of s45)
        have ts5 := ch5.tsame hL
        have hp5 : H5 p = some (.lst [.ref aa, .ref ab]) := s45 _ _ (ch1 _ _ (s2 _ _ (st _ _ hp)) hpL)
        refine ⟨_, rfl, _, rfl, ck, dx, _, rfl, ch5 _ _ hck hckL, ckF_no ckS.2.2.2.1, _, rfl, p, _, _, _, rfl, rfl, SqL.of hp5, at_of (j := 1) rfl rfl, _, rfl, by show 1 ≤ sizeLine; decide, fun t2 ht2 => ?_⟩
        have st2 := Same.new (o := .tup [.int 1]) ht2
        refine ⟨pa, t2, place.map V.int, _, rfl, rfl, Same.seqT st2 (ts5.seqT hqp), SqT.of upd_same, ?_, fun q2 H6 s6 hq2 => ?_⟩
        · simp only [List.length_map, List.length_cons, List.length_nil]
          exact Nat.le_trans (show place.length + 1 ≤ 1000 by omega) (by decide)
        have s56 := st2.trans s6
        have ch6 : Chg L H H6 := ch5.trans (Chg.of s56)
        have ts6 := ch6.tsame hL
        have hq2' : SqT K H6 q2 ((place ++ [(1 : Int)]).map V.int) := by
          rw [List.map_append]
          exact hq2
        have s36 := s45.trans s56
        have hnm : NameAt K CN H6 (.ref xa) ⟨lv, ka, runs⟩ := ⟨xa, xdx, v1, .ref ra, rfl, s56 _ _ (s5 _ _ hxa), Dp.same s36 _ _ hv1, .tup (ts6.seqT hqr) (DpAll.ints' _)⟩
        refine ⟨_, rfl, _, rfl, _, rfl, eb, place ++ [1], lv + e.w.later, put c x ⟨lv, ka, runs⟩, runs, rows0 ++ ra', rb', kb, L, ⟨ck, dx, ab, sd, .ref q2, .ref ra, kvb, evb, fv1, rfl, ch6 _ _ hck hckL, hnb.tsame ts6, hob, .tup hq2' (DpAll.ints' _), ⟨_, s56 _ _ hsd, (hda0.mono fun v m z => z.same s36).put hnm⟩, .tup (ts6.seqT hqr) (DpAll.ints' _), s36 _ _ hL3, DpAll.same s36 _ _ hfv1, by rw [flatDL_append, ff, pfa]; rfl⟩, by rw [hth]; exact hcb, by simp; omega, ?_, by simp; omega, by omega, fun H7 v2 fv2 ch7 hv2 hL7 hfv2 => ?_⟩
        · have := put_len c x (⟨lv, ka, runs⟩ : Nm)
          omega
        refine ⟨by show 2 ≤ sizeLine; decide, fun l hl => ?_⟩
        have sl := Same.new (o := .lst [v1, v2]) hl
        have ch8 : Chg L H H7 := ch6.trans ch7
        refine k _ l [v1, v2] fv2 (ch8.trans (Chg.of sl)) ?_ upd_same ?_ (sl _ _ hL7) ?_
        · exact ch8.free (fun z => by subst z; rw [hL7] at hl; cases hl) hl
        · refine .cons ?_ (.cons ?_ .nil)
          · exact Dp.same sl _ _ (Dp.tsame (ch7.tsame (s36 _ _ hL3)) _ _ (Kd.flat _) (Dp.same s36 _ _ hv1))
          · exact Dp.same sl _ _ hv2
        · rw [← List.append_assoc]
          exact DpAll.same sl _ _ hfv2
      have hwl : ¬ e.w = .lt := tstN (b := .lt) hcL
      unfold chkIn at hin
      rw [if_neg hwl, if_neg hwr] at hin
      have hmr : Dp K H1 (.ref ra) (runsD runs) := .tup (Same.seqT s1 hqr) (DpAll.ints' _)
      refine ⟨_, rfl, ?_⟩
      refine ⟨_, rfl, _, _, _, _, rfl, rfl, hsq1, at_of (j := 0) rfl rfl, rfl, _, rfl, ite2 (fun hcF => ?_) (fun hcF => ?_)⟩
      · -- fun
        have hw : e.w = .fn := tst (b := .fn) hcF
        have har := hv.ar
        rw [hw] at har
        simp only [Wd.ar, Prod.mk.injEq, List.length_map] at har
        obtain ⟨x, hx⟩ := len1 har.1
        have hks := hn.ks
        obtain ⟨kk, hkk⟩ : ∃ kk, e.ks = [kk] := len1 (by rw [← har.2.1, DpAll.length hks, List.length_map])
        rw [hkk] at hks
        obtain ⟨kv, rfl, hdk⟩ := dp1 hks
        rw [hx] at hsq hsq1
        rw [hw, hx, hkk] at hin
        refine ⟨_, rfl, _, rfl, _, _, _, _, rfl, rfl, hsq1, at_of (j := 1) rfl rfl, _, rfl, _, rfl, _, _, _, _, rfl, rfl, hsq1, at_of (j := 2) rfl rfl, _, rfl, ?_⟩
        intro xa xdx nx ndxa nexa
        refine ⟨xa, xdx, _, _, _, rfl, upd_same, fun H2 kpxa hxa => ⟨rfl, ?_⟩⟩
        have s2 := Same.made nx ndxa kpxa
        have s3 := s1.trans s2
        obtain ⟨kvs0, hnd0, hda0⟩ := hc
        refine ⟨nd, kvs0, x, .ref xa, rfl, s3 _ _ hnd0, Nat.lt_of_le_of_lt (show kvs0.length ≤ 1000 by rw [hda0.length]; omega) (by decide), fun H3 sd s4 nsd hsd => ?_⟩
        have s5 := s3.trans s4
        have hsq5 := Same.seqT s5 hsq
        refine ⟨_, rfl, _, _, _, _, rfl, rfl, hsq5, at_of (j := 0) rfl rfl, rfl, _, rfl, ite2 (fun hc' => absurd (tst (b := .rc) hc') (by rw [hw]; decide)) (fun _ => ?_)⟩
        have hnm : NameAt K CN H3 (.ref xa) ⟨lv, kk, runs⟩ := ⟨xa, xdx, kv, .ref ra, rfl, s4 _ _ hxa, Dp.same s5 _ _ hdk, .tup (Same.seqT s5 hqr) (DpAll.ints' _)⟩
        refine comp H3 none sd ra (put c x ⟨lv, kk, runs⟩) runs s5 (s4 _ _ (s2 _ _ hp)) ⟨_, hsd, (hda0.mono fun v m z => z.same s5).put hnm⟩ (.tup (Same.seqT s5 hqr) (DpAll.ints' _)) (by omega) ?_ ?_
        · have := put_len c x (⟨lv, kk, runs⟩ : Nm)
          omega
        · rw [hw]
          exact hin
      have hwf : ¬ e.w = .fn := tstN (b := .fn) hcF
      refine ⟨_, rfl, _, _, _, _, rfl, rfl, hsq1, at_of (j := 0) rfl rfl, rfl, _, rfl, ite2 (fun hcC => ?_) (fun hcC => ?_)⟩
      · -- rec
        have hw : e.w = .rc := tst (b := .rc) hcC
        have har := hv.ar
        rw [hw] at har
        simp only [Wd.ar, Prod.mk.injEq, List.length_map] at har
        obtain ⟨fx, x, hx⟩ := len2 har.1
        have hks := hn.ks
        obtain ⟨ka, kb, hkk⟩ : ∃ ka kb, e.ks = [ka, kb] := len2 (by rw [← har.2.1, DpAll.length hks, List.length_map])
        rw [hkk] at hks
        obtain ⟨va, vb, rfl, hda, hdb⟩ := dp2 hks
        rw [hx] at hsq hsq1
        rw [hw, hx, hkk] at hin
        refine ⟨_, rfl, _, rfl, _, _, _, _, rfl, rfl, hsq1, at_of (j := 1) rfl rfl, _, rfl, _, rfl, _, _, _, _, rfl, rfl, hsq1, at_of (j := 3) rfl rfl, _, rfl, _, _, _, _, rfl, rfl, hsq1, at_of (j := 4) rfl rfl, by show 3 ≤ sizeLine; decide, fun t ht => ?_⟩
        have st := Same.new (o := .tup [.str "to", va, vb]) ht
        refine ⟨_, rfl, ?_⟩
        intro xa xdx nx ndxa nexa
        refine ⟨xa, xdx, _, _, _, rfl, upd_same, fun H2 kpxa hxa => ⟨rfl, ?_⟩⟩
        have s2 := Same.made nx ndxa kpxa
        have s3 := (s1.trans st).trans s2
        obtain ⟨kvs0, hnd0, hda0⟩ := hc
        have lk0 : kvs0.length ≤ 1000 := by rw [hda0.length]; omega
        refine ⟨nd, kvs0, fx, .ref xa, rfl, s3 _ _ hnd0, Nat.lt_of_le_of_lt lk0 (by decide), fun H3 sd s4 nsd hsd => ?_⟩
        have s5 := s3.trans s4
        have hsq5 := Same.seqT s5 hsq
        refine ⟨_, rfl, _, rfl, _, _, _, _, rfl, rfl, hsq5, at_of (j := 3) rfl rfl, _, rfl, ?_⟩
        intro xb xdxb nxb ndxb nexb
        refine ⟨xb, xdxb, _, _, _, rfl, upd_same, fun H4 kpxb hxb => ⟨rfl, ?_⟩⟩
        have s6 := Same.made nxb ndxb kpxb
        refine ⟨_, rfl, _, rfl, _, _, _, _, rfl, rfl, Same.seqT s6 hsq5, at_of (j := 2) rfl rfl, sd, _, rfl, DPut.k (k := Sum.inl x) (s6 _ _ hsd) ?_, ?_⟩
        · have := putK_len2 kvs0 (Sum.inl fx : Key) (V.ref xa)
          exact Nat.lt_of_le_of_lt (show _ ≤ 1001 by omega) (by decide)
        have s7 := s5.trans s6
        have hsd4 := s6 _ _ hsd
        have nsd0 : H sd = none := s3.free nsd
        have s8 : Same H (upd H4 sd (.dK (putK (putK kvs0 (Sum.inl fx : Key) (V.ref xa)) (Sum.inl x) (V.ref xb)))) := Same.over s7 nsd0
        have hnm1 : NameAt K CN H4 (.ref xa) ⟨lv, .to ka kb, runs⟩ := ⟨xa, xdx, .ref t, .ref ra, rfl, s6 _ _ (s4 _ _ hxa), .tup (SqT.of (s6 _ _ (s4 _ _ (s2 _ _ upd_same)))) (.cons (.str _) (.cons (Dp.same s7 _ _ hda) (.cons (Dp.same s7 _ _ hdb) .nil))), .tup (Same.seqT s7 hqr) (DpAll.ints' _)⟩
        have hnm2 : NameAt K CN H4 (.ref xb) ⟨lv, ka, runs⟩ := ⟨xb, xdxb, va, .ref ra, rfl, hxb, Dp.same s7 _ _ hda, .tup (Same.seqT s7 hqr) (DpAll.ints' _)⟩
        refine comp _ none sd ra (put (put c fx ⟨lv, .to ka kb, runs⟩) x ⟨lv, ka, runs⟩) runs s8 ?_ ⟨_, upd_same, (((hda0.mono fun v m z => z.same s7).put hnm1).put hnm2).mono fun v m z => z.updD hsd4⟩ (.tup (Same.seqT s8 hqr) (DpAll.ints' _)) (by omega) ?_ ?_
        · have hp4 := s6 _ _ (s4 _ _ (s2 _ _ (st _ _ hp)))
          rw [upd_ne (fun z => by subst z; rw [hsd4] at hp4; cases hp4)]
          exact hp4
        · have h1 := put_len c fx (⟨lv, .to ka kb, runs⟩ : Nm)
          have h2 := put_len (put c fx (⟨lv, .to ka kb, runs⟩ : Nm)) x (⟨lv, ka, runs⟩ : Nm)
          omega
        · rw [hw]
          exact hin
      have hwc : ¬ e.w = .rc := tstN (b := .rc) hcC
      rw [scopeBy_no hwf hwc] at hin
      exact comp H1 none nd ra c runs s1 hp (hc.same s1) hmr (by omega) (by omega) hin
end
end Lw
set_option Elab.async false
set_option linter.all false
set_option maxRecDepth 100000
set_option maxHeartbeats 4000000
namespace Lw
open PySem PySem.Spec PyProof.Rows L2 RZ
theorem kindG_w (k : Kd) (h : k ≠ .num) : (kindG k.w).getD (.int (0 - 1)) = .int (k.args.length : Nat) := by
  cases k with
  | num => exact absurd rfl h
  | to a b => exact (by decide +kernel : (kindG "to").getD (.int (0 - 1)) = .int 2)
  | two a b => exact (by decide +kernel : (kindG "two").getD (.int (0 - 1)) = .int 2)
  | code a => exact (by decide +kernel : (kindG "code").getD (.int (0 - 1)) = .int 1)
/-- a def with defaults -/
structure DfnD (P : Program) (w : World) (K : PySem.W.Frag) (mg : Str → Option Value) (base : Heap) (x : Str) (k : Nat) (ps : List Str) (dvs : List V) (sp : Sp) : Prop where
  ex : ∃ f fd, FnOk P w K mg base CX0 k f fd ps sp ∧ mg x = some (.ref f) ∧ PySem.W.keepIn K (.ref f) = true ∧ Binds K fd ps [] ∧ ∃ ds, Vals dvs ds ∧ Binds K fd ps ds
structure AtD (K : PySem.W.Frag) (mg : Str → Option Value) (x qual : Str) (st : Stmt) (ps : List Str) (dvs : List V) : Prop where
  ex : ∃ f fd kws, FunD K x qual (defArgs st) (defBody st) (defScope st) dvs kws f fd ∧ mg x = some (.ref f) ∧ Binds K fd ps [] ∧ ∃ ds, Vals dvs ds ∧ Binds K fd ps ds
theorem FunD_ok0 {P : Program} {w : World} {K : PySem.W.Frag} {mg : Str → Option Value} {base : Heap} {x qual : Str} {params : Arguments} {body : List Stmt} {scope : Scope} {dvs : List V} {kws : List (Str × V)} {f : Addr} {fd : FuncData}
    {N ps : List Str} {k : Nat} {sp : Sp} (F : FunD K x qual params body scope dvs kws f fd) (S : FnScope N ps scope) (len : ∀ vs H Q E, sp vs H Q E → vs.length = ps.length)
    (hbody : ∀ (cdv : Value) (A : Around) (outer : List Env) (s : Shared) (H : Hp) (vs : List V) (Q : VK) (E : XK), Room k (A.deeper (envOfC qual scope s.heap.objs.size f cdv)) → sp vs H Q E →
      ∃ t, PSs (cxOf CX0 P w K mg base N qual scope f cdv A outer s H E).nox body t ∧ t { nx := fun _ H' => Q .non H', rt := Q } (start N vs) H) : FnOk P w K mg base CX0 (k + 1) f fd ps sp :=
  F.ok S len fun cdv A outer s H vs Q E hr hsp => by
    obtain ⟨t, h, q⟩ := hbody cdv A outer s H vs Q E hr hsp
    exact ⟨t, h.nox, q⟩
theorem DfnD.of {P : Program} {w : World} {K : PySem.W.Frag} {mg : Str → Option Value} {base : Heap} {x qual : Str} {k : Nat} {st : Stmt} {ps : List Str} {dvs : List V} {sp : Sp} (a : AtD K mg x qual st ps dvs)
    (h : ∀ f fd kws, FunD K x qual (defArgs st) (defBody st) (defScope st) dvs kws f fd → FnOk P w K mg base CX0 k f fd ps sp) : DfnD P w K mg base x k ps dvs sp := by
  obtain ⟨f, fd, kws, F, m, b, d⟩ := a.ex
  exact ⟨f, fd, h f fd kws F, m, F.kp, b, d⟩
theorem DfnD.never {P : Program} {w : World} {K : PySem.W.Frag} {mg : Str → Option Value} {base : Heap} {x qual : Str} {st : Stmt} {ps : List Str} {dvs : List V} {sp : Sp} (a : AtD K mg x qual st ps dvs) (h : ∀ vs H Q E, ¬ sp vs H Q E) : DfnD P w K mg base x 0 ps dvs sp := by
  obtain ⟨f, fd, kws, F, m, b, d⟩ := a.ex
  exact ⟨f, fd, ⟨fun vs H Q E q => absurd q (h _ _ _ _), fun A outer s H args us vs Q E hr e0 bt r q => absurd q (h _ _ _ _)⟩, m, F.kp, b, d⟩
theorem DfnD.full {P : Program} {w : World} {K : PySem.W.Frag} {mg : Str → Option Value} {base : Heap} {x : Str} {k : Nat} {ps : List Str} {dvs : List V} {sp : Sp} (D : DfnD P w K mg base x k ps dvs sp) : Dfn P w K mg base x k ps sp := by
  obtain ⟨f, fd, F, m, kp, b, _⟩ := D.ex
  exact ⟨f, fd, F, m, kp, b⟩
theorem pe_callDD {X : Cx} {x : Str} {k : Nat} {ps : List Str} {dvs : List V} {sp : Sp} {e : Expr} {es : List Expr} {t : TA} {p pos : Pos} (D : DfnD X.prog X.w X.K X.mg X.base x k ps dvs sp) (hr : Room k X.A) (hg : Gl X x) (ha : PA X (e :: es) t)
    (hdb : (x == ("__debug__" : Str)) = false := by decide) (he : starEach (e :: es) X.env = (false, eval e X.env) :: starEach es X.env := by rfl) (hpl : (backTo pos (starEach es X.env)).any (·.1) = false := by rfl) :
    PE X (.Call (.Name x p) (e :: es) [] pos) (tCall sp dvs E0 t) := by
  obtain ⟨f, fd, F, m, kp, _, ds, hd, b⟩ := D.ex
  exact pe_call F hr hg m kp b hd pass0 ha hdb he hpl
def spIsKind (K : PySem.W.Frag) (n : Nat) : Sp := fun vs H Q _ => ∃ (v : V) (k : Kd) (d : Int), vs = [v, .int d] ∧ Dp K H v k.d ∧ (k.dep : Int) < d ∧ d ≤ n ∧ n ≤ 60 ∧ ∀ H', Same H H' → Q (.bl true) H'
def spIsHead (K : PySem.W.Frag) : Sp := fun vs H Q _ => ∃ (w : Wd) (a : Addr) (ns : List Int) (ks : List Kd) (kvs evs : List V), vs = [.ref a] ∧ NodeV K H w (ns.map V.int) kvs evs a ∧ DpAll K H kvs (ks.map Kd.d) ∧ (∀ x ∈ ns, 0 ≤ x ∧ x ≤ 999) ∧ (∀ k ∈ ks, k.dep ≤ 4) ∧ ∀ H', Same H H' → Q (.bl true) H'
section
variable {P : Program} {w : World} {K : PySem.W.Frag} {mg : Str → Option Value} {base : Heap} {dF dK dL dB CN CC : Addr}
theorem sc_is_kind : FnScope ["thing", "deep", "inner"] ["thing", "deep"] (defScope s_is_kind) := ⟨rfl, rfl, rfl, by decide +kernel, rfl, by decide +kernel, by decide +kernel⟩
theorem ok_is_kind (a : AtD K mg "is_kind" "is_kind" s_is_kind ["thing", "deep"] [.int 5]) (C : Cst K w mg dF dK dL dB) : ∀ n, DfnD P w K mg base "is_kind" n ["thing", "deep"] [.int 5] (spIsKind K n)
  | 0 => .never a fun vs H Q E ⟨v, k, d, _, _, h, h2, _⟩ => by omega
  | n + 1 => .of a fun f fd kws F => by
    have G := (ok_is_kind a C n).full
    refine FunD_ok0 F sc_is_kind (fun vs H Q E h => ?_) (fun cdv A outer s H vs Q E hr h => ?_)
    · obtain ⟨v, k, d, rfl, _⟩ := h
      rfl
    · obtain ⟨v, kd, d, rfl, hd, hdep, hdn, hn60, k⟩ := h
      refine ⟨_, (pss_cons (ps_if (pt_cmpR (op_eqD hr.units) (pv 0) (pe_gv C.NUM) (nomark _)) (pss_one (ps_ret pe_bl)) pss_nil) (pss_cons (ps_if (PW.pt (pw_or (pt_cmpR op_eq (pv 1) pe_int (nomark _)) (pw_or (pt_not (pt_val (pe_callB call_isi (by rfl) C.isi boot_isinstance (pa_cons (pv 0) (pa_cons (pe_bltn (v := .ty "tuple") (by rfl) C.tuple boot_tuple rfl) (pa_nil))))))
            (pw_or (pt_cmpR (op_eqD hr.units) (pv 0) (pe_tup pa_nil) (nomark _)) (pw_or1 (pt_not (pt_val (pe_callB call_isi (by rfl) C.isi boot_isinstance (pa_cons (pe_ix ix_tup (pv 0) pe_int (fun _ _ => rfl)) (pa_cons (pe_bltn (v := .ty "str") (by rfl) C.str boot_str rfl) (pa_nil)))))))))))
          (pss_one (ps_ret pe_bl)) pss_nil) (pss_cons (ps_if (pt_cmpR op_ne (pe_callB call_len_seq (by rfl) C.len boot_len (pa_cons (pv 0) (pa_nil))) (pe_op op_add pe_int (pe_kget2 C.fK (pe_gv C.KINDS) (pe_ix ix_tup (pv 0) pe_int (fun _ _ => rfl)) (pe_op op_sub pe_int pe_int) ⟨rfl, rfl, rfl, rfl⟩)) (nomark _)) (pss_one (ps_ret pe_bl)) pss_nil) (pss_one (ps_ret (pe_callB (cr_all rfl) (by rfl) C.all boot_all (pa_cons (pe_lc (own := [("inner", 2)]) (g := gName 2) (tt := tYes) (te := tCall (spIsKind K n) [] E0 (tCons (tVar 2) (tCons (tOp (rI0 fun i j => .int (i - j)) (tVar 1) (tC (.int 1))) tNil))) rfl sc_is_kind.nd (pi_tup (pe_slice sl_tup (pv 0) (po_some pe_int) po_none))
          (blkOk_by (N := ["thing", "deep", "inner"]) (sc := defScope s_is_kind) (by decide +kernel)) (fun _ _ _ _ _ => pg_name (i := 2) sc_is_kind.nd rfl (Or.inl rfl)) (fun _ _ _ _ _ => pts_nil) (fun _ _ _ _ _ => pe_callD G hr (by rfl) (pa_cons (pv 2) (pa_cons (pe_op op_sub (pv 1) pe_int) (pa_nil))))) (pa_nil)))))))), ?_⟩
      have d64 : kd.dep ≤ 64 := by omega
      refine ⟨_, rfl, kd.d, _, hd, .str _, Kd.shaped d64, num_shaped, _, rfl, ?_⟩
      rw [show PyData.eqv kd.d (.str "num") = decide (kd = .num) from Kd.eqv kd .num]
      refine ite2 (fun _ => k H (Same.refl H)) (fun hc => ?_)
      have e : kd ≠ .num := fun z => hc (decide_eq_true z)
      obtain ⟨p, vs, rfl, hq, ha⟩ := kd_of hd e
      have hdep1 : 1 ≤ kd.dep := by cases kd with | num => exact absurd rfl e | to a b => simp [Kd.dep] | two a b => simp [Kd.dep] | code a => simp [Kd.dep]
      have ht : tyN kd.d = "tuple" := by cases kd with | num => exact absurd rfl e | to a b => rfl | two a b => rfl | code a => rfl
      have e1 : ¬ decide (V.int d = V.int 1) = true := fun h => by
        have := V.int.inj (of_decide_eq_true h)
        omega
      refine ⟨_, rfl, rfl, _, rfl, ite2 (fun h => absurd h e1) (fun _ => ?_)⟩
      refine ⟨_, rfl, _, _, _, _, true, rfl, .ty "tuple", ty_of hd, kit_ty (by rw [ht]; exact kit_tuple (.tuple [])), true, rfl, iteF ?_⟩
      refine ⟨_, rfl, by show 0 ≤ sizeLine; decide, fun t0 ht0 => ?_⟩
      have s1 : Same H (upd H t0 (.tup [])) := Same.new ht0
      refine ⟨kd.d, .tuple [], Dp.same s1 _ _ hd, .tup (SqT.of upd_same) .nil, Kd.shaped d64, by decide, false, ?_, iteF ?_⟩
      · cases kd with | num => exact absurd rfl e | to a b => rfl | two a b => rfl | code a => rfl
      have hq1 := Same.seqT s1 hq
      refine ⟨_, rfl, _, _, _, _, rfl, rfl, hq1, at_of (j := 0) rfl rfl, _, _, _, _, true, rfl, .ty "str", .base (.str _), kit_ty (kit_str (.str "")), true, rfl, iteF ?_⟩
      have lv : vs.length = kd.args.length := by rw [DpAll.length ha, List.length_map]
      refine ⟨_, rfl, p, _, rfl, .inr hq1, rfl, _, rfl, _, _, _, _, rfl, rfl, hq1, at_of (j := 0) rfl rfl, _, _, rfl, rfl, _, rfl, 1, (kd.args.length : Int), rfl, kindG_w kd e, rfl, _, rfl, ite2 (fun h => ?_) (fun _ => ?_)⟩
      · exfalso
        have e2 : V.int (((V.str kd.w :: vs).length : Nat) : Int) = V.int (1 + (kd.args.length : Int)) := by
          rw [List.length_cons, lv]
          congr 1
          omega
        rw [e2] at h
        simp at h
      refine ⟨_, rfl, _, rfl, _, _, rfl, hq1, cut1_no, fun t ht' => ?_⟩
      rw [cut1]
      refine ⟨t, rfl, ⟨vs, SqT.of upd_same⟩, fun D hD => ?_⟩
      have nD : H D = none := s1.free (upd_no hD)
      have nt : H t = none := s1.free ht'
      have l2 : kd.args.length ≤ 2 := by cases kd <;> simp [Kd.args]
      refine lc_gen walk_tup ((kd.args.map fun _ => true).map V.bl) (by simp [lv]) (small1000 (by simp; omega)) (fun i H' => Same H H' ∧ SqT K H' t vs ∧ ∃ l, H' D = some (.lst l)) ?_ (fun i H' r => r.2.1) ?_ ?_ ?_ gName_mono
      · refine ⟨Same.over (Same.over s1 nt) nD, SqT.of ?_, _, upd_same⟩
        rw [upd_ne (upd_no_ne hD).symm, upd_same]
      · rintro i H' l ⟨s1, q, l0, hl0⟩
        exact ⟨Same.over s1 nD, (TSame.mut hl0 trivial).seqT q, _, upd_same⟩
      · rintro i x y H' H2 Q2 hi hy ⟨s1, q, l0, hl0⟩ hl ⟨rfl, hx⟩ k2
        obtain ⟨d', hd1, hd2⟩ := DpAll.get ha hx
        rw [List.getElem?_map] at hd1 hy
        cases ea : kd.args[i]? with
        | none => rw [ea] at hd1; cases hd1
        | some ka =>
          rw [ea] at hd1
          cases hd1
          rw [List.getElem?_map, ea] at hy
          cases hy
          have hdep2 := Kd.args_dep (List.mem_of_getElem? ea)
          refine ⟨rfl, _, rfl, _, rfl, _, _, rfl, rfl, x, ka, d - 1, rfl, Dp.same s1 _ _ hd2, by omega, by omega, by omega, fun H3 s3 => k2 H3 ⟨s1.trans s3, Same.seqT s3 q, _, s3 _ _ hl0⟩ (s3 _ _ hl)⟩
      · rintro H' ⟨s1, q, _⟩ hl
        refine ⟨D, _, rfl, SqL.of hl, ?_⟩
        rw [show ((kd.args.map fun _ => true).all id) = true by simp]
        exact k H' s1
theorem wd_tup (w : Wd) : (formG w.s).getD (.str "") = .str w.form := by rw [formG_w]; rfl
theorem form_ne (w : Wd) : decide (V.str w.form = V.str "") = false := by cases w <;> decide +kernel
theorem form_size (w : Wd) : w.form.length = (formL w).length := by cases w <;> decide +kernel
theorem form_small (w : Wd) : w.form.length ≤ 5 := by cases w <;> decide +kernel
/-- what stands at a place of an expression's head -/
inductive Slot (K : PySem.W.Frag) (H : Hp) : V → V → Prop where
  | n (x : Int) (h : 0 ≤ x ∧ x ≤ 999) : Slot K H sN (.int x)
  | k (v : V) (k : Kd) (d : Dp K H v k.d) (h : k.dep ≤ 4) : Slot K H sK v
  | e (v : V) : Slot K H sE v
theorem slots {H : Hp} {w : Wd} {ns : List Int} {ks : List Kd} {kvs evs : List V} (ar : ((ns.map V.int).length, kvs.length, evs.length) = w.ar) (hk : DpAll K H kvs (ks.map Kd.d)) (h1 : ∀ x ∈ ns, 0 ≤ x ∧ x ≤ 999) (h2 : ∀ k ∈ ks, k.dep ≤ 4) :
    ∀ (i : Nat) (x y : V), (formL w)[i]? = some x → (ns.map V.int ++ (kvs ++ evs))[i]? = some y → Slot K H x y := by
  have hn : ∀ (i : Nat) (y : V), (ns.map V.int)[i]? = some y → Slot K H sN y := fun i y h => by
    rw [List.getElem?_map] at h
    cases e : ns[i]? with
    | none => rw [e] at h; cases h
    | some z => rw [e] at h; cases h; exact .n z (h1 z (List.mem_of_getElem? e))
  have hkk : ∀ (i : Nat) (y : V), kvs[i]? = some y → Slot K H sK y := fun i y h => by
    obtain ⟨d, e1, e2⟩ := DpAll.get hk h
    rw [List.getElem?_map] at e1
    cases e : ks[i]? with
    | none => rw [e] at e1; cases e1
    | some z => rw [e] at e1; cases e1; exact .k y z e2 (h2 z (List.mem_of_getElem? e))
  have key : formL w = List.replicate (ns.map V.int).length sN ++ (List.replicate kvs.length sK ++ List.replicate evs.length sE) := by
    revert ar
    generalize (ns.map V.int).length = a
    generalize kvs.length = b
    generalize evs.length = c
    intro ar
    cases w <;> simp only [Wd.ar, Prod.mk.injEq] at ar <;> obtain ⟨rfl, rfl, rfl⟩ := ar <;> rfl
  intro i x y hx hy
  rw [key] at hx
  by_cases c1 : i < (ns.map V.int).length
  · rw [List.getElem?_append_left (by simpa using c1), List.getElem?_replicate, if_pos c1] at hx
    rw [List.getElem?_append_left c1] at hy
    cases hx
    exact hn i y hy
  · rw [List.getElem?_append_right (by simpa using Nat.le_of_not_lt c1)] at hx
    rw [List.getElem?_append_right (Nat.le_of_not_lt c1)] at hy
    simp only [List.length_replicate] at hx
    by_cases c2 : i - (ns.map V.int).length < kvs.length
    · rw [List.getElem?_append_left (by simpa using c2), List.getElem?_replicate, if_pos c2] at hx
      rw [List.getElem?_append_left c2] at hy
      cases hx
      exact hkk _ y hy
    · rw [List.getElem?_append_right (by simpa using Nat.le_of_not_lt c2), List.getElem?_replicate] at hx
      split at hx
      · cases hx
        exact .e y
      · cases hx
theorem sc_is_head : FnScope ["thing", "form", "sort", "inner"] ["thing"] (defScope s_is_head) := ⟨rfl, rfl, rfl, by decide +kernel, rfl, by decide +kernel, by decide +kernel⟩
theorem ok_is_head {f : Addr} {fd : FuncData} (F : Fun K "is_head" "is_head" s_is_head f fd) (C : Cst K w mg dF dK dL dB) (GN : Dfn P w K mg base "is_number" 1 ["thing", "low", "high"] (spIsNumber K)) (GK : DfnD P w K mg base "is_kind" 5 ["thing", "deep"] [.int 5] (spIsKind K 5)) :
    FnOk P w K mg base CX0 6 f fd ["thing"] (spIsHead K) := by
  refine F.ok sc_is_head (fun vs H Q E h => ?_) (fun cdv A outer s H vs Q E hr h => ?_)
  · obtain ⟨w, a, ns, ks, kvs, evs, rfl, _⟩ := h
    rfl
  · obtain ⟨w, a, ns, ks, kvs, evs, rfl, hv, hks, h1, h2, k⟩ := h
    have hr1 : Room 1 _ := hr.mono (by decide)
    refine ⟨_, (pss_cons (ps_if (PW.pt (pw_or (pt_not (pt_val (pe_callB call_isi (by rfl) C.isi boot_isinstance (pa_cons (pv 0) (pa_cons (pe_bltn (v := .ty "tuple") (by rfl) C.tuple boot_tuple rfl) (pa_nil))))))
            (pw_or (pt_cmpR (op_eqE' hr.units) (pv 0) (pe_tup pa_nil) (nomark _)) (pw_or1 (pt_not (pt_val (pe_callB call_isi (by rfl) C.isi boot_isinstance (pa_cons (pe_ix ix_tup (pv 0) pe_int (fun _ _ => rfl)) (pa_cons (pe_bltn (v := .ty "str") (by rfl) C.str boot_str rfl) (pa_nil))))))))))
          (pss_one (ps_ret pe_bl)) pss_nil) (pss_cons (ps_set (i := 1) sc_is_head.nd rfl (Or.inl rfl) (pe_kget2 C.fF (pe_gv C.FORMS) (pe_ix ix_tup (pv 0) pe_int (fun _ _ => rfl)) pe_str ⟨rfl, rfl, rfl, rfl⟩)) (pss_cons (ps_if (PW.pt (pw_or (pt_cmpR op_eq (pv 1) pe_str (nomark _)) (pw_or1 (pt_cmpR op_ne (pe_callB call_len_seq (by rfl) C.len boot_len (pa_cons (pv 0) (pa_nil))) (pe_op op_add pe_int (pe_callB call_len_str (by rfl) C.len boot_len (pa_cons (pv 1) (pa_nil)))) (nomark _))))) (pss_one (ps_ret pe_bl)) pss_nil) (pss_cons (ps_for PassesOwn.never rfl (pi_zipG (by rfl) C.zip (pa_cons (pv 1) (pa_cons (pe_slice sl_tup (pv 0) (po_some pe_int) po_none) (pa_nil)))) (pg_tup rfl (pgs_cons (pg_name (i := 2) sc_is_head.nd rfl (Or.inl rfl)) (pgs_cons (pg_name (i := 3) sc_is_head.nd rfl (Or.inl rfl)) pgs_nil)))
          (pss_one (ps_if (PW.pt (pw_or (PW.pt (pw_and (pt_cmpR op_eq (pv 2) pe_str (nomark _)) (pw_and1 (pt_not (pt_val (pe_callD GN hr1 (by rfl) (pa_cons (pv 3) (pa_cons (pe_int) (pa_cons (pe_op op_sub (pe_gv C.LIMIT) pe_int) (pa_nil))))))))))
            (pw_or1 (PW.pt (pw_and (pt_cmpR op_eq (pv 2) pe_str (nomark _)) (pw_and1 (pt_not (pt_val (pe_callDD GK hr (by rfl) (pa_cons (pv 3) (pa_nil)))))))))))
            (pss_one (ps_ret pe_bl)) pss_nil))) (pss_one (ps_ret pe_bl)))))), ?_⟩
    have hsq := hv.sq
    have hl := nodev_len hv.ar
    have l5 : (formL w).length ≤ 5 := by cases w <;> decide
    have hslots := slots hv.ar hks h1 h2
    generalize hLL : ns.map V.int ++ (kvs ++ evs) = L at *
    have hty : TyX K H (.ref a) (.type "tuple") := by
      rcases hsq with (q | ⟨o, q⟩) | ⟨o, its, n, hk, hc, _⟩
      · exact .base (.tup q)
      · exact .fTuple q
      · exact .kTuple hk hc
    refine ⟨_, rfl, _, _, _, _, true, rfl, .ty "tuple", hty, kit_ty (kit_tuple (.tuple [])), true, rfl, iteF ?_⟩
    refine ⟨_, rfl, by show 0 ≤ sizeLine; decide, fun t0 ht0 => ?_⟩
    have s1 : Same H (upd H t0 (.tup [])) := Same.new ht0
    have hsq1 := Same.seqT s1 hsq
    refine ⟨a, t0, _, rfl, rfl, hsq1, SqT.of upd_same, false, rfl, iteF ?_⟩
    refine ⟨_, rfl, _, _, _, _, rfl, rfl, hsq1, at_of (j := 0) rfl rfl, _, _, _, _, true, rfl, .ty "str", .base (.str _), kit_ty (kit_str (.str "")), true, rfl, iteF ?_⟩
    refine ⟨rfl, _, rfl, _, _, _, _, rfl, rfl, hsq1, at_of (j := 0) rfl rfl, _, rfl, ?_⟩
    rw [wd_tup]
    refine ⟨_, rfl, rfl, _, rfl, ite2 (fun h => absurd h (by rw [form_ne]; decide)) (fun _ => ?_)⟩
    refine ⟨_, rfl, a, _, rfl, .inr hsq1, _, rfl, w.form, rfl, Nat.le_trans (form_small w) (by decide), _, _, rfl, rfl, rfl, _, rfl, ite2 (fun h => ?_) (fun _ => ?_)⟩
    · exfalso
      have e2 : V.int (((V.str w.s :: L).length : Nat) : Int) = V.int (1 + (w.form.length : Int)) := by
        rw [List.length_cons, form_size, hl]
        congr 1
        omega
      rw [e2] at h
      simp at h
    refine ⟨_, rfl, _, rfl, _, rfl, _, _, rfl, hsq1, ?_, fun p hp => ?_⟩
    · cases L with
      | nil => exfalso; rw [List.length_nil] at hl; cases w <;> cases hl
      | cons y l => exact cut1_no
    rw [cut1]
    have s2 : Same H (upd (upd H t0 (.tup [])) p (.tup L)) := Same.over s1 (s1.free hp)
    refine ⟨.str w.form, .tup p, formL w, L, rfl, (signs_form w).symm, SqT.of upd_same, ?_⟩
    refine for_it (walk_zipG (xs := formL w) (ys := L) (n := L.length) (by omega)) (fun i σ H' => Same (upd (upd H t0 (.tup [])) p (.tup L)) H' ∧ ∃ z2 z3, σ = [some (.ref a), some (.str w.form), z2, z3]) ⟨Same.refl _, _, _, rfl⟩ (fun i σ H' _ h => ⟨(signs_form w).symm, SqT.of (h.1 _ _ upd_same)⟩) ?_ ?_
    · rintro i v σ H1 H2 hi ⟨s3, z2, z3, rfl⟩ ⟨T, x, y, rfl, hT, rfl, hx, hy⟩
      have s4 : Same H1 (upd H1 T (.tup [x, y])) := Same.new hT
      refine ⟨T, _, rfl, SqT.of upd_same, rfl, _, _, rfl, _, _, rfl, rfl, ?_⟩
      have sl := hslots i x y hx hy
      cases sl with
      | n z hz =>
        have hnum : isNum (.int z) 0 999 = true := by simp [isNum, hz]
        refine ⟨_, rfl, rfl, _, rfl, ite2 (fun _ => ?_) (fun h => absurd (decide_eq_true rfl) h)⟩
        refine ⟨_, rfl, _, _, rfl, rfl, .int z, .int z, 0, 999, rfl, .int z, _, rfl, ?_⟩
        rw [hnum]
        refine iteF ⟨_, rfl, rfl, _, rfl, ite2 (fun h => absurd h (by decide +kernel)) (fun _ => iteF ⟨s3.trans s4, _, _, rfl⟩)⟩
      | k _ kd hd hdep =>
        refine ⟨_, rfl, rfl, _, rfl, ite2 (fun h => absurd h (by decide +kernel)) (fun _ => iteF ?_)⟩
        refine ⟨_, rfl, rfl, _, rfl, ite2 (fun _ => ?_) (fun h => absurd (decide_eq_true rfl) h)⟩
        refine ⟨_, rfl, y, kd, 5, rfl, Dp.same (s2.trans (s3.trans s4)) _ _ hd, by omega, by decide, by decide, fun H3 s5 => ⟨_, rfl, iteF ⟨(s3.trans s4).trans s5, _, _, rfl⟩⟩⟩
      | e =>
        refine ⟨_, rfl, rfl, _, rfl, ite2 (fun h => absurd h (by decide +kernel)) (fun _ => iteF ?_)⟩
        refine ⟨_, rfl, rfl, _, rfl, ite2 (fun h => absurd h (by decide +kernel)) (fun _ => iteF ⟨s3.trans s4, _, _, rfl⟩)⟩
    · rintro σ H' ⟨s3, z2, z3, rfl⟩
      exact k H' (s2.trans s3)
end
end Lw
set_option Elab.async false
set_option linter.all false
set_option maxRecDepth 100000
set_option maxHeartbeats 4000000
namespace Lw
open PySem PySem.Spec PyProof.Rows L2 RZ
instance : Inhabited Ex := ⟨.node .num [] [] []⟩
mutual
def Ex.good : Ex → Bool
  | .node w ns ks es => decide ((ns.length, ks.length, es.length) = w.ar) && ((ns.all fun x => decide (0 ≤ x ∧ x ≤ 999)) && ((ks.all fun k => decide (k.dep ≤ 4)) && Ex.goodL es))
def Ex.goodL : List Ex → Bool
  | [] => true
  | e :: r => e.good && Ex.goodL r
end
mutual
def Ex.size : Ex → Nat
  | .node _ _ _ es => 1 + Ex.sizeL es
def Ex.sizeL : List Ex → Nat
  | [] => 0
  | e :: r => e.size + Ex.sizeL r
end
mutual
def Ex.dep : Ex → Nat
  | .node _ _ _ es => Ex.depL es
def Ex.depL : List Ex → Nat
  | [] => 0
  | e :: r => max (e.dep + 1) (Ex.depL r)
end
mutual
theorem Ex.ok_of : ∀ e : Ex, e.good = true → e.ok = true
  | .node w ns ks es, h => by
    rw [Ex.good, Bool.and_eq_true, Bool.and_eq_true, Bool.and_eq_true] at h
    rw [Ex.ok, h.1, Ex.okL_of es h.2.2.2]
    rfl
theorem Ex.okL_of : ∀ es : List Ex, Ex.goodL es = true → Ex.okL es = true
  | [], _ => rfl
  | e :: r, h => by
    rw [Ex.goodL, Bool.and_eq_true] at h
    rw [Ex.okL, Ex.ok_of e h.1, Ex.okL_of r h.2]
    rfl
end
theorem Ex.goodL_mem : ∀ {es : List Ex} {e : Ex}, Ex.goodL es = true → e ∈ es → e.good = true
  | x :: r, e, h, m => by
    rw [Ex.goodL, Bool.and_eq_true] at h
    rcases List.mem_cons.mp m with rfl | m
    · exact h.1
    · exact Ex.goodL_mem h.2 m
theorem Ex.good_inv {e : Ex} (h : e.good = true) : (∀ x ∈ e.ns, 0 ≤ x ∧ x ≤ 999) ∧ (∀ k ∈ e.ks, k.dep ≤ 4) ∧ ∀ x ∈ e.es, x.good = true := by
  cases e with
  | node w ns ks es =>
    rw [Ex.good, Bool.and_eq_true, Bool.and_eq_true, Bool.and_eq_true] at h
    exact ⟨fun x hx => of_decide_eq_true (List.all_eq_true.mp h.2.1 x hx), fun k hk => of_decide_eq_true (List.all_eq_true.mp h.2.2.1 k hk), fun x hx => Ex.goodL_mem h.2.2.2 hx⟩
theorem Ex.sizeL_eq : ∀ es : List Ex, Ex.sizeL es = (es.map Ex.size).sum
  | [] => rfl
  | e :: r => by rw [Ex.sizeL, Ex.sizeL_eq r]; rfl
theorem Ex.size_eq (e : Ex) : e.size = 1 + (e.es.map Ex.size).sum := by
  cases e with | node w ns ks es => rw [Ex.size, Ex.sizeL_eq]; rfl
theorem Ex.depL_mem : ∀ {es : List Ex} {e : Ex}, e ∈ es → e.dep + 1 ≤ Ex.depL es
  | x :: r, e, m => by
    rw [Ex.depL]
    rcases List.mem_cons.mp m with rfl | m
    · omega
    · have := Ex.depL_mem m
      omega
theorem Ex.dep_mem {e x : Ex} (h : x ∈ e.es) : x.dep + 1 ≤ e.dep := by
  cases e with | node w ns ks es => rw [Ex.dep]; exact Ex.depL_mem h
theorem sum_snoc : ∀ (l : List Nat) (x : Nat), (l ++ [x]).sum = l.sum + x
  | [], x => by simp
  | a :: l, x => by rw [List.cons_append, List.sum_cons, List.sum_cons, sum_snoc l x]; omega
theorem sum_rev : ∀ l : List Nat, l.reverse.sum = l.sum
  | [] => rfl
  | a :: l => by rw [List.reverse_cons, sum_snoc, sum_rev l, List.sum_cons]; omega
theorem sum_app : ∀ l m : List Nat, (l ++ m).sum = l.sum + m.sum
  | [], m => by simp
  | a :: l, m => by rw [List.cons_append, List.sum_cons, List.sum_cons, sum_app l m]; omega
/-- what the parts of an expression put on the pile -/
def pushed (pl : List Int) (es : List Ex) : List (List Int × Ex) := (List.range es.length).reverse.map fun (k : Nat) => (pl ++ [(k : Int)], es.getD k default)
theorem pushed_snd (pl : List Int) (es : List Ex) : (pushed pl es).map (·.2) = es.reverse := by
  unfold pushed
  rw [List.map_map]
  refine List.ext_getElem? fun i => ?_
  rw [List.getElem?_map]
  by_cases h : i < es.length
  · rw [List.getElem?_reverse (by simpa using h), List.getElem?_reverse h, List.length_range, List.getElem?_range (by omega)]
    have h2 : es.length - 1 - i < es.length := by omega
    simp [List.getD_eq_getElem?_getD, List.getElem?_eq_getElem h2]
  · rw [List.getElem?_eq_none (by simpa using h), List.getElem?_eq_none (by simpa using h)]
    rfl
theorem pushed_len (pl : List Int) (es : List Ex) : (pushed pl es).length = es.length := by simp [pushed]
theorem pushed_at (pl : List Int) (es : List Ex) (i : Nat) (h : i < es.length) : (pushed pl es)[i]? = some (pl ++ [((es.length - 1 - i : Nat) : Int)], es[es.length - 1 - i]) := by
  unfold pushed
  have h2 : es.length - 1 - i < es.length := by omega
  rw [List.getElem?_map, List.getElem?_reverse (by simpa using h), List.length_range, List.getElem?_range (by omega)]
  simp [List.getD_eq_getElem?_getD, List.getElem?_eq_getElem h2]
/-- the pile of (place, expression) -/
abbrev Stk (K : PySem.W.Frag) (H : Hp) : List V → List (List Int × Ex) → Prop := Paired fun v p => ∃ t pl ev, v = V.ref t ∧ SqT K H t [pl, ev] ∧ Dp K H pl (runsD p.1) ∧ Dp K H ev p.2.d
theorem Stk.tsame {K : PySem.W.Frag} {H H' : Hp} (s : TSame H H') : ∀ {vs : List V} {S : List (List Int × Ex)}, Stk K H vs S → Stk K H' vs S
  | _, _, .nil => .nil
  | _, _, .cons ⟨t, pl, ev, e, q, h1, h2⟩ r => .cons ⟨t, pl, ev, e, s.seqT q, Dp.tsame s _ _ (runs_flat _) h1, Dp.tsame s _ _ (Ex.flat _) h2⟩ (Stk.tsame s r)
theorem Stk.append {K : PySem.W.Frag} {H : Hp} : ∀ {vs ws : List V} {S T : List (List Int × Ex)}, Stk K H vs S → Stk K H ws T → Stk K H (vs ++ ws) (S ++ T)
  | _, _, _, _, .nil, s => s
  | _, _, _, _, .cons r t, s => .cons r (Stk.append t s)
theorem Stk.length {K : PySem.W.Frag} {H : Hp} {vs : List V} {S : List (List Int × Ex)} (h : Stk K H vs S) : vs.length = S.length := Paired.length h
theorem Stk.snoc {K : PySem.W.Frag} {H : Hp} : ∀ {vs : List V} {S : List (List Int × Ex)} {v : V}, Stk K H (vs ++ [v]) S → ∃ T p, S = T ++ [p] ∧ Stk K H vs T ∧ ∃ t pl ev, v = V.ref t ∧ SqT K H t [pl, ev] ∧ Dp K H pl (runsD p.1) ∧ Dp K H ev p.2.d
  | [], _, v, h => by
    cases h with
    | cons r t =>
      cases t
      exact ⟨[], _, rfl, .nil, r⟩
  | x :: vs, _, v, h => by
    cases h with
    | cons r t =>
      obtain ⟨T, p, e, h1, h2⟩ := Stk.snoc t
      exact ⟨_ :: T, p, by rw [e]; rfl, .cons r h1, h2⟩
theorem snoc_of {α : Type} {l : List α} (h : l ≠ []) : ∃ a b, l = a ++ [b] := ⟨l.dropLast, l.getLast h, (List.dropLast_concat_getLast h).symm⟩
def spNeed (K : PySem.W.Frag) : Sp := fun vs H Q _ => ∃ (v : V) (e : Ex), vs = [v] ∧ Dp K H v e.d ∧ e.good = true ∧ e.size ≤ 400 ∧ e.dep ≤ 40 ∧ ∀ H', Same H H' → Q .non H'
section
variable {P : Program} {w : World} {K : PySem.W.Frag} {mg : Str → Option Value} {base : Heap} {dF dK dL dB CN CC : Addr}
abbrev nsNeed : List Str := ["program", "left", "many", "place", "e", "inner", "k"]
theorem sc_need : FnScope nsNeed ["program"] (defScope s_need_program) := ⟨rfl, rfl, rfl, by decide +kernel, rfl, by decide +kernel, by decide +kernel⟩
def muNeed : L2.St → Hp → Nat := fun σ _ => match σ[2]? with | some (some (V.int m)) => (1000 - m).toNat | _ => 0
theorem ok_need {f : Addr} {fd : FuncData} (F : Fun K "need_program" "need_program" s_need_program f fd) (C : Cst K w mg dF dK dL dB) (GH : Dfn P w K mg base "is_head" 6 ["thing"] (spIsHead K)) (GP : Dfn P w K mg base "parts_of" 1 ["e"] (spParts K)) :
    FnOk P w K mg base CX0 7 f fd ["program"] (spNeed K) := by
  refine F.ok sc_need (fun vs H Q E h => ?_) (fun cdv A outer s H vs Q E hr h => ?_)
  · obtain ⟨v, e, rfl, _⟩ := h
    rfl
  · obtain ⟨v, e, rfl, hd, hg, hsz, hdp, k⟩ := h
    have hr1 : Room 1 _ := hr.mono (by decide)
    refine ⟨_, (pss_cons (ps_set (i := 1) sc_need.nd rfl (Or.inl rfl) (pe_lst (pa_cons (pe_tup (pa_cons (pe_tup pa_nil) (pa_cons (pv 0) (pa_nil)))) (pa_nil)))) (pss_cons (ps_set (i := 2) sc_need.nd rfl (Or.inl rfl) pe_int) (pss_one (ps_while PassesOwn.never (pt_cmpR (op_neE hr.units0) (pv 1) (pe_lst pa_nil) (nomark _))
        (pss_cons (ps_asg (pe_bm0 PySem.F.plainAttrs_list PySem.F.slot_list_pop PySem.F.type_list_pop mt_pop (pv 1)) (pg_tup rfl (pgs_cons (pg_name (i := 3) sc_need.nd rfl (Or.inr rfl)) (pgs_cons (pg_name (i := 4) sc_need.nd rfl (Or.inl rfl)) pgs_nil)))) (pss_cons (ps_aug (i := 2) sc_need.nd rfl (Or.inl rfl) pe_int ip_add) (pss_cons (ps_if (PW.pt (pw_or (pt_cmpR op_gt (pv 2) (pe_gv C.MP) (nomark _)) (pw_or (pt_cmpR op_gt (pe_callB call_len_seq (by rfl) C.len boot_len (pa_cons (pv 3) (pa_nil))) (pe_gv C.MW) (nomark _)) (pw_or1 (pt_not (pt_val (pe_callD GH hr (by rfl) (pa_cons (pv 4) (pa_nil))))))))) (pss_one (ps_never)) pss_nil) (pss_cons (ps_set (i := 5) sc_need.nd rfl (Or.inr rfl) (pe_callD GP hr1 (by rfl) (pa_cons (pv 4) (pa_nil)))) (pss_one (ps_expr (pe_bm PySem.F.plainAttrs_list PySem.F.slot_list_extend PySem.F.type_list_extend mt_extend (pv 1) (pa_cons (pe_lc (own := [("k", 6)]) (g := gName 6) (tt := tYes) (te := tTup (tCons (tOp (rCatU K) (tVar 3) (tTup (tCons (tVar 6) tNil))) (tCons (tOp (rIxL K) (tVar 5) (tVar 6)) tNil))) rfl sc_need.nd
            (pi_range3 (by rfl) C.range (pa_cons (pe_op op_sub (pe_callB call_len_seq (by rfl) C.len boot_len (pa_cons (pv 5) (pa_nil))) pe_int) (pa_cons (pe_un un_neg pe_int) (pa_cons (pe_un un_neg pe_int) (pa_nil))))) (blkOk_by (N := nsNeed) (sc := defScope s_need_program) (by decide +kernel))
            (fun _ _ _ _ _ => pg_name (i := 6) sc_need.nd rfl (Or.inl rfl)) (fun _ _ _ _ _ => pts_nil) (fun _ _ _ _ _ => pe_tup (pa_cons (pe_op op_catU (pv 3) (pe_tup (pa_cons (pv 6) (pa_nil)))) (pa_cons (pe_ix ix_list (pv 5) (pv 6) (fun _ _ => rfl)) (pa_nil))))) (pa_nil))))))))))))), ?_⟩
    -- left = [((), program)]; many = 0
    refine ⟨by show 0 ≤ sizeLine; decide, fun t0 ht0 => ⟨_, rfl, by show 2 ≤ sizeLine; decide, fun t1 ht1 => ⟨by show 1 ≤ sizeLine; decide, fun l hl => ?_⟩⟩⟩
    have s0 : Same H (upd H t0 (.tup [])) := Same.new ht0
    have s1 : Same H (upd (upd H t0 (.tup [])) t1 (.tup [.ref t0, v])) := Same.over s0 (s0.free ht1)
    have nl : H l = none := s1.free hl
    have s2 := Same.new (o := .lst [.ref t1]) hl
    have sA := s1.trans s2
    have h01 := Same.new (o := .tup [.ref t0, v]) ht1
    generalize hHA : upd (upd (upd H t0 (.tup [])) t1 (.tup [.ref t0, v])) l (.lst [.ref t1]) = HA at s2 sA
    have hst0 : Stk K HA [.ref t1] [([], e)] := by
      refine .cons ⟨t1, .ref t0, v, rfl, SqT.of (s2 _ _ upd_same), .tup (SqT.of (s2 _ _ (h01 _ _ upd_same))) .nil, Dp.same sA _ _ hd⟩ .nil
    have hlA : HA l = some (.lst [.ref t1]) := by rw [← hHA, upd_same]
    refine while_by (fun σ H' => ∃ (vs : List V) (S : List (List Int × Ex)) (m : Nat) (z3 z4 z5 : Option V), σ = [some v, some (.ref l), some (.int m), z3, z4, z5, none] ∧ Same H H' ∧ H' l = some (.lst vs) ∧ Stk K H' vs S ∧
      (∀ p ∈ S, p.2.good = true ∧ p.1.length + p.2.dep ≤ 40) ∧ m + (S.map fun p => p.2.size).sum = e.size) muNeed ⟨_, _, 0, _, _, _, rfl, sA, hlA, hst0, by simp [hg, hdp], by simp⟩ ?_ ?_
    · rintro σ H1 ⟨vs, S, m, z3, z4, z5, rfl, s3, hl1, hst, hall, hsum⟩
      refine ⟨_, rfl, by show 0 ≤ sizeLine; decide, fun le hle => ⟨l, le, vs, rfl, rfl, SqL.of (Same.new hle _ _ hl1), SqL.of upd_same, _, rfl, ?_⟩⟩
      have s4 : Same H1 (upd H1 le (.lst [])) := Same.new hle
      refine ite2 (fun hne => ?_) (fun hemp => ?_)
      · have hvs : vs ≠ [] := by rintro rfl; simp at hne
        obtain ⟨vi, vl, rfl⟩ := snoc_of hvs
        obtain ⟨S', ⟨pl, e'⟩, rfl, hst', t, pv', ev, rfl, htq, hpl, hev⟩ := Stk.snoc hst
        obtain ⟨hg', hdp'⟩ := hall (pl, e') (by simp)
        dsimp only at hg' hdp' hpl hev
        have hsum' : m + (S'.map fun p => p.2.size).sum + e'.size = e.size := by
          rw [List.map_append, sum_app] at hsum
          simp only [List.map_cons, List.map_nil, List.sum_cons, List.sum_nil] at hsum
          omega
        have hl4 := s4 _ _ hl1
        refine ⟨_, rfl, .inl ⟨rfl, _, SqL.of hl4⟩, l, _, .ref t, rfl, rfl, hl4, by simp, ?_⟩
        rw [List.dropLast_concat]
        have ts5 : TSame (upd H1 le (.lst [])) (upd (upd H1 le (.lst [])) l (.lst vi)) := TSame.mut hl4 trivial
        have s5 : Same H (upd (upd H1 le (.lst [])) l (.lst vi)) := Same.over (s3.trans s4) nl
        generalize hH5 : upd (upd H1 le (.lst [])) l (.lst vi) = H5 at ts5 s5
        have hl5 : H5 l = some (.lst vi) := by rw [← hH5, upd_same]
        have ts15 : TSame H1 H5 := (TSame.of s4).trans ts5
        have hev5 := Dp.tsame ts15 _ _ (Ex.flat _) hev
        have hpl5 := Dp.tsame ts15 _ _ (runs_flat _) hpl
        obtain ⟨a', kvs', evs', rfl, hn'⟩ := node_of hev5
        have hok' := Ex.ok_of _ hg'
        obtain ⟨gi1, gi2, gi3⟩ := Ex.good_inv hg'
        cases hpl5 with
        | tup hqp hap =>
        rename_i pa pvs
        obtain rfl := DpAll.ints hap
        refine ⟨t, _, rfl, ts15.seqT htq, rfl, _, _, rfl, _, _, rfl, rfl, ?_⟩
        have hsz' := Ex.size_eq e'
        refine ⟨_, rfl, _, _, rfl, rfl, ?_⟩
        refine ⟨_, rfl, _, _, rfl, rfl, _, rfl, ite2 (fun h => absurd (of_decide_eq_true h) (show ¬ (400 : Int) < (m : Int) + 1 by omega)) (fun _ => ?_)⟩
        refine ⟨_, rfl, pa, _, rfl, .inr hqp, _, _, rfl, rfl, _, rfl, ite2 (fun h => absurd (of_decide_eq_true h) (by rw [List.length_map]; omega)) (fun _ => ?_)⟩
        refine ⟨_, rfl, e'.w, a', e'.ns, e'.ks, kvs', evs', rfl, hn'.v hok', hn'.ks, gi1, gi2, fun H6 s6 => ⟨_, rfl, iteF ?_⟩⟩
        have hn6 := hn'.tsame (TSame.of s6)
        refine ⟨_, rfl, e'.w, a', _, kvs', evs', rfl, hn6.v hok', fun H7 li s7 nli hli => ?_⟩
        have s67 := s6.trans s7
        have lev : evs'.length = e'.es.length := by rw [DpAll.length hn6.es, Ex.dL_eq, List.length_map]
        have lev3 : evs'.length ≤ 3 := by
          rw [show evs'.length = e'.w.ar.2.2 from congrArg (·.2.2) (hn6.v hok').ar]
          cases e'.w <;> decide
        have hl7 := s67 _ _ hl5
        refine ⟨_, rfl, .inl ⟨rfl, _, SqL.of hl7⟩, ?_⟩
        refine ⟨_, rfl, li, evs', rfl, .inl (SqL.of hli), _, _, rfl, rfl, _, rfl, _, rfl, _, _, _, _, rfl, RgC.neg (by omega) (by omega) (by decide) (by decide), fun D hD => ?_⟩
        have nD : H D = none := (s5.trans s67).free hD
        have en : (((evs'.length : Nat) : Int) - 1 - -1).toNat = evs'.length := by omega
        refine lc_ex (walk_rangeC (n := (((evs'.length : Nat) : Int) - 1 - -1).toNat)) (Nat.lt_of_le_of_lt (show _ ≤ 1000 by omega) (by decide)) (fun i acc H' => Same H7 H' ∧ Stk K H' acc ((pushed pl e'.es).take i)) ⟨Same.new hD, .nil⟩ (fun _ _ _ _ _ => trivial) ?_ ?_ gName_mono
        · rintro i acc x H0 H' Q2 hi hacc ⟨s8, hstk⟩ hlD ⟨rfl, hxv⟩ k2
          have hi' : i < e'.es.length := by omega
          have hx : (((evs'.length : Nat) : Int) - 1 + (i : Nat) * -1) = ((e'.es.length - 1 - i : Nat) : Int) := by omega
          have hat := pushed_at pl e'.es i hi'
          have hpt : (pushed pl e'.es).take (i + 1) = (pushed pl e'.es).take i ++ [(pl ++ [((e'.es.length - 1 - i : Nat) : Int)], e'.es[e'.es.length - 1 - i])] := by rw [List.take_succ, hat]; rfl
          obtain ⟨evk, hevk, hdk⟩ := DpAll.get' hn6.es (show (Ex.dL e'.es)[e'.es.length - 1 - i]? = some e'.es[e'.es.length - 1 - i].d by rw [Ex.dL_eq, List.getElem?_map, List.getElem?_eq_getElem (by omega)]; rfl)
          have s68 := s67.trans s8
          obtain rfl : x = V.int ((e'.es.length - 1 - i : Nat) : Int) := hxv.trans (congrArg V.int hx)
          refine ⟨rfl, _, rfl, _, rfl, by show 1 ≤ sizeLine; decide, fun tt htt => ?_⟩
          have st := Same.new (o := .tup [.int ((e'.es.length - 1 - i : Nat) : Int)]) htt
          refine ⟨pa, tt, pl.map V.int, _, rfl, rfl, Same.seqT (s68.trans st) hqp, SqT.of upd_same, ?_, fun q H8 s9 hq => ?_⟩
          · simp only [List.length_map, List.length_cons, List.length_nil]
            exact Nat.le_trans (show pl.length + 1 ≤ 1000 by omega) (by decide)
          have s89 := st.trans s9
          have s7' := s8.trans s89
          refine ⟨_, rfl, _, rfl, li, evs', _, _, rfl, rfl, SqL.of (s7' _ _ hli), at_of rfl hevk, by show 2 ≤ sizeLine; decide, fun u hu => ?_⟩
          have su := Same.new (o := .tup [.ref q, evk]) hu
          have sH := s89.trans su
          have hlD' := sH _ _ hlD
          have tsD : ∀ o, TSame (upd H8 u (.tup [.ref q, evk])) (upd (upd H8 u (.tup [.ref q, evk])) D o) := fun o => TSame.mut hlD' trivial
          refine k2 _ _ hlD' ⟨Same.over (s7'.trans su) hD, ?_⟩
          rw [hpt]
          refine Stk.append (Stk.tsame (tsD _) (Stk.tsame (TSame.of sH) hstk)) (.cons ⟨u, .ref q, evk, rfl, (tsD _).seqT (SqT.of upd_same), ?_, ?_⟩ .nil)
          · refine .tup ((tsD _).seqT (Same.seqT su ?_)) (DpAll.ints' _)
            rw [List.map_append]
            exact hq
          · exact Dp.tsame (tsD _) _ _ (Ex.flat _) (Dp.same ((s8.trans s89).trans su) _ _ (Dp.same s7 _ _ hdk))
        · rintro acc H' ⟨s8, hstk⟩ hlD hacc
          have hl8 := s8 _ _ hl7
          have lvi : vi.length ≤ 400 := by
            have h1 := hst'.length
            have h2 : S'.length ≤ (S'.map fun p => p.2.size).sum := by
              clear hst hst' hall hsum hsum' hl1 h1
              induction S' with
              | nil => simp
              | cons p S ih =>
                have := Ex.size_eq p.2
                simp only [List.map_cons, List.sum_cons, List.length_cons]
                omega
            omega
          refine ⟨l, D, vi, acc, rfl, rfl, hl8, hlD, Nat.le_trans (show vi.length + acc.length ≤ 1000 by omega) (by decide), ?_⟩
          have tsl : TSame H' (upd H' l (.lst (vi ++ acc))) := TSame.mut hl8 trivial
          refine ⟨⟨vi ++ acc, S' ++ pushed pl e'.es, m + 1, _, _, _, by rfl, Same.over ((s5.trans s67).trans s8) nl, upd_same, ?_, ?_, ?_⟩, ?_⟩
          · refine Stk.append (Stk.tsame tsl (Stk.tsame (TSame.of (s67.trans s8)) (Stk.tsame ts15 hst'))) (Stk.tsame tsl ?_)
            rw [List.take_of_length_le (by rw [pushed_len]; omega)] at hstk
            exact hstk
          · intro p hp
            rcases List.mem_append.mp hp with hp | hp
            · exact hall p (List.mem_append_left _ hp)
            · obtain ⟨kk, hkk, rfl⟩ := List.mem_map.mp hp
              have hk' : kk < e'.es.length := by simpa using hkk
              have hm : e'.es.getD kk default ∈ e'.es := by
                rw [List.getD_eq_getElem?_getD, List.getElem?_eq_getElem hk']
                exact List.getElem_mem hk'
              have := Ex.dep_mem hm
              refine ⟨gi3 _ hm, ?_⟩
              simp only [List.length_append, List.length_cons, List.length_nil]
              omega
          · have e3 : ((pushed pl e'.es).map fun p => p.2.size).sum = (e'.es.map Ex.size).sum := by
              rw [show ((pushed pl e'.es).map fun p => p.2.size) = ((pushed pl e'.es).map (·.2)).map Ex.size by rw [List.map_map]; rfl, pushed_snd, List.map_reverse, sum_rev]
            rw [List.map_append, sum_app, e3]
            omega
          · show (1000 - ((m : Int) + 1)).toNat < (1000 - (m : Int)).toNat
            omega
      · have hvs : vs = [] := by cases vs with | nil => rfl | cons x xs => simp at hemp
        exact k _ (s3.trans s4)
    · rintro σ H1 Q1 Q2 hQ ⟨v1, e1, hz, h1⟩
      exact ⟨v1, e1, hz, fun p hp => by
        obtain ⟨a, b, xs, e1, e2, h3, h4, kk, ek, q⟩ := h1 p hp
        exact ⟨a, b, xs, e1, e2, h3, h4, kk, ek, hQ _ _ q⟩⟩
end
end Lw
set_option Elab.async false
set_option linter.all false
set_option maxRecDepth 100000
set_option maxHeartbeats 4000000
namespace Lw
open PySem PySem.Spec PyProof.Rows L2 RZ
/-- a program that is let by: its kind, its rows -/
structure Let (e : Ex) (k : Kd) (rows : List PyData) : Prop where
  good : e.good = true
  size : e.size ≤ 400
  dep : e.dep ≤ 40
  chk : chk 41 e [] 0 [] [] = some (k, rows)
  few : rows.length ≤ 1000000
def ckG (L : Addr) (kv : V) : List (Str × V) := [("found", .ref L), ("kind", kv)]
def spCheckInit (K : PySem.W.Frag) (CC : Addr) : Sp := fun vs H Q _ => ∃ (p dx : Addr) (v : V) (e : Ex) (k : Kd) (rows : List PyData), vs = [.ref p, v] ∧ H p = some (.ins CC dx []) ∧ Dp K H v e.d ∧ Let e k rows ∧
  ∀ H' L kv fv, (∀ b o, H b = some o → b ≠ p → H' b = some o) → H' p = some (.ins CC dx (ckG L kv)) → Dp K H' kv k.d → H' L = some (.lst fv) → DpAll K H' fv rows → Q .non H'
def spKindOfP (K : PySem.W.Frag) : Sp := fun vs H Q _ => ∃ (v : V) (e : Ex) (k : Kd) (rows : List PyData), vs = [v] ∧ Dp K H v e.d ∧ Let e k rows ∧ ∀ H' v', Same H H' → Dp K H' v' k.d → Q v' H'
theorem kfS : ¬ (("found" : Str) = "kind") ∧ ¬ (("kind" : Str) = "found") := by decide +kernel
section
variable {P : Program} {w : World} {K : PySem.W.Frag} {mg : Str → Option Value} {base : Heap} {dF dK dL dB CN CC : Addr}
/-- the defs of programs and checking as they stand -/
structure ChkAt (K : PySem.W.Frag) (mg : Str → Option Value) (CN CC : Addr) : Prop where
  is_number : At0 K mg "is_number" "is_number" s_is_number ["thing", "low", "high"]
  is_kind : AtD K mg "is_kind" "is_kind" s_is_kind ["thing", "deep"] [.int 5]
  has_code : At0 K mg "has_code" "has_code" s_has_code ["kind"]
  is_data : At0 K mg "is_data" "is_data" s_is_data ["kind"]
  is_head : At0 K mg "is_head" "is_head" s_is_head ["thing"]
  parts_of : At0 K mg "parts_of" "parts_of" s_parts_of ["e"]
  need : At0 K mg "need_program" "need_program" s_need_program ["program"]
  nameI : CAt K mg "Name" CN "Name.__init__" s_Name_init ["self", "level", "kind", "runs"]
  nameC : NameC K CN
  with_name : At0 K mg "with_name" "with_name" s_with_name ["names", "number", "name"]
  checkI : CAt K mg "Check" CC "Check.__init__" s_Check_init ["self", "program"]
  checkC : CheckC K CC
  must : MAt K CC "must" "Check.must" s_Check_must ["self", "good", "place", "why"]
  look : MAt K CC "look" "Check.look" s_Check_look psLook
  named : MAt K CC "named" "Check.named" s_Check_named ["self", "number", "place", "level", "names", "runs"]
  inner : MAt K CC "inner" "Check.inner" s_Check_inner psLook
  kindBy : MAt K CC "kind_of" "Check.kind_of" s_Check_kind_of ["self", "e", "place", "kinds"]
  kind_of : At0 K mg "kind_of" "kind_of" s_kind_of ["program"]
theorem d_parts (a : ChkAt K mg CN CC) (C : Cst K w mg dF dK dL dB) : Dfn P w K mg base "parts_of" 1 ["e"] (spParts K) := .of a.parts_of fun _ _ F => ok_parts_of F C
theorem d_need (a : ChkAt K mg CN CC) (C : Cst K w mg dF dK dL dB) : Dfn P w K mg base "need_program" 7 ["program"] (spNeed K) :=
  .of a.need fun _ _ F => ok_need F C (.of a.is_head fun _ _ F => ok_is_head F C (.of a.is_number fun _ _ F => ok_is_number F C) (ok_is_kind a.is_kind C 5)) (d_parts a C)
theorem d_look (a : ChkAt K mg CN CC) (C : Cst K w mg dF dK dL dB) : ∀ n, MDfn P w K mg base CC "look" (70 + 2 * n) psLook (spLook K CC CN n)
  | 0 => (MDfn.never a.look fun vs H Q E ⟨e, place, lv, c, runs, rows0, rows, k, L, _, h, _⟩ => by cases h).mono (Nat.zero_le _)
  | n + 1 => by
    have M : MDfn P w K mg base CC "must" 1 ["self", "good", "place", "why"] spMust := .of a.must fun _ _ F => ok_must F
    have GC := ok_has_code (P := P) (base := base) a.has_code C 65
    have GD := ok_is_data (P := P) (base := base) a.is_data C 65
    have GN : MDfn P w K mg base CC "named" 67 ["self", "number", "place", "level", "names", "runs"] (spNamed K CC CN) := .of a.named fun _ _ F => ok_named F C a.checkC.cl a.nameC M GC
    have GK : MDfn P w K mg base CC "kind_of" 67 ["self", "e", "place", "kinds"] (spKindBy K CC) := .of a.kindBy fun _ _ F => ok_kindBy F C a.checkC.cl M GD
    have GW : Dfn P w K mg base "with_name" 1 ["names", "number", "name"] spWithName := .of a.with_name fun _ _ F => ok_with_name F C
    have GM : CDfn P w K mg base "Name" CN 1 ["self", "level", "kind", "runs"] (spNameInit CN) := .of a.nameI fun _ _ F => ok_Name_init F a.nameC
    have GI : MDfn P w K mg base CC "inner" (70 + 2 * n + 1) psLook (spInner K CC CN n) := .of a.inner fun _ _ F => ok_inner F C a.checkC (d_parts a C) GW GM (d_look a C n)
    exact .of a.look fun _ _ F => ok_look F C a.checkC M GN GK GI
theorem sc_Check_init : FnScope ["self", "program"] ["self", "program"] (defScope s_Check_init) := ⟨rfl, rfl, rfl, by decide +kernel, rfl, by decide +kernel, by decide +kernel⟩
theorem ok_Check_init {f : Addr} {fd : FuncData} (F : Fun K "__init__" "Check.__init__" s_Check_init f fd) (cC : CheckC K CC) (GN : Dfn P w K mg base "need_program" 7 ["program"] (spNeed K)) (GL : MDfn P w K mg base CC "look" 152 psLook (spLook K CC CN 41)) :
    FnOk P w K mg base CX0 153 f fd ["self", "program"] (spCheckInit K CC) := by
  refine F.ok sc_Check_init (fun vs H Q E h => ?_) (fun cdv A outer s H vs Q E hr h => ?_)
  · obtain ⟨p, dx, v, e, k, rows, rfl, _⟩ := h
    rfl
  · obtain ⟨p, dx, v, e, kd, rows, rfl, hp, hd, ⟨g, sz, dp, hc, few⟩, k⟩ := h
    refine ⟨_, (pss_cons (ps_expr (pe_callD GN (hr.mono (by decide)) (by rfl) (pa_cons (pv 1) (pa_nil)))) (pss_cons (ps_fld (pv 0) (pe_lst pa_nil) rfl) (pss_one (ps_fld (pv 0) (pe_methD (pv 0) cC.cl GL hr (pa_cons (pv 1) (pa_cons (pe_tup pa_nil) (pa_cons (pe_int) (pa_cons (pe_dnewK) (pa_cons (pe_tup pa_nil) (pa_nil))))))) rfl)))), ?_⟩
    refine ⟨_, rfl, v, e, rfl, hd, g, sz, dp, fun H1 s1 => ?_⟩
    refine ⟨by show 0 ≤ sizeLine; decide, fun L hL => ⟨_, rfl, p, CC, dx, [], rfl, ?_, cC.cl, cC.nF, (by show 0 < 1000; decide), ?_⟩⟩
    · exact Same.new hL _ _ (s1 _ _ hp)
    rw [putF_nil]
    have hpL : p ≠ L := ne_of_none (s1 _ _ hp) hL
    generalize hHA : upd (upd H1 L (.lst [])) p (.ins CC dx [("found", .ref L)]) = HA
    have kA : ∀ b o, H b = some o → b ≠ p → HA b = some o := fun b o h n => by
      rw [← hHA, upd_ne n]
      exact Same.new hL _ _ (s1 _ _ h)
    have hpA : HA p = some (.ins CC dx (ckF L)) := by rw [← hHA, upd_same]; rfl
    have hLA : HA L = some (.lst []) := by rw [← hHA, upd_ne hpL.symm, upd_same]
    have tsA : TSame H HA := ⟨fun a xs h => kA _ _ h fun z => (by subst z; rw [h] at hp; cases hp), fun a o u h => kA _ _ h fun z => (by subst z; rw [h] at hp; cases hp)⟩
    refine ⟨_, rfl, p, dx, _, rfl, hpA, ckF_no ckS.2.2.2.1, _, rfl, by show 0 ≤ sizeLine; decide, fun t1 h1 d hd' => ⟨by show 0 ≤ sizeLine; decide, fun t2 h2 => ?_⟩⟩
    have sB1 := Same.new (o := .tup []) h1
    have sB2 := Same.new (o := .dK []) hd'
    have sB3 := Same.new (o := .tup []) h2
    have sB := (sB1.trans sB2).trans sB3
    obtain ⟨a', kvs', evs', rfl, hn⟩ := node_of (Dp.tsame (tsA.trans (TSame.of sB)) _ _ (Ex.flat _) hd)
    refine ⟨e, [], 0, [], [], [], rows, kd, L, ⟨p, dx, a', d, .ref t1, .ref t2, kvs', evs', [], rfl, sB _ _ hpA, hn, Ex.ok_of _ g, .tup (SqT.of (sB3 _ _ (sB2 _ _ upd_same))) .nil, ⟨[], sB3 _ _ upd_same, .nil⟩, .tup (SqT.of upd_same) .nil, sB _ _ hLA, .nil, rfl⟩, hc, by simpa using few, by decide, by decide, by decide, fun H2 kv fv ch hv hL2 hfv => ?_⟩
    have hp2 : H2 p = some (.ins CC dx (ckF L)) := ch _ _ (sB _ _ hpA) hpL
    refine ⟨_, rfl, p, CC, dx, _, rfl, hp2, cC.cl, cC.nK, (by show 1 < 1000; decide), ?_⟩
    have ts2 : TSame H2 (upd H2 p (.ins CC dx (putF "kind" kv (ckF L)))) := TSame.mut hp2 trivial
    refine k _ L kv fv (fun b o h n => ?_) ?_ (Dp.tsame ts2 _ _ (Kd.flat _) hv) (by rw [upd_ne hpL.symm]; exact hL2) (DpAll.tsame ts2 _ _ (chk_p _ _ _ _ _ _ _ _ hc).2 hfv)
    · rw [upd_ne n]
      refine ch _ _ (sB _ _ (kA _ _ h n)) fun z => ?_
      subst z
      have := s1 _ _ h
      rw [this] at hL
      cases hL
    · rw [upd_same]
      show some (HO.ins CC dx (putF "kind" kv [(("found" : Str), V.ref L)])) = _
      rw [putF_tl kfS.1, putF_nil]
      rfl
theorem sc_kind_of : FnScope ["program"] ["program"] (defScope s_kind_of) := ⟨rfl, rfl, rfl, by decide +kernel, rfl, by decide +kernel, by decide +kernel⟩
theorem ok_kind_of {f : Addr} {fd : FuncData} (F : Fun K "kind_of" "kind_of" s_kind_of f fd) (cC : CheckC K CC) (G : CDfn P w K mg base "Check" CC 153 ["self", "program"] (spCheckInit K CC)) : FnOk P w K mg base CX0 155 f fd ["program"] (spKindOfP K) := by
  refine F.ok sc_kind_of (fun vs H Q E h => ?_) (fun cdv A outer s H vs Q E hr h => ?_)
  · obtain ⟨v, e, k, rows, rfl, _⟩ := h
    rfl
  · obtain ⟨v, e, kd, rows, rfl, hd, hl, k⟩ := h
    refine ⟨_, (pss_one (ps_ret (pe_fld (pe_makeD G hr (by rfl) (pa_cons (pv 0) (pa_nil))) rfl))), ?_⟩
    refine ⟨_, rfl, ?_⟩
    intro x dx nx nd ne
    have sA : Same H (upd (upd H dx (.own x)) x (.ins CC dx [])) := Same.over (Same.new nd) nx
    refine ⟨x, dx, v, e, kd, rows, rfl, upd_same, Dp.same sA _ _ hd, hl, fun H1 L kv fv kp hx hkv hL hfv => ⟨rfl, ?_⟩⟩
    refine ⟨x, CC, dx, _, _, rfl, hx, cC.cl, cC.nK, (lookup_tl kfS.2).trans lookup_hd, k H1 kv (Same.made nx nd kp) hkv⟩
theorem d_kind_of (a : ChkAt K mg CN CC) (C : Cst K w mg dF dK dL dB) : Dfn P w K mg base "kind_of" 155 ["program"] (spKindOfP K) :=
  .of a.kind_of fun _ _ F => ok_kind_of F a.checkC (.of a.checkI fun _ _ F => ok_Check_init F a.checkC (d_need a C) (d_look a C 41))
end
end Lw
set_option Elab.async false
set_option linter.all false
set_option maxRecDepth 100000
set_option maxHeartbeats 4000000
namespace Lw
open PySem PySem.Spec PyProof.Rows L2 RZ
/-! ### sizes -/
abbrev Pile (K : PySem.W.Frag) (H : Hp) : List V → List (Nat × Ex) → Prop := Paired fun v p => ∃ t ev, v = V.ref t ∧ SqT K H t [ev, .int (p.1 : Nat)] ∧ Dp K H ev p.2.d
theorem Pile.tsame {K : PySem.W.Frag} {H H' : Hp} (s : TSame H H') : ∀ {vs : List V} {S : List (Nat × Ex)}, Pile K H vs S → Pile K H' vs S
  | _, _, .nil => .nil
  | _, _, .cons ⟨t, ev, e, q, h2⟩ r => .cons ⟨t, ev, e, s.seqT q, Dp.tsame s _ _ (Ex.flat _) h2⟩ (Pile.tsame s r)
theorem Pile.append {K : PySem.W.Frag} {H : Hp} : ∀ {vs ws : List V} {S T : List (Nat × Ex)}, Pile K H vs S → Pile K H ws T → Pile K H (vs ++ ws) (S ++ T)
  | _, _, _, _, .nil, s => s
  | _, _, _, _, .cons r t, s => .cons r (Pile.append t s)
theorem Pile.snoc {K : PySem.W.Frag} {H : Hp} : ∀ {vs : List V} {S : List (Nat × Ex)} {v : V}, Pile K H (vs ++ [v]) S → ∃ T p, S = T ++ [p] ∧ Pile K H vs T ∧ ∃ t ev, v = V.ref t ∧ SqT K H t [ev, .int (p.1 : Nat)] ∧ Dp K H ev p.2.d
  | [], _, v, h => by
    cases h with
    | cons r t =>
      cases t
      exact ⟨[], _, rfl, .nil, r⟩
  | x :: vs, _, v, h => by
    cases h with
    | cons r t =>
      obtain ⟨T, p, e, h1, h2⟩ := Pile.snoc t
      exact ⟨_ :: T, p, by rw [e]; rfl, .cons r h1, h2⟩
theorem dep_of_depL : ∀ (es : List Ex) (d : Nat), (∀ x ∈ es, x.dep + 1 ≤ d) → Ex.depL es ≤ d
  | [], d, _ => Nat.zero_le _
  | e :: r, d, h => by
    rw [Ex.depL]
    have h1 := h e (by simp)
    have h2 := dep_of_depL r d fun x hx => h x (by simp [hx])
    omega
theorem depL_zero_or : ∀ (es : List Ex), es = [] ∨ ∃ x ∈ es, Ex.depL es = x.dep + 1
  | [] => .inl rfl
  | e :: r => by
    right
    rw [Ex.depL]
    rcases depL_zero_or r with rfl | ⟨x, hx, h⟩
    · exact ⟨e, by simp, by simp [Ex.depL]⟩
    · by_cases c : e.dep + 1 ≥ Ex.depL r
      · exact ⟨e, by simp, by omega⟩
      · exact ⟨x, by simp [hx], by omega⟩
/-- the greatest of what is reached from a pile -/
def reach (S : List (Nat × Ex)) : Nat := (S.map fun p => p.1 + p.2.dep).foldl max 0
theorem foldl_max : ∀ (l : List Nat) (a : Nat), l.foldl max a = max a (l.foldl max 0)
  | [], a => by simp
  | x :: l, a => by
    rw [List.foldl_cons, List.foldl_cons, foldl_max l (max a x), foldl_max l (max 0 x)]
    omega
theorem reach_app (S T : List (Nat × Ex)) : reach (S ++ T) = max (reach S) (reach T) := by
  unfold reach
  rw [List.map_append, List.foldl_append, foldl_max]
theorem reach_le {S : List (Nat × Ex)} {d : Nat} : reach S ≤ d ↔ ∀ p ∈ S, p.1 + p.2.dep ≤ d := by
  unfold reach
  induction S with
  | nil => simp
  | cons p S ih =>
    rw [List.map_cons, List.foldl_cons, foldl_max]
    simp only [List.mem_cons, forall_eq_or_imp]
    rw [← ih]
    omega
theorem reach_parts (n : Nat) (e : Ex) : max n (reach (e.es.map fun x => (n + 1, x))) = n + e.dep := by
  have h1 : reach (e.es.map fun x => (n + 1, x)) ≤ n + e.dep := reach_le.mpr fun p hp => by
    obtain ⟨x, hx, rfl⟩ := List.mem_map.mp hp
    have := Ex.dep_mem hx
    show n + 1 + x.dep ≤ _
    omega
  have h2 : n + e.dep ≤ max n (reach (e.es.map fun x => (n + 1, x))) := by
    cases e with
    | node w ns ks es =>
      rw [Ex.dep]
      rcases depL_zero_or es with rfl | ⟨x, hx, h⟩
      · show n + Ex.depL [] ≤ max n _
        rw [Ex.depL]
        omega
      · have := (reach_le (S := es.map fun x => (n + 1, x)) (d := reach (es.map fun x => (n + 1, x)))).mp (Nat.le_refl _) (n + 1, x) (List.mem_map.mpr ⟨x, hx, rfl⟩)
        show n + Ex.depL es ≤ max n (reach (es.map fun x => (n + 1, x)))
        have h3 : n + 1 + x.dep ≤ reach (es.map fun x => (n + 1, x)) := this
        omega
  omega
def spSizeOf (K : PySem.W.Frag) : Sp := fun vs H Q _ => ∃ (v : V) (e : Ex), vs = [v] ∧ Dp K H v e.d ∧ e.ok = true ∧ e.size ≤ 1000000 ∧ ∀ H' p, Same H H' → H' p = some (.tup [.int (e.size : Nat), .int (e.dep : Nat)]) → Q (.ref p) H'
def great (e : Ex) : Bool := decide (400 < e.size) || decide (40 < e.dep)
def spGreat (K : PySem.W.Frag) : Sp := fun vs H Q _ => ∃ (v : V) (e : Ex), vs = [v] ∧ Dp K H v e.d ∧ e.ok = true ∧ e.size ≤ 1000000 ∧ ∀ H', Same H H' → Q (.bl (great e)) H'
section
variable {P : Program} {w : World} {K : PySem.W.Frag} {mg : Str → Option Value} {base : Heap} {dF dK dL dB CN CC : Addr}
abbrev nsSize : List Str := ["e", "many", "deepest", "left", "here", "deep", "inner"]
theorem sc_size_of : FnScope nsSize ["e"] (defScope s_size_of) := ⟨rfl, rfl, rfl, by decide +kernel, rfl, by decide +kernel, by decide +kernel⟩
def muSize (M : Nat) : L2.St → Hp → Nat := fun σ _ => match σ[1]? with | some (some (V.int m)) => ((M : Int) - m).toNat | _ => 0
theorem ok_size_of {f : Addr} {fd : FuncData} (F : Fun K "size_of" "size_of" s_size_of f fd) (C : Cst K w mg dF dK dL dB) (GP : Dfn P w K mg base "parts_of" 1 ["e"] (spParts K)) : FnOk P w K mg base CX0 2 f fd ["e"] (spSizeOf K) := by
  refine F.ok sc_size_of (fun vs H Q E h => ?_) (fun cdv A outer s H vs Q E hr h => ?_)
  · obtain ⟨v, e, rfl, _⟩ := h
    rfl
  · obtain ⟨v, e, rfl, hd, hg, hsz, k⟩ := h
    refine ⟨_, (pss_cons (ps_asg (pe_tup (pa_cons (pe_int) (pa_cons (pe_int) (pa_nil)))) (pg_tup rfl (pgs_cons (pg_name (i := 1) sc_size_of.nd rfl (Or.inl rfl)) (pgs_cons (pg_name (i := 2) sc_size_of.nd rfl (Or.inl rfl)) pgs_nil)))) (pss_cons (ps_set (i := 3) sc_size_of.nd rfl (Or.inl rfl) (pe_lst (pa_cons (pe_tup (pa_cons (pv 0) (pa_cons (pe_int) (pa_nil)))) (pa_nil)))) (pss_cons (ps_while PassesOwn.never (pt_cmpR (op_neE hr.units0) (pv 3) (pe_lst pa_nil) (nomark _))
        (pss_cons (ps_asg (pe_bm0 PySem.F.plainAttrs_list PySem.F.slot_list_pop PySem.F.type_list_pop mt_pop (pv 3)) (pg_tup rfl (pgs_cons (pg_name (i := 4) sc_size_of.nd rfl (Or.inl rfl)) (pgs_cons (pg_name (i := 5) sc_size_of.nd rfl (Or.inr rfl)) pgs_nil)))) (pss_cons (ps_aug (i := 1) sc_size_of.nd rfl (Or.inl rfl) pe_int ip_add) (pss_cons (ps_set (i := 2) sc_size_of.nd rfl (Or.inl rfl) (pe_callB (call_max2 rfl) (by rfl) C.max boot_max (pa_cons (pv 2) (pa_cons (pv 5) (pa_nil))))) (pss_one (ps_expr (pe_bm PySem.F.plainAttrs_list PySem.F.slot_list_extend PySem.F.type_list_extend mt_extend (pv 3) (pa_cons (pe_lc (own := [("inner", 6)]) (g := gName 6) (tt := tYes) (te := tTup (tCons (tVar 6) (tCons (tOp (rI0 fun i j => .int (i + j)) (tVar 5) (tC (.int 1))) tNil))) rfl sc_size_of.nd
            (pi_list (pe_callD GP hr (by rfl) (pa_cons (pv 4) (pa_nil)))) (blkOk_by (N := nsSize) (sc := defScope s_size_of) (by decide +kernel))
            (fun _ _ _ _ _ => pg_name (i := 6) sc_size_of.nd rfl (Or.inl rfl)) (fun _ _ _ _ _ => pts_nil) (fun _ _ _ _ _ => pe_tup (pa_cons (pv 6) (pa_cons (pe_op op_add (pv 5) pe_int) (pa_nil))))) (pa_nil))))))))) (pss_one (ps_ret (pe_tup (pa_cons (pv 1) (pa_cons (pv 2) (pa_nil))))))))), ?_⟩
    refine ⟨by show 2 ≤ sizeLine; decide, fun t0 ht0 => ⟨t0, _, rfl, SqT.of upd_same, rfl, _, _, rfl, _, _, rfl, rfl, ?_⟩⟩
    have s0 : Same H (upd H t0 (.tup [.int 0, .int 0])) := Same.new ht0
    refine ⟨_, rfl, by show 2 ≤ sizeLine; decide, fun t1 ht1 => ⟨by show 1 ≤ sizeLine; decide, fun l hl => ?_⟩⟩
    have s1 : Same H (upd (upd H t0 (.tup [.int 0, .int 0])) t1 (.tup [v, .int 0])) := Same.over s0 (s0.free ht1)
    have nl : H l = none := s1.free hl
    have s2 := Same.new (o := .lst [.ref t1]) hl
    have sA := s1.trans s2
    generalize hHA : upd (upd (upd H t0 (.tup [.int 0, .int 0])) t1 (.tup [v, .int 0])) l (.lst [.ref t1]) = HA at s2 sA
    have hst0 : Pile K HA [.ref t1] [(0, e)] := .cons ⟨t1, v, rfl, SqT.of (s2 _ _ upd_same), Dp.same sA _ _ hd⟩ .nil
    have hlA : HA l = some (.lst [.ref t1]) := by rw [← hHA, upd_same]
    refine while_by (fun σ H' => ∃ (vs : List V) (S : List (Nat × Ex)) (m d : Nat) (z4 z5 : Option V), σ = [some v, some (.int m), some (.int d), some (.ref l), z4, z5, none] ∧ Same H H' ∧ H' l = some (.lst vs) ∧ Pile K H' vs S ∧
      (∀ p ∈ S, p.2.ok = true) ∧ m + (S.map fun p => p.2.size).sum = e.size ∧ max d (reach S) = e.dep) (muSize e.size) ⟨_, _, 0, 0, _, _, rfl, sA, hlA, hst0, by simp [hg], by simp, by simp [reach]⟩ ?_ ?_
    · rintro σ H1 ⟨vs, S, m, d, z4, z5, rfl, s3, hl1, hst, hall, hsum, hrch⟩
      refine ⟨_, rfl, by show 0 ≤ sizeLine; decide, fun le hle => ⟨l, le, vs, rfl, rfl, SqL.of (Same.new hle _ _ hl1), SqL.of upd_same, _, rfl, ?_⟩⟩
      have s4 : Same H1 (upd H1 le (.lst [])) := Same.new hle
      refine ite2 (fun hne => ?_) (fun hemp => ?_)
      · have hvs : vs ≠ [] := by rintro rfl; simp at hne
        obtain ⟨vi, vl, rfl⟩ := snoc_of hvs
        obtain ⟨S', ⟨dp, e'⟩, rfl, hst', t, ev, rfl, htq, hev⟩ := Pile.snoc hst
        have hok' := hall (dp, e') (by simp)
        dsimp only at hok' hev htq
        have hsum' : m + (S'.map fun p => p.2.size).sum + e'.size = e.size := by
          rw [List.map_append, sum_app] at hsum
          simp only [List.map_cons, List.map_nil, List.sum_cons, List.sum_nil] at hsum
          omega
        rw [reach_app, show reach [(dp, e')] = dp + e'.dep by simp [reach], ← reach_parts dp e'] at hrch
        have hl4 := s4 _ _ hl1
        refine ⟨_, rfl, .inl ⟨rfl, _, SqL.of hl4⟩, l, _, .ref t, rfl, rfl, hl4, by simp, ?_⟩
        rw [List.dropLast_concat]
        have ts5 : TSame (upd H1 le (.lst [])) (upd (upd H1 le (.lst [])) l (.lst vi)) := TSame.mut hl4 trivial
        have s5 : Same H (upd (upd H1 le (.lst [])) l (.lst vi)) := Same.over (s3.trans s4) nl
        generalize hH5 : upd (upd H1 le (.lst [])) l (.lst vi) = H5 at ts5 s5
        have hl5 : H5 l = some (.lst vi) := by rw [← hH5, upd_same]
        have ts15 : TSame H1 H5 := (TSame.of s4).trans ts5
        have hev5 := Dp.tsame ts15 _ _ (Ex.flat _) hev
        obtain ⟨a', kvs', evs', rfl, hn'⟩ := node_of hev5
        have hsz' := Ex.size_eq e'
        refine ⟨t, _, rfl, ts15.seqT htq, rfl, _, _, rfl, _, _, rfl, rfl, ?_⟩
        refine ⟨_, rfl, _, _, rfl, rfl, ?_⟩
        refine ⟨_, rfl, _, rfl, _, _, rfl, ?_⟩
        have emax : (if ((dp : Nat) : Int) > ((d : Nat) : Int) then ((dp : Nat) : Int) else ((d : Nat) : Int)) = ((max d dp : Nat) : Int) := by split <;> omega
        refine ⟨_, rfl, .inl ⟨rfl, _, SqL.of hl5⟩, ?_⟩
        refine ⟨_, rfl, e'.w, a', _, kvs', evs', rfl, hn'.v hok', fun H7 li s7 nli hli => ⟨li, rfl, ⟨_, SqL.of hli⟩, fun D hD => ?_⟩⟩
        have lev : evs'.length = e'.es.length := by rw [DpAll.length hn'.es, Ex.dL_eq, List.length_map]
        have lev3 : evs'.length ≤ 3 := by
          rw [show evs'.length = e'.w.ar.2.2 from congrArg (·.2.2) (hn'.v hok').ar]
          cases e'.w <;> decide
        have hl7 := s7 _ _ hl5
        have nD : H D = none := (s5.trans s7).free hD
        refine lc_ex (walk_list (xs := evs')) (Nat.lt_of_le_of_lt (show _ ≤ 1000 by omega) (by decide)) (fun i acc H' => Same H7 H' ∧ Pile K H' acc ((e'.es.map fun x => (dp + 1, x)).take i)) ⟨Same.new hD, .nil⟩ (fun i acc H' r _ => SqL.of (r.1 _ _ hli)) ?_ ?_ gName_mono
        · rintro i acc x H0 H' Q2 hi hacc ⟨s8, hstk⟩ hlD ⟨rfl, hx⟩ k2
          obtain ⟨dd, hdd, hdx⟩ := DpAll.get hn'.es hx
          rw [Ex.dL_eq, List.getElem?_map] at hdd
          cases eq : e'.es[i]? with
          | none => rw [eq] at hdd; cases hdd
          | some ek =>
            rw [eq] at hdd
            cases hdd
            have hpt : (e'.es.map fun x => (dp + 1, x)).take (i + 1) = (e'.es.map fun x => (dp + 1, x)).take i ++ [(dp + 1, ek)] := by rw [List.take_succ, List.getElem?_map, eq]; rfl
            refine ⟨rfl, _, rfl, _, rfl, _, _, rfl, rfl, by show 2 ≤ sizeLine; decide, fun u hu => ?_⟩
            have su := Same.new (o := .tup [x, .int ((dp : Int) + 1)]) hu
            have hlD' := su _ _ hlD
            have tsD : ∀ o, TSame (upd H' u (.tup [x, .int ((dp : Int) + 1)])) (upd (upd H' u (.tup [x, .int ((dp : Int) + 1)])) D o) := fun o => TSame.mut hlD' trivial
            refine k2 _ _ hlD' ⟨Same.over (s8.trans su) hD, ?_⟩
            rw [hpt]
            exact Pile.append (Pile.tsame (tsD _) (Pile.tsame (TSame.of su) hstk)) (.cons ⟨u, x, rfl, (tsD _).seqT (SqT.of upd_same), Dp.tsame (tsD _) _ _ (Ex.flat _) (Dp.same ((s7.trans s8).trans su) _ _ hdx)⟩ .nil)
        · rintro acc H' ⟨s8, hstk⟩ hlD hacc
          have hl8 := s8 _ _ hl7
          have lvi : vi.length ≤ 1000000 := by
            have h1 := Paired.length hst'
            have h2 : S'.length ≤ (S'.map fun p => p.2.size).sum := by
              clear hst hst' hall hsum hsum' hl1 h1 hrch
              induction S' with
              | nil => simp
              | cons p S ih =>
                have := Ex.size_eq p.2
                simp only [List.map_cons, List.sum_cons, List.length_cons]
                omega
            omega
          refine ⟨l, D, vi, acc, rfl, rfl, hl8, hlD, Nat.le_trans (show vi.length + acc.length ≤ 2000000 by omega) (by decide), ?_⟩
          have tsl : TSame H' (upd H' l (.lst (vi ++ acc))) := TSame.mut hl8 trivial
          refine ⟨⟨vi ++ acc, S' ++ e'.es.map fun x => (dp + 1, x), m + 1, max d dp, _, _, by rw [← emax]; rfl, Same.over ((s5.trans s7).trans s8) nl, upd_same, ?_, ?_, ?_, ?_⟩, ?_⟩
          · refine Pile.append (Pile.tsame tsl (Pile.tsame (TSame.of (s7.trans s8)) (Pile.tsame ts15 hst'))) (Pile.tsame tsl ?_)
            rw [List.take_of_length_le (by rw [List.length_map]; omega)] at hstk
            exact hstk
          · intro p hp
            rcases List.mem_append.mp hp with hp | hp
            · exact hall p (List.mem_append_left _ hp)
            · obtain ⟨x, hx, rfl⟩ := List.mem_map.mp hp
              cases e' with
              | node w0 ns0 ks0 es0 =>
                rw [Ex.ok, Bool.and_eq_true] at hok'
                exact Ex.okL_iff.mp hok'.2 x hx
          · have e3 : ((e'.es.map fun x => (dp + 1, x)).map fun p => p.2.size).sum = (e'.es.map Ex.size).sum := by rw [List.map_map]; rfl
            rw [List.map_append, sum_app, e3]
            omega
          · rw [reach_app]
            omega
          · show ((e.size : Int) - ((m : Int) + 1)).toNat < ((e.size : Int) - (m : Int)).toNat
            omega
      · have hvs : vs = [] := by cases vs with | nil => rfl | cons x xs => simp at hemp
        subst hvs
        cases hst
        refine ⟨_, rfl, _, rfl, by show 2 ≤ sizeLine; decide, fun p hp => ?_⟩
        refine k _ p (Same.over (s3.trans s4) ((s3.trans s4).free hp)) ?_
        rw [upd_same]
        have h1 : m = e.size := by simpa using hsum
        have h2 : d = e.dep := by simpa [reach] using hrch
        rw [h1, h2]
    · rintro σ H1 Q1 Q2 hQ ⟨v1, e1, hz, h1⟩
      exact ⟨v1, e1, hz, fun p hp => by
        obtain ⟨a, b, xs, e1, e2, h3, h4, kk, ek, q⟩ := h1 p hp
        exact ⟨a, b, xs, e1, e2, h3, h4, kk, ek, hQ _ _ q⟩⟩
theorem sc_is_great : FnScope ["e", "many", "deepest"] ["e"] (defScope s_is_great) := ⟨rfl, rfl, rfl, by decide +kernel, rfl, by decide +kernel, by decide +kernel⟩
theorem ok_is_great {f : Addr} {fd : FuncData} (F : Fun K "is_great" "is_great" s_is_great f fd) (C : Cst K w mg dF dK dL dB) (G : Dfn P w K mg base "size_of" 2 ["e"] (spSizeOf K)) : FnOk P w K mg base CX0 3 f fd ["e"] (spGreat K) := by
  refine F.ok sc_is_great (fun vs H Q E h => ?_) (fun cdv A outer s H vs Q E hr h => ?_)
  · obtain ⟨v, e, rfl, _⟩ := h
    rfl
  · obtain ⟨v, e, rfl, hd, hg, hsz, k⟩ := h
    refine ⟨_, (pss_cons (ps_asg (pe_callD G hr (by rfl) (pa_cons (pv 0) (pa_nil))) (pg_tup rfl (pgs_cons (pg_name (i := 1) sc_is_great.nd rfl (Or.inl rfl)) (pgs_cons (pg_name (i := 2) sc_is_great.nd rfl (Or.inl rfl)) pgs_nil)))) (pss_one (ps_ret (pe_or (pe_cmpR op_gt (pv 1) (pe_gv C.MP) (nomark _)) (pe_one (pe_cmpR op_gt (pv 2) (pe_gv C.MW) (nomark _))))))), ?_⟩
    refine ⟨_, rfl, v, e, rfl, hd, hg, hsz, fun H1 p s1 hp => ⟨p, _, rfl, SqT.of hp, rfl, _, _, rfl, _, _, rfl, rfl, ?_⟩⟩
    have e1 : decide ((400 : Int) < ((e.size : Nat) : Int)) = decide (400 < e.size) := by by_cases h : 400 < e.size <;> simp [h] <;> omega
    have e2 : decide ((40 : Int) < ((e.dep : Nat) : Int)) = decide (40 < e.dep) := by by_cases h : 40 < e.dep <;> simp [h] <;> omega
    have hk := k H1 s1
    unfold great at hk
    refine ⟨_, rfl, _, _, rfl, rfl, _, rfl, ?_⟩
    refine ite2 (fun h => ?_) (fun h => ⟨_, rfl, _, _, rfl, rfl, ?_⟩)
    · rw [← e1, show decide ((400 : Int) < ((e.size : Nat) : Int)) = true from h] at hk
      exact hk
    · rw [← e1, show decide ((400 : Int) < ((e.size : Nat) : Int)) = false from Bool.eq_false_iff.mpr h, Bool.false_or, ← e2] at hk
      exact hk
end
end Lw
set_option Elab.async false
set_option linter.all false
set_option maxRecDepth 100000
set_option maxHeartbeats 4000000
namespace Lw
open PySem PySem.Spec PyProof.Rows L2 RZ
theorem formL_rep {w : Wd} {a b c : Nat} (ar : (a, b, c) = w.ar) : formL w = List.replicate a sN ++ (List.replicate b sK ++ List.replicate c sE) := by
  cases w <;> simp only [Wd.ar, Prod.mk.injEq] at ar <;> obtain ⟨rfl, rfl, rfl⟩ := ar <;> rfl
theorem three_parts {a b c i : Nat} {x : V} (h : (List.replicate a sN ++ (List.replicate b sK ++ List.replicate c sE))[i]? = some x) :
    (i < a ∧ x = sN) ∨ (a ≤ i ∧ i < a + b ∧ x = sK) ∨ (a + b ≤ i ∧ i < a + b + c ∧ x = sE) := by
  by_cases c1 : i < a
  · rw [List.getElem?_append_left (by simpa using c1), List.getElem?_replicate, if_pos c1] at h
    cases h
    exact .inl ⟨c1, rfl⟩
  · rw [List.getElem?_append_right (by simpa using Nat.le_of_not_lt c1)] at h
    simp only [List.length_replicate] at h
    by_cases c2 : i - a < b
    · rw [List.getElem?_append_left (by simpa using c2), List.getElem?_replicate, if_pos c2] at h
      cases h
      exact .inr (.inl ⟨by omega, by omega, rfl⟩)
    · rw [List.getElem?_append_right (by simpa using Nat.le_of_not_lt c2), List.getElem?_replicate] at h
      split at h
      · cases h
        rename_i h3
        simp only [List.length_replicate] at h3
        exact .inr (.inr ⟨by omega, by omega, rfl⟩)
      · cases h
theorem binds_no {w : Wd} {a b c : Nat} (ar : (a, b, c) = w.ar) (h : w.binds = false) (hn : w ≠ .name) (hm : w ≠ .num) : a = 0 := by
  cases w <;> simp only [Wd.ar, Prod.mk.injEq] at ar <;> first | exact absurd rfl hn | exact absurd rfl hm | exact ar.1 | exact (nomatch h)
theorem seq0 {n : Nat} (h : 0 < n) : seqIndex? (0 : Int) n = some 0 := by
  refine (ixN_seq (n := n) (i := 0) (j := 0) ?_).1
  unfold ixN
  rw [if_pos (by decide), if_pos (by omega)]
  rfl
theorem erase0 {l : List V} {i : Nat} : (l.drop i).eraseIdx 0 = l.drop (i + 1) := by
  rw [List.eraseIdx_zero, List.tail_drop]
def newNs (w : Wd) (ns nvs : List V) : List V := if w.binds then nvs else ns
def spRebuilt (K : PySem.W.Frag) : Sp := fun vs H Q _ => ∃ (w : Wd) (a n p : Addr) (ns kvs evs nvs pvs : List V), vs = [.ref a, .ref n, .ref p] ∧ NodeV K H w ns kvs evs a ∧ w ≠ .name ∧ (SqL K H n nvs ∨ SqT K H n nvs) ∧ SqL K H p pvs ∧ pvs.length = evs.length ∧ (w.binds = true → nvs.length = ns.length) ∧
  ∀ H' q, Same H H' → H q = none → H' q = some (.tup (.str w.s :: (newNs w ns nvs ++ (kvs ++ pvs)))) → Q (.ref q) H'
section
variable {P : Program} {w : World} {K : PySem.W.Frag} {mg : Str → Option Value} {base : Heap} {dF dK dL dB CN CC : Addr}
abbrev nsReb : List Str := ["e", "numbers", "parts", "rest", "found", "sort", "inner"]
theorem sc_rebuilt : FnScope nsReb ["e", "numbers", "parts"] (defScope s_rebuilt) := ⟨rfl, rfl, rfl, by decide +kernel, rfl, by decide +kernel, by decide +kernel⟩
theorem ok_rebuilt {f : Addr} {fd : FuncData} (F : Fun K "rebuilt" "rebuilt" s_rebuilt f fd) (C : Cst K w mg dF dK dL dB) : FnOk P w K mg base CX0 1 f fd ["e", "numbers", "parts"] (spRebuilt K) := by
  refine F.ok sc_rebuilt (fun vs H Q E h => ?_) (fun cdv A outer s H vs Q E hr h => ?_)
  · obtain ⟨w, a, n, p, ns, kvs, evs, nvs, pvs, rfl, _⟩ := h
    rfl
  · obtain ⟨w, a, n, p, ns, kvs, evs, nvs, pvs, rfl, hv, hname, hn, hp, lp, ln, k⟩ := h
    refine ⟨_, (pss_cons (ps_par (by rfl) sc_rebuilt.nd (i := 1) (j := 3) rfl rfl (by decide) rfl rfl (pa_cons (pe_callTy call_list_of (by rfl) C.list boot_list (pa_cons (pv 1) (pa_nil))) (pa_cons (pe_callTy call_list_of (by rfl) C.list boot_list (pa_cons (pv 2) (pa_nil))) (pa_nil))) (by rfl)) (pss_cons (ps_set (i := 4) sc_rebuilt.nd rfl (Or.inl rfl) (pe_lst (pa_cons (pe_ix ix_tup (pv 0) pe_int (fun _ _ => rfl)) (pa_nil)))) (pss_cons (ps_for PassesOwn.never rfl (pi_zipG (by rfl) C.zip (pa_cons (pe_ix (ix_kdc C.fF) (pe_gv C.FORMS) (pe_ix ix_tup (pv 0) pe_int (fun _ _ => rfl)) (fun _ _ => rfl)) (pa_cons (pe_slice sl_tup (pv 0) (po_some pe_int) po_none) (pa_nil)))) (pg_tup rfl (pgs_cons (pg_name (i := 5) sc_rebuilt.nd rfl (Or.inl rfl)) (pgs_cons (pg_name (i := 6) sc_rebuilt.nd rfl (Or.inl rfl)) pgs_nil)))
        (pss_one (ps_if (pt_cmpR op_eq (pv 5) pe_str (nomark _)) (pss_one (ps_expr (pe_bm PySem.F.plainAttrs_list PySem.F.slot_list_append PySem.F.type_list_append mt_append (pv 4) (pa_cons (pe_bm PySem.F.plainAttrs_list PySem.F.slot_list_pop PySem.F.type_list_pop mt_popAt (pv 3) (pa_cons (pe_int) (pa_nil))) (pa_nil)))))
          (pss_one (ps_if (PW.pt (pw_and (pt_cmpR op_eq (pv 5) pe_str (nomark _)) (pw_and1 (pt_cmpR op_ne (pe_ix ix_tup (pv 0) pe_int (fun _ _ => rfl)) pe_str (nomark _)))))
            (pss_one (ps_expr (pe_bm PySem.F.plainAttrs_list PySem.F.slot_list_append PySem.F.type_list_append mt_append (pv 4) (pa_cons (pe_bm PySem.F.plainAttrs_list PySem.F.slot_list_pop PySem.F.type_list_pop mt_popAt (pv 1) (pa_cons (pe_int) (pa_nil))) (pa_nil)))))
            (pss_one (ps_expr (pe_bm PySem.F.plainAttrs_list PySem.F.slot_list_append PySem.F.type_list_append mt_append (pv 4) (pa_cons (pv 6) (pa_nil)))))))))) (pss_one (ps_ret (pe_callTy call_tuple_of (by rfl) C.tuple boot_tuple (pa_cons (pv 4) (pa_nil)))))))), ?_⟩
    have hsq := hv.sq
    have hl := nodev_len hv.ar
    have hrep := formL_rep hv.ar
    have l5 : (formL w).length ≤ 5 := by cases w <;> decide
    have lL : (ns ++ (kvs ++ evs)).length = ns.length + kvs.length + evs.length := by simp; omega
    refine ⟨_, rfl, n, nvs, rfl, hn, fun nl hnl => ⟨_, rfl, p, pvs, rfl, .inl (Same.seq (Same.new hnl) hp), fun rl hrl => ⟨_, _, rfl, ?_⟩⟩⟩
    have s1 := Same.new (o := .lst nvs) hnl
    have s2 := Same.new (o := .lst pvs) hrl
    have s12 := s1.trans s2
    refine ⟨_, rfl, _, _, _, _, rfl, rfl, Same.seqT s12 hsq, at_of (j := 0) rfl rfl, by show 1 ≤ sizeLine; decide, fun fl hfl => ?_⟩
    have s3 := Same.new (o := .lst [.str w.s]) hfl
    have s13 := s12.trans s3
    have hsq3 := Same.seqT s13 hsq
    refine ⟨_, rfl, _, _, _, _, rfl, rfl, hsq3, at_of (j := 0) rfl rfl, _, _, rfl, rfl, formG_w w, ?_⟩
    refine ⟨_, rfl, _, rfl, _, _, rfl, hsq3, ?_, fun q hq => ?_⟩
    · cases hLL : ns ++ (kvs ++ evs) with
      | nil => exfalso; rw [hLL, List.length_nil] at hl; cases w <;> cases hl
      | cons y l => exact cut1_no
    rw [cut1]
    have s4 := Same.new (o := .tup (ns ++ (kvs ++ evs))) hq
    have nnl : H nl = none := hnl
    have nrl : H rl = none := s1.free hrl
    have nfl : H fl = none := s12.free hfl
    have d1 : rl ≠ nl := upd_no_ne hrl
    have d2 : fl ≠ rl := upd_no_ne hfl
    have d3 : fl ≠ nl := upd_no_ne (upd_no hfl)
    generalize hHA : upd (upd (upd (upd H nl (.lst nvs)) rl (.lst pvs)) fl (.lst [.str w.s])) q (.tup (ns ++ (kvs ++ evs))) = HA at s4
    have hnA : HA nl = some (.lst nvs) := s4 _ _ (s3 _ _ (s2 _ _ upd_same))
    have hrA : HA rl = some (.lst pvs) := s4 _ _ (s3 _ _ upd_same)
    have hfA : HA fl = some (.lst [.str w.s]) := s4 _ _ upd_same
    have hqA : SqT K HA q (ns ++ (kvs ++ evs)) := SqT.of (by rw [← hHA, upd_same])
    have sA : Same H HA := s13.trans s4
    have hout : ((newNs w ns nvs).length = ns.length) := by
      unfold newNs
      cases hb : w.binds with
      | true => rw [if_pos rfl]; exact ln hb
      | false => rw [if_neg Bool.false_ne_true]
    refine ⟨.str w.form, .tup q, formL w, ns ++ (kvs ++ evs), rfl, (signs_form w).symm, hqA, ?_⟩
    refine for_it (walk_zipG (xs := formL w) (ys := ns ++ (kvs ++ evs)) (n := (ns ++ (kvs ++ evs)).length) (by omega)) (fun i σ H' => Same H H' ∧ SqT K H' q (ns ++ (kvs ++ evs)) ∧ (∃ z5 z6, σ = [some (.ref a), some (.ref nl), some (.ref p), some (.ref rl), some (.ref fl), z5, z6]) ∧
      (∃ ln', H' nl = some (.lst ln') ∧ (w.binds = true → ln' = nvs.drop i)) ∧ H' rl = some (.lst (pvs.drop (i - (ns.length + kvs.length)))) ∧ H' fl = some (.lst (.str w.s :: (newNs w ns nvs ++ (kvs ++ pvs)).take i)))
      ⟨sA, hqA, ⟨_, _, rfl⟩, ⟨nvs, hnA, fun _ => rfl⟩, by simpa using hrA, by simpa using hfA⟩ (fun i σ H' _ h => ⟨(signs_form w).symm, h.2.1⟩) ?_ ?_
    · rintro i v σ H1 H2 hi ⟨s5, hq5, ⟨z5, z6, rfl⟩, ⟨ln', hnl5, hln⟩, hrl5, hfl5⟩ ⟨T, x, y, rfl, hT, rfl, hx, hy⟩
      have s6 : Same H1 (upd H1 T (.tup [x, y])) := Same.new hT
      have hx' : (formL w)[i]? = some x := hx
      rw [hrep] at hx'
      have hy' : (ns ++ (kvs ++ evs))[i]? = some y := hy
      refine ⟨T, _, rfl, SqT.of upd_same, rfl, _, _, rfl, _, _, rfl, rfl, ?_⟩
      have hfl6 := s6 _ _ hfl5
      have hrl6 := s6 _ _ hrl5
      have hnl6 := s6 _ _ hnl5
      have s7 := s5.trans s6
      have hlen : ((V.str w.s) :: (newNs w ns nvs ++ (kvs ++ pvs)).take i).length < sizeLine := by
        rw [List.length_cons, List.length_take]
        exact small1000 (by omega)
      have step : ∀ z, (newNs w ns nvs ++ (kvs ++ pvs))[i]? = some z → (V.str w.s) :: (newNs w ns nvs ++ (kvs ++ pvs)).take (i + 1) = ((V.str w.s) :: (newNs w ns nvs ++ (kvs ++ pvs)).take i) ++ [z] := fun z hz => by
        rw [List.take_succ, hz]; rfl
      rcases three_parts hx' with ⟨c1, rfl⟩ | ⟨c1, c2, rfl⟩ | ⟨c1, c2, rfl⟩
      · -- a number
        refine ⟨_, rfl, rfl, _, rfl, ite2 (fun h => absurd h (by decide +kernel)) (fun _ => ?_)⟩
        refine ⟨_, rfl, rfl, _, rfl, ite2 (fun _ => ?_) (fun h => absurd (decide_eq_true rfl) h)⟩
        refine ⟨_, rfl, _, _, _, _, rfl, rfl, Same.seqT s7 hsq, at_of (j := 0) rfl rfl, rfl, _, rfl, ite2 (fun hc => ?_) (fun hc => ?_)⟩
        · have hb : w.binds = true := by
            cases hb : w.binds with
            | true => rfl
            | false =>
              have : w ≠ .num := by
                rintro rfl
                exact absurd hc (by decide +kernel)
              have := binds_no hv.ar hb hname this
              omega
          have e1 := hln hb
          subst e1
          have hnv : i < nvs.length := by rw [ln hb]; exact c1
          have hz : nvs[i]? = some nvs[i] := List.getElem?_eq_getElem hnv
          refine ⟨_, rfl, .inl ⟨rfl, _, SqL.of hfl6⟩, ?_⟩
          refine ⟨_, rfl, .inl ⟨rfl, _, SqL.of hnl6⟩, nl, _, 0, 0, nvs[i], rfl, rfl, hnl6, by decide, by decide, ?_, by rw [List.getElem?_drop]; simpa using hz, ?_⟩
          · exact seq0 (by rw [List.length_drop]; omega)
          have hn7 : upd (upd H1 T (.tup [sN, y])) nl (.lst ((nvs.drop i).eraseIdx 0)) nl = some (.lst ((nvs.drop i).eraseIdx 0)) := upd_same
          have hfl7 : upd (upd H1 T (.tup [sN, y])) nl (.lst ((nvs.drop i).eraseIdx 0)) fl = some (.lst (.str w.s :: (newNs w ns nvs ++ (kvs ++ pvs)).take i)) := by rw [upd_ne d3]; exact hfl6
          have hrl7 : upd (upd H1 T (.tup [sN, y])) nl (.lst ((nvs.drop i).eraseIdx 0)) rl = some (.lst (pvs.drop (i - (ns.length + kvs.length)))) := by rw [upd_ne d1]; exact hrl6
          have ts7 : TSame (upd H1 T (.tup [sN, y])) (upd (upd H1 T (.tup [sN, y])) nl (.lst ((nvs.drop i).eraseIdx 0))) := TSame.mut hnl6 trivial
          have s8 := Same.over (o := .lst ((nvs.drop i).eraseIdx 0)) s7 nnl
          have hat : (newNs w ns nvs ++ (kvs ++ pvs))[i]? = some nvs[i] := by
            rw [List.getElem?_append_left (by omega)]
            unfold newNs
            rw [if_pos hb]
            exact hz
          refine ⟨fl, _, _, rfl, rfl, hfl7, hlen, ?_⟩
          refine ⟨Same.over s8 nfl, (TSame.mut hfl7 trivial).seqT (ts7.seqT (Same.seqT s6 hq5)), ⟨_, _, rfl⟩, ⟨_, by rw [upd_ne d3.symm]; exact hn7, fun _ => erase0⟩, ?_, by rw [upd_same, step _ hat]⟩
          rw [upd_ne d2.symm, hrl7, show i + 1 - (ns.length + kvs.length) = i - (ns.length + kvs.length) by omega]
        · have hw : w = .num := by
            have h1 : decide (V.str w.s = V.str ("num" : Str)) = true := by
              cases h : decide (V.str w.s = V.str ("num" : Str)) with
              | true => rfl
              | false => rw [h] at hc; exact absurd rfl hc
            exact tst (b := .num) h1
          have hb : w.binds = false := by rw [hw]; rfl
          have hat : (newNs w ns nvs ++ (kvs ++ pvs))[i]? = some y := by
            rw [List.getElem?_append_left (by omega)]
            unfold newNs
            rw [if_neg (by rw [hb]; exact Bool.false_ne_true)]
            rw [List.getElem?_append_left c1] at hy'
            exact hy'
          refine ⟨_, rfl, .inl ⟨rfl, _, SqL.of hfl6⟩, ?_⟩
          refine ⟨_, rfl, fl, _, _, rfl, rfl, hfl6, hlen, ?_⟩
          refine ⟨Same.over s7 nfl, (TSame.mut hfl6 trivial).seqT (Same.seqT s6 hq5), ⟨_, _, rfl⟩, ⟨ln', by rw [upd_ne d3.symm]; exact hnl6, fun h => by rw [hb] at h; cases h⟩, ?_, by rw [upd_same, step _ hat]⟩
          rw [upd_ne d2.symm, hrl6, show i + 1 - (ns.length + kvs.length) = i - (ns.length + kvs.length) by omega]
      · refine ⟨_, rfl, rfl, _, rfl, ite2 (fun h => absurd h (by decide +kernel)) (fun _ => ?_)⟩
        refine ⟨_, rfl, rfl, _, rfl, ite2 (fun h => absurd h (by decide +kernel)) (fun _ => ?_)⟩
        have hat : (newNs w ns nvs ++ (kvs ++ pvs))[i]? = some y := by
          rw [List.getElem?_append_right (by omega), hout, List.getElem?_append_left (by omega)]
          rw [List.getElem?_append_right c1, List.getElem?_append_left (by omega)] at hy'
          exact hy'
        refine ⟨_, rfl, .inl ⟨rfl, _, SqL.of hfl6⟩, ?_⟩
        refine ⟨_, rfl, fl, _, _, rfl, rfl, hfl6, hlen, ?_⟩
        refine ⟨Same.over s7 nfl, (TSame.mut hfl6 trivial).seqT (Same.seqT s6 hq5), ⟨_, _, rfl⟩, ⟨ln', by rw [upd_ne d3.symm]; exact hnl6, fun hb => ?_⟩, ?_, by rw [upd_same, step _ hat]⟩
        · rw [hln hb, List.drop_of_length_le (by rw [ln hb]; exact c1), List.drop_of_length_le (by rw [ln hb]; omega)]
        · rw [upd_ne d2.symm, hrl6, show i + 1 - (ns.length + kvs.length) = i - (ns.length + kvs.length) by omega]
      · refine ⟨_, rfl, rfl, _, rfl, ite2 (fun _ => ?_) (fun h => absurd (decide_eq_true rfl) h)⟩
        have hj : i - (ns.length + kvs.length) < pvs.length := by omega
        have hz : pvs[i - (ns.length + kvs.length)]? = some pvs[i - (ns.length + kvs.length)] := List.getElem?_eq_getElem hj
        refine ⟨_, rfl, .inl ⟨rfl, _, SqL.of hfl6⟩, ?_⟩
        refine ⟨_, rfl, .inl ⟨rfl, _, SqL.of hrl6⟩, rl, _, 0, 0, pvs[i - (ns.length + kvs.length)], rfl, rfl, hrl6, by decide, by decide, seq0 (by rw [List.length_drop]; omega), by rw [List.getElem?_drop]; simpa using hz, ?_⟩
        have hfl7 : upd (upd H1 T (.tup [sE, y])) rl (.lst ((pvs.drop (i - (ns.length + kvs.length))).eraseIdx 0)) fl = some (.lst (.str w.s :: (newNs w ns nvs ++ (kvs ++ pvs)).take i)) := by rw [upd_ne d2]; exact hfl6
        have hnl7 : upd (upd H1 T (.tup [sE, y])) rl (.lst ((pvs.drop (i - (ns.length + kvs.length))).eraseIdx 0)) nl = some (.lst ln') := by rw [upd_ne d1.symm]; exact hnl6
        have ts7 : TSame (upd H1 T (.tup [sE, y])) (upd (upd H1 T (.tup [sE, y])) rl (.lst ((pvs.drop (i - (ns.length + kvs.length))).eraseIdx 0))) := TSame.mut hrl6 trivial
        have s8 := Same.over (o := .lst ((pvs.drop (i - (ns.length + kvs.length))).eraseIdx 0)) s7 nrl
        have hat : (newNs w ns nvs ++ (kvs ++ pvs))[i]? = some pvs[i - (ns.length + kvs.length)] := by
          rw [List.getElem?_append_right (by omega), hout, List.getElem?_append_right (by omega), show i - ns.length - kvs.length = i - (ns.length + kvs.length) by omega]
          exact hz
        refine ⟨fl, _, _, rfl, rfl, hfl7, hlen, ?_⟩
        refine ⟨Same.over s8 nfl, (TSame.mut hfl7 trivial).seqT (ts7.seqT (Same.seqT s6 hq5)), ⟨_, _, rfl⟩, ⟨ln', by rw [upd_ne d3.symm]; exact hnl7, fun hb => ?_⟩, ?_, by rw [upd_same, step _ hat]⟩
        · rw [hln hb, List.drop_of_length_le (by rw [ln hb]; omega), List.drop_of_length_le (by rw [ln hb]; omega)]
        · rw [upd_ne d2.symm, upd_same, erase0, show i + 1 - (ns.length + kvs.length) = i - (ns.length + kvs.length) + 1 by omega]
    · rintro σ H1 ⟨s5, hq5, ⟨z5, z6, rfl⟩, _, _, hfl5⟩
      have e1 : (newNs w ns nvs ++ (kvs ++ pvs)).take (ns ++ (kvs ++ evs)).length = newNs w ns nvs ++ (kvs ++ pvs) := List.take_of_length_le (by rw [lL]; simp only [List.length_append]; omega)
      rw [e1] at hfl5
      refine ⟨_, rfl, fl, _, rfl, .inl ⟨SqL.of hfl5, fun t ht => ?_⟩⟩
      exact k _ t (Same.over s5 (s5.free ht)) (s5.free ht) upd_same
end
end Lw
set_option Elab.async false
set_option linter.all false
set_option maxRecDepth 100000
set_option maxHeartbeats 4000000
/-! a nested def that has cells of its own besides the captured ones -/
namespace Lw
open PySem PySem.Spec PyProof.Rows L2 RZ NdefX LamX
structure NCScope (N ps fr : List Str) (sc : Scope) : Prop where
  kind : sc.kind = .function
  co : sc.isCoroutine = false
  gen : sc.isGenerator = false
  nd : N.Nodup
  pre : N.take (ps.length + fr.length) = ps ++ fr
  par : ∀ x ∈ ps, sc.names.lookup x = some .local
  uniq : ∀ y ∈ sc.names, sc.names.lookup y.1 = some y.2
  frk : ∀ x ∈ fr, sc.names.lookup x = some .free
  free : ∀ y ∈ sc.names, y.2 = .free → y.1 ∈ fr
section
variable {M : Model} {A : Around} {E : Value → Shared → Prop}
theorem bindLocals (env : Env) (f : Str × Value → PUnit → Sem (ForInStep PUnit)) (hf : ∀ n v u, f (n, v) u = (do storeName env n v; pure (.yield ⟨⟩))) (hk : env.scope.kind = .function) :
    ∀ (binds : List (Str × Value)) (m : Str → Option Value) (s : Shared) (Q : PUnit → Shared → Prop), s.heap.Ns env.locals m → (∀ x ∈ binds, env.kindOf x.1 = some .local) →
      (∀ h' tk, h'.Ns env.locals (bindL env.kindOf binds m) → Heap.SameBut env.locals s.heap h' → Q ⟨⟩ { s with heap := h', toks := tk }) → wpAny M A (forIn binds ⟨⟩ f) Q E s
  | [], m, s, Q, hn, _, h => by
    rw [List.forIn_nil]
    exact wpAny_pure (h s.heap s.toks hn (Heap.SameBut.refl ..))
  | (n, v) :: r, m, s, Q, hn, hl, h => by
    rw [List.forIn_cons, hf]
    have h1 : env.kindOf n = some .local := hl (n, v) List.mem_cons_self
    refine wpAny_bind (wpAny_bind (wpAny_storeName_local h1 hn (fun h' hn' hs' => ?_) (by rw [hk]; rfl)))
    refine wpAny_pure (bindLocals env f hf hk r _ _ Q hn' (fun y hy => hl y (List.mem_cons_of_mem _ hy)) fun h'' tk hn'' hs'' => h h'' tk ?_ (hs'.trans hs''))
    unfold bindL
    rw [if_pos h1]
    exact hn''
theorem newEnvNC {s : Shared} {scope : Scope} {globals : Addr} {closure : List (Str × Addr)} {binds : List (Str × Value)} {qual : Str} {func : Option Addr} {code : Value} {builtins : Addr} {Q : Env → Shared → Prop} (hk : scope.kind = .function)
    (hl : ∀ x ∈ binds, scope.names.lookup x.1 = some .local)
    (hQ : ∀ h' tk, h'.Ns s.heap.objs.size (bindL (fun x => scope.names.lookup x) binds fun _ => none) → Heap.SameBut s.heap.objs.size (pushCells (s.heap.push { cls := .type "frame", data := .dict #[] }) scope.names) h' →
      Q (newEnv scope s.heap.objs.size globals (cellsFrom (s.heap.push { cls := .type "frame", data := .dict #[] }).objs.size scope.names closure) qual func code none builtins) { s with heap := h', toks := tk }) :
    wpAny M A (newFunctionEnv scope globals closure binds qual func code none builtins) Q E s := by
  simp only [newFunctionEnv, Option.isSome_none, Bool.false_eq_true, if_false]
  refine wpAny_bind (wpAny_alloc ?_)
  refine wpAny_bind (wpAny_layCells _ (fun name kind cells => by cases hkc : kind == NameKind.cell <;> simp [hkc]) _ _ _ _ ?_)
  refine wpAny_bind (bindLocals (newEnv scope s.heap.objs.size globals (cellsFrom (s.heap.push { cls := .type "frame", data := .dict #[] }).objs.size scope.names closure) qual func code none builtins) _ (fun _ _ _ => rfl) hk binds (fun _ => none) _ _
    ((Heap.Ns.new s.heap (.type "frame")).keeps (pushCells_keeps _ _)) hl fun h' tk hn hs => wpAny_pure (hQ h' tk hn hs))
end
abbrev envC (F : NF) (f : Addr) (h : Heap) : Env := PySem.W.envX F.qual F.scope h.objs.size f (.ref F.c) (cellsFrom (h.push { cls := .type "frame", data := .dict #[] }).objs.size F.scope.names F.cl)
def ncxC (CX : CXT) (P : Program) (w : World) (K : PySem.W.Frag) (mg : Str → Option Value) (base : Heap) (N : List Str) (F : NF) (f : Addr) (A : Around) (outer : List Env) (s : Shared) (H : Hp) (E : XK) : Cx where
  prog := P
  w := w
  K := K
  mg := mg
  base := base
  A := A.deeper (envC F f s.heap)
  N := N
  s_0 := s
  H_0 := H
  env := envC F f s.heap
  outer := outer
  stack := envC F f s.heap :: outer
  ex := []
  calm := true
  fn := fun x => F.scope.names.lookup x == some .cell
  pn := []
  xe := fun e s' => wpAny (model P w) (A.deeper (envC F f s.heap)) (leaving (envC F f s.heap) e) (fun _ s'' => CX outer H s E e s'') (fun e' s'' => CX outer H s E e' s'') s'
section
variable {CX : CXT} {P : Program} {w : World} {K : PySem.W.Frag} {mg : Str → Option Value} {base : Heap} {N ps fr : List Str} {F : NF} {f : Addr} {A : Around} {outer : List Env} {s : Shared} {H : Hp} {E : XK} {us : List Value} {vs : List V} {ws : List (Option V)}
theorem inv_startNC {h₁ : Heap} {tk : Nat} (S : NCScope N ps fr F.scope) (hcn : ∀ y c, F.cl.lookup y = some c → y ∈ fr) (hcl : ∀ y c, (y, c) ∈ F.cl → F.cl.lookup y = some c) (hd : A.handled = none) (e0 : Env0 P w K mg base A outer s H) (hl : vs.length = ps.length) (r : Vals vs us) (C : CellsAt F.cl fr ws s.heap H)
    (hns : h₁.Ns s.heap.objs.size (bindL (fun x => F.scope.names.lookup x) (ps.zip us) fun _ => none)) (hs : Heap.SameBut s.heap.objs.size (pushCells (s.heap.push { cls := .type "frame", data := .dict #[] }) F.scope.names) h₁) :
    Inv (ncxC CX P w K mg base N F f A outer s H E) [] (startF N vs ws) H { s with heap := h₁, toks := tk } := by
  have hpl : ps.length + fr.length ≤ N.length := by
    have q := congrArg List.length S.pre
    rw [List.length_take, List.length_append] at q
    omega
  have kp : ∀ b o, s.heap.get? b = some o → h₁.get? b = some o := fun b o e => hs.extBut b o (Nat.ne_of_lt (Heap.lt_size e)) (pushCells_keeps _ _ _ _ (Heap.get?_push_of_some _ e))
  have noA : ∀ b : Addr, b ∉ (ncxC CX P w K mg base N F f A outer s H E).ex := fun b z => absurd (show b ∈ ([] : List Addr) from z) (by simp)
  have cellK : ∀ {c : Addr} {v : Option Value}, s.heap.IsCell c v → h₁.IsCell c v := fun {c v} ⟨o, ho, hd⟩ => ⟨o, kp _ _ ho, hd⟩
  have sz : (s.heap.push { cls := .type "frame", data := .dict #[] }).objs.size = s.heap.objs.size + 1 := Heap.size_push ..
  have old : ∀ {y c}, (y, c) ∈ F.cl → c < s.heap.objs.size := fun {y c} hm => by
    obtain ⟨_, v, z⟩ := C.all y c (hcl y c hm)
    exact z.lt
  generalize hcs : cellsFrom (s.heap.push { cls := .type "frame", data := .dict #[] }).objs.size F.scope.names F.cl = cs
  have hcs' : (ncxC CX P w K mg base N F f A outer s H E).env.cells = cs := hcs
  have mem : ∀ {y c}, cs.lookup y = some c → F.cl.lookup y = some c ∨ ((y, NameKind.cell) ∈ F.scope.names ∧ s.heap.objs.size + 1 ≤ c ∧ h₁.IsCell c none) := fun {y c} e => by
    rw [← hcs] at e
    rcases cells_mem (PySem.mem_of_lookup e) with hm | ⟨h1, h2, h3⟩
    · exact .inl (hcl y c hm)
    · rw [sz] at h2
      obtain ⟨o, ho, hd⟩ := h3
      exact .inr ⟨h1, h2, o, hs.extBut c o (Nat.ne_of_gt h2) ho, hd⟩
  have frcs : ∀ {y c}, y ∈ fr → F.cl.lookup y = some c → cs.lookup y = some c := fun {y c} hy e => by
    have h1 : (y, c) ∈ cs := by rw [← hcs]; exact cells_acc (PySem.mem_of_lookup e)
    obtain ⟨c', h2⟩ := mem_lookup h1
    rcases mem h2 with z | ⟨z, _⟩
    · rw [e] at z; cases z; exact h2
    · have q := S.uniq _ z
      rw [S.frk y hy] at q
      cases q
  refine ⟨⟨e0.mod, S.kind, rfl, rfl, Nat.le_refl _, fun y z c h1 h2 => ?_, fun y hy => ?_, fun y c z h => ?_, fun _ => hd, Around.frames_deeper e0.frames, .inr ⟨rfl, rfl⟩, fun b z => absurd z (noA b), e0.bs, e0.bsz, fun b _ _ => noA b,
      fun b z => absurd z (noA b), e0.funs, e0.frf⟩,
    rfl, e0.bare, Un.kept kp, ⟨_, hns, fun i y v e1 e2 e3 => ?_⟩, fun y c e => ?_, e0.hok.fresh (Nat.le_refl _), fun y c e => ?_, fun q hq => absurd (show q ∈ ([] : List (Addr × Obj)) ++ [] from hq) (by simp), e0.hok.kept kp, ?_⟩
  · rw [hcs', ← hcs] at h1 h2
    exact cells_inj (fun p hp => by rw [sz]; exact Nat.lt_succ_of_lt (old (y := p.1) (c := p.2) hp)) (fun x y c a b => C.inj x y c (hcl _ _ a) (hcl _ _ b)) (PySem.mem_of_lookup h1) (PySem.mem_of_lookup h2)
  · have hy : F.scope.names.lookup y = some .cell ∨ F.scope.names.lookup y = some .free := hy
    rw [hcs']
    rcases hy with hy | hy
    · obtain ⟨c, hm⟩ := cells_has (n := (s.heap.push { cls := .type "frame", data := .dict #[] }).objs.size) (acc := F.cl) (PySem.mem_of_lookup hy)
      rw [hcs] at hm
      exact mem_lookup hm
    · have hf := S.free _ (PySem.mem_of_lookup hy) rfl
      obtain ⟨i, hi⟩ := List.mem_iff_getElem?.mp hf
      obtain ⟨c, hc, _⟩ := C.has i y hi
      exact ⟨c, frcs hf hc⟩
  · have z : (F.scope.names.lookup y == some NameKind.cell) = true := z
    have z : F.scope.names.lookup y = some .cell := by simpa using z
    rw [hcs'] at h
    show s.heap.objs.size ≤ c
    rcases mem h with q | ⟨_, q, _⟩
    · have := S.frk y (hcn _ _ q)
      rw [z] at this; cases this
    · omega
  · have e1 : N[i]? = some y := e1
    have clen := C.len
    unfold startF at e2
    by_cases h1 : i < ps.length
    · have hq : (ps ++ fr)[i]? = some y := by
        rw [← S.pre, List.getElem?_take_of_lt (by omega)]
        exact e1
      rw [List.getElem?_append_left h1] at hq
      rw [List.getElem?_append_left (by rw [List.length_map]; omega), List.getElem?_map] at e2
      have ha : vs[i]? = some v := by
        cases e : vs[i]? with
        | none => rw [e] at e2; cases e2
        | some a => rw [e] at e2; cases e2; rfl
      obtain ⟨u, hu, rv⟩ := r.get ha
      have ndP : ps.Nodup := by
        have q := S.nd.sublist (List.take_sublist (ps.length + fr.length) N)
        rw [S.pre] at q
        exact (List.nodup_append.mp q).1
      have kl := S.par y (List.mem_of_getElem? hq)
      exact ⟨u, rv, .inl ⟨kl, bindL_get ndP hq hu kl⟩⟩
    · rw [List.getElem?_append_right (by rw [List.length_map]; omega), List.length_map] at e2
      by_cases h2 : i < ps.length + fr.length
      · have hq : (ps ++ fr)[i]? = some y := by
          rw [← S.pre, List.getElem?_take_of_lt (by omega)]
          exact e1
        rw [List.getElem?_append_right (by omega)] at hq
        rw [List.getElem?_append_left (by omega), hl] at e2
        obtain ⟨c, hc, hv⟩ := C.has (i - ps.length) y hq
        obtain ⟨u, ru, hu⟩ := hv v e2
        have hf := List.mem_of_getElem? hq
        exact ⟨u, ru, .inr ⟨.inr (S.frk y hf), c, by rw [hcs']; exact frcs hf hc, cellK hu⟩⟩
      · rw [List.getElem?_append_right (by omega), List.getElem?_replicate] at e2
        split at e2 <;> cases e2
  · rw [hcs'] at e
    rcases mem e with q | ⟨_, _, q⟩
    · obtain ⟨v, z⟩ := (C.all y c q).2
      exact ⟨v, cellK z⟩
    · exact ⟨_, q⟩
  · rw [hcs'] at e
    rcases mem e with q | ⟨_, q, _⟩
    · exact (C.all y c q).1
    · exact e0.hok.fresh (by omega)
  · have clen := C.len
    unfold startF
    show _ = N.length
    rw [List.length_append, List.length_append, List.length_map, List.length_replicate]
    omega
/-- THE RULE: a nested def with cells of its own, by its body -/
theorem nokC_of {k : Nat} {sp : List (Option V) → Sp} (S : NCScope N ps fr F.scope) (hcn : ∀ y c, F.cl.lookup y = some c → y ∈ fr) (hcl : ∀ y c, (y, c) ∈ F.cl → F.cl.lookup y = some c) (hb : ∀ (doc pm ctv : Value) (us : List Value), us.length = ps.length → bindArgs (F.fd doc pm ctv) ⟨us, []⟩ = pure (ps.zip us))
    (len : ∀ ws vs H Q E, sp ws vs H Q E → vs.length = ps.length)
    (hbody : ∀ (A : Around) (outer : List Env) (s : Shared) (H : Hp) (vs : List V) (ws : List (Option V)) (Q : VK) (E : XK), Room k (A.deeper (envC F f s.heap)) → H f = some (FnO f F) → H F.c = some (CodeO F.c F.qual) → CellsAt F.cl fr ws s.heap H → sp ws vs H Q E →
      ∃ t, PSs (ncxC CX P w K mg base N F f A outer s H E) F.body t ∧ t { nx := fun _ H' => Q .non H', rt := Q } (startF N vs ws) H) :
    NOk P w K mg base CX (k + 1) f F ps fr sp := by
  refine ⟨len, fun A outer s H us vs ws Q E hr e0 hf hc C r hsp => ?_⟩
  have hl := len _ _ _ _ _ hsp
  have lim : s.heap.NoLimit := e0.mod.nolimit.keeps fun b o e => (e0.bs b o e).1
  obtain ⟨od, sl, doc, pm, ctv, ho⟩ := fnO_at e0.hok hf
  refine codeAny_call_function hr.depth ho rfl S.co S.gen rfl (codeO_at e0.hok hc) ?_
  rw [hb doc pm ctv us (by rw [← r.length]; exact hl)]
  refine wpAny_pure (newEnvNC S.kind (fun ⟨n, _⟩ hy => S.par n (List.of_mem_zip hy).1) fun h₁ tk hns hsb => ⟨?_, ?_⟩)
  · exact lim.keeps fun b o e => hsb.extBut b o (Nat.ne_of_lt (Heap.lt_size e)) (pushCells_keeps _ _ _ _ (Heap.get?_push_of_some _ e))
  show codeAny _ _ (.func F.body (envC F f s.heap)) _ _
  refine codeAny_func ?_
  obtain ⟨t, ht, hq⟩ := hbody A outer s H vs ws Q E (hr.deeper _) hf hc C hsp
  have I : Inv (ncxC CX P w K mg base N F f A outer s H E) [] (startF N vs ws) H { s with heap := h₁, toks := tk } := inv_startNC S hcn hcl hr.hd e0 hl r C hns hsb
  refine wpAny_mono (ht.run [] _ (startF N vs ws) H _ I hq) (fun fl s' hs => ?_) fun e s' hs => hs
  have fin : ∀ {σ' : L2.St} {H' : Hp} {v : V} {u : Value}, Inv (ncxC CX P w K mg base N F f A outer s H E) [] σ' H' s' → L2.RelV v u → Q v H' → CE outer P w H s Q u s' :=
    fun {σ' H' v u} J rv q => ⟨v, H', J.os, J.bare, J.base, J.hok, rv, q⟩
  cases fl with
  | ret u =>
    obtain ⟨v, σ', H', J, rv, q⟩ := hs
    exact fin J rv q
  | next =>
    obtain ⟨σ', H', J, q⟩ := hs
    exact fin (v := V.non) (u := Value.none) J rfl q
  | brk =>
    obtain ⟨_, _, _, q⟩ := hs
    exact False.elim q
  | cont =>
    obtain ⟨_, _, _, q⟩ := hs
    exact False.elim q
end
/-! ### cells that stand in the base -/
structure CapB (base : Heap) (cl : List (Str × Addr)) (fr : List Str) (ws : List (Option V)) : Prop where
  len : ws.length = fr.length
  all : ∀ y c, cl.lookup y = some c → ∃ v, base.IsCell c v
  inj : ∀ x y c, cl.lookup x = some c → cl.lookup y = some c → x = y
  has : ∀ (i : Nat) (y : Str), fr[i]? = some y → ∃ c, cl.lookup y = some c ∧ ∀ v, ws[i]? = some (some v) → ∃ u, L2.RelV v u ∧ base.IsCell c (some u)
theorem CapB.at {base h : Heap} {H : Hp} {cl : List (Str × Addr)} {fr : List Str} {ws : List (Option V)} (C : CapB base cl fr ws) (bs : ∀ b o, base.get? b = some o → h.get? b = some o ∧ H b = none) : CellsAt cl fr ws h H := by
  refine ⟨C.len, fun y c e => ?_, C.inj, fun i y e => ?_⟩
  · obtain ⟨v, o, ho, hd⟩ := C.all y c e
    exact ⟨(bs _ _ ho).2, v, o, (bs _ _ ho).1, hd⟩
  · obtain ⟨c, hc, hv⟩ := C.has i y e
    refine ⟨c, hc, fun v ev => ?_⟩
    obtain ⟨u, ru, o, ho, hd⟩ := hv v ev
    exact ⟨u, ru, o, (bs _ _ ho).1, hd⟩
/-- the heap without what is tracked and without the frames -/
def hidF (h : Heap) (H : Hp) (l : List Env) : Heap := PySem.W.hideAll h (trk h H ++ frs l)
theorem hidF_get {h : Heap} {H : Hp} {l : List Env} {b : Addr} {o : Obj} (e : h.get? b = some o) (n : H b = none) (f : b ∉ frs l) : (hidF h H l).get? b = some o :=
  PySem.W.hideAll_get _ e fun hm => by
    rcases List.mem_append.mp hm with hm | hm
    · have q : (H b).isSome = true := (List.mem_filter.mp hm).2
      rw [n] at q; simp at q
    · exact f hm
theorem of_hidF {h : Heap} {H : Hp} {l : List Env} {b : Addr} {o : Obj} (e : (hidF h H l).get? b = some o) : h.get? b = some o ∧ H b = none ∧ b ∉ frs l := by
  have e' : h.get? b = some o := PySem.W.of_hideAll _ e
  refine ⟨e', ?_, fun hm => ?_⟩
  · cases q : H b with
    | none => rfl
    | some x =>
      have hm : b ∈ trk h H := List.mem_filter.mpr ⟨List.mem_range.mpr (Heap.lt_size e'), by simp [q]⟩
      have := PySem.W.hideAll_none (trk h H ++ frs l) (h := h) (b := b) (List.mem_append.mpr (.inl hm))
      rw [show (PySem.W.hideAll h (trk h H ++ frs l)).get? b = some o from e] at this
      cases this
  · have := PySem.W.hideAll_none (trk h H ++ frs l) (h := h) (b := b) (List.mem_append.mpr (.inr hm))
    rw [show (PySem.W.hideAll h (trk h H ++ frs l)).get? b = some o from e] at this
    cases this
theorem funFrames_hidF {base h : Heap} {H : Hp} {l0 : List Env} : ∀ {l : List Env}, (∀ b ∈ frs l, b ∈ frs l0) → h.FunFrames base l → h.FunFrames (hidF h H l0) l
  | [], _, _ => trivial
  | e :: r, hs, ⟨h1, ⟨L, o, h2, h3, h4, h5⟩, h6⟩ => by
    have hL : L ∈ frs l0 := hs L (by unfold frs; rw [List.filterMap_cons, h2]; exact List.mem_cons_self)
    refine ⟨h1, ⟨L, o, h2, PySem.W.hideAll_none _ (List.mem_append.mpr (.inr hL)), h4, h5⟩, funFrames_hidF (fun b hb => hs b ?_) h6⟩
    unfold frs at hb ⊢
    rw [List.filterMap_cons]
    cases e.frame with
    | none => exact hb
    | some a => exact List.mem_cons_of_mem _ hb
theorem Env0.wide {P : Program} {w : World} {K : PySem.W.Frag} {mg : Str → Option Value} {base : Heap} {A : Around} {outer : List Env} {s : Shared} {H : Hp} (e0 : Env0 P w K mg base A outer s H) :
    Env0 P w K mg (hidF s.heap H outer) A outer s H := by
  have nf : ∀ b o, base.get? b = some o → b ∉ frs outer := fun b o e hb => by
    have := (e0.funs.mem hb).1
    rw [e] at this; cases this
  have kp : ∀ b o, base.get? b = some o → (hidF s.heap H outer).get? b = some o := fun b o e => hidF_get (e0.bs b o e).1 (e0.bs b o e).2 (nf b o e)
  obtain ⟨mb, h1, h2⟩ := e0.mod.blt
  refine ⟨e0.frames, ⟨e0.mod.kin.keeps kp, e0.mod.glob.keeps kp, ⟨mb, h1.keeps kp, h2⟩, e0.mod.nolimit.keeps kp⟩, fun b o e => ⟨(of_hidF e).1, (of_hidF e).2.1⟩, Nat.le_of_eq (PySem.W.hideAll_size _ _), funFrames_hidF (fun b hb => hb) e0.funs, e0.frf, e0.hok, e0.bare⟩
/-- f(..), f a name that holds the function F; its captured cells stand in the base -/
def tCallB (f : Addr) (F : NF) (i : Nat) (ws : List (Option V)) (sp : List (Option V) → Sp) (E : XK) (t : TA) : TE := fun σ H Q => σ[i]? = some (some (.ref f)) ∧ H f = some (FnO f F) ∧
  t σ H fun vs H1 => H1 f = some (FnO f F) ∧ H1 F.c = some (CodeO F.c F.qual) ∧ sp ws vs H1 Q E
section
variable {X : Cx} {CX : CXT} {F : NF} {ps fr : List Str} {f : Addr} {i j k : Nat} {x : Str} {ws : List (Option V)} {sp : List (Option V) → Sp} {E : XK} {t : TA} {e : Expr} {es : List Expr} {p pos : Pos}
theorem pe_callnB (Fn : NOk X.prog X.w X.K X.mg X.base CX k f F ps fr sp) (C : CapB X.base F.cl fr ws) (hr : Room j X.A) (hk : k ≤ j) (hx : Passes CX X E) (hN : X.N[i]? = some x) (hv : Vis X.env.scope x) (ha : PA X (e :: es) t)
    (hd : (x == ("__debug__" : Str)) = false := by decide) (hcd : (x == ("__classdict__" : Str)) = false := by decide)
    (he : starEach (e :: es) X.env = (false, eval e X.env) :: starEach es X.env := by rfl) (hpl : (backTo pos (starEach es X.env)).any (·.1) = false := by rfl) :
    PE X (.Call (.Name x p) (e :: es) [] pos) (tCallB f F i ws sp E t) := by
  refine ⟨fun pins s σ H Q I h => ?_⟩
  obtain ⟨hs, hf, ht⟩ := h
  refine wpAny_Call_Name_kw (thn ((pe_var (pos := p) hN hv hd hcd).run pins s σ H (fun v H1 => v = .ref f ∧ H1 = H) I ⟨.ref f, hs, rfl, rfl⟩) fun u s1 ⟨v, H1, I1, r1, q1⟩ => ?_)
  obtain ⟨ev, eH⟩ := q1
  subst ev
  rw [eH] at I1
  obtain rfl : u = Value.ref f := r1
  refine PySem.W.callWith_F (first := []) (fnAt_of I1 hf) (thn (ha.run pos pins s1 σ H _ I1 ht) fun us s2 ⟨vs, H2, I2, r, h1, h2, q⟩ => ⟨fnAt_of I2 h1, ?_⟩) he hpl
  show wpAny _ _ (call (.ref f) us) _ _ _
  refine wpAny_call (codeAny_mono (Fn.run X.A X.stack s2 H2 us vs ws Q E (hr.mono hk) I2.env0 h1 h2 (C.at I2.bs) r q) fun r s' hq => ?_)
  cases r with
  | error e => exact hx pins σ H2 s2 e s' I2 hq
  | ok fl =>
    cases fl with
    | ret u => exact I2.after hq
    | next => exact False.elim hq
    | brk => exact False.elim hq
    | cont => exact False.elim hq
/-- f(..), f made in the running def: the promise is asked for a wider base, in which f's captured cells stand -/
theorem pe_callnW {mk : Addr → NF} {cl : List (Str × Addr)} {js : List Nat} {spm : Addr → Addr → List (Option V) → Sp} (Fn : ∀ f c' (base' : Heap) (ws : List (Option V)), X.K.In base' → base'.Ns mainGlobals X.mg → CapB base' cl fr ws → NOk X.prog X.w X.K X.mg base' CX k f (mk c') ps fr (fun ws' vs H Q E => ws' = ws ∧ spm f c' ws' vs H Q E)) (hcl : ∀ c', (mk c').cl = cl) (cp : X.Ok → Caps X cl fr js)
    (hfn : ∀ y c, cl.lookup y = some c → X.fn y = true) (hr : Room j X.A) (hk : k ≤ j) (hx : Passes CX X E) (hN : X.N[i]? = some x) (hv : Vis X.env.scope x) (ha : PA X (e :: es) t)
    (hd : (x == ("__debug__" : Str)) = false := by decide) (hcd : (x == ("__classdict__" : Str)) = false := by decide)
    (he : starEach (e :: es) X.env = (false, eval e X.env) :: starEach es X.env := by rfl) (hpl : (backTo pos (starEach es X.env)).any (·.1) = false := by rfl) :
    PE X (.Call (.Name x p) (e :: es) [] pos) (tCallN mk i js spm E t) := by
  refine ⟨fun pins s σ H Q I h => ?_⟩
  obtain ⟨f, c', hs, hf, ht⟩ := h
  refine wpAny_Call_Name_kw (thn ((pe_var (pos := p) hN hv hd hcd).run pins s σ H (fun v H1 => v = .ref f ∧ H1 = H) I ⟨.ref f, hs, rfl, rfl⟩) fun u s1 ⟨v, H1, I1, r1, q1⟩ => ?_)
  obtain ⟨ev, eH⟩ := q1
  subst ev
  rw [eH] at I1
  obtain rfl : u = Value.ref f := r1
  refine PySem.W.callWith_F (first := []) (fnAt_of I1 hf) (thn (ha.run pos pins s1 σ H _ I1 ht) fun us s2 ⟨vs, H2, I2, r, h1, h2, q⟩ => ⟨fnAt_of I2 h1, ?_⟩) he hpl
  show wpAny _ _ (call (.ref f) us) _ _ _
  have C := cells_of I2 (cp I2.ok)
  have e0 := I2.env0
  have e1 := Env0.wide e0
  have notF : ∀ y c, cl.lookup y = some c → c ∉ frs X.stack := fun y c e hb => by
    have hc := (cp I2.ok).sub y c e
    have h1 := I2.ok.cab y c (hfn y c e) hc
    have h2 : c ∉ X.fs := fun hb => by
      obtain ⟨_, o, ho, _⟩ := I2.ok.funs.mem hb
      exact absurd (Nat.lt_of_lt_of_le (Heap.lt_size ho) h1) (Nat.lt_irrefl _)
    rcases I2.ok.stk with z | ⟨z, z2⟩
    · rw [z] at hb; exact h2 hb
    · rw [z] at hb
      unfold frs at hb
      rw [List.filterMap_cons, z2] at hb
      rcases List.mem_cons.mp hb with q | q
      · exact I2.cne y c hc q
      · exact h2 q
  have cb : CapB (hidF s2.heap H2 X.stack) cl fr (js.map (slotAt σ)) := by
    refine ⟨C.len, fun y c e => ?_, C.inj, fun i y e => ?_⟩
    · obtain ⟨n, v, o, ho, hd⟩ := C.all y c e
      exact ⟨v, o, hidF_get ho n (notF y c e), hd⟩
    · obtain ⟨c, hc, hv⟩ := C.has i y e
      refine ⟨c, hc, fun v ev => ?_⟩
      obtain ⟨u, ru, o, ho, hd⟩ := hv v ev
      exact ⟨u, ru, o, hidF_get ho (C.all y c hc).1 (notF y c hc), hd⟩
  have Fn' := Fn f c' _ _ e1.mod.kin e1.mod.glob cb
  refine wpAny_call (codeAny_mono (Fn'.run X.A X.stack s2 H2 us vs (js.map (slotAt σ)) Q E (hr.mono hk) e1 h1 h2 (by rw [hcl c']; exact C) r ⟨rfl, q⟩) fun r s' hq => ?_)
  cases r with
  | error e => exact hx pins σ H2 s2 e s' I2 hq
  | ok fl =>
    cases fl with
    | ret u => exact I2.after hq
    | next => exact False.elim hq
    | brk => exact False.elim hq
    | cont => exact False.elim hq
end
end Lw
set_option Elab.async false
set_option linter.all false
set_option maxRecDepth 100000
set_option maxHeartbeats 4000000
namespace Lw
open PySem PySem.Spec PyProof.Rows L2 RZ NdefX LamX
/-! ### renumbered: the mirror -/
def nums (m n : Nat) : List Int := (List.range n).map fun k => ((m + k : Nat) : Int)
theorem nums_len (m n : Nat) : (nums m n).length = n := by simp [nums]
theorem nums_at {m n i : Nat} (h : i < n) : (nums m n)[i]? = some ((m + i : Nat) : Int) := by
  unfold nums
  rw [List.getElem?_map, List.getElem?_range h]
  rfl
def bindsI (w : Wd) (ns : List Int) : List Int := if w.binds then ns else []
theorem bindsI_v (w : Wd) (ns : List Int) : bindV w (ns.map V.int) = (bindsI w ns).map V.int := by
  unfold bindV bindsI
  cases w.binds <;> rfl
theorem bindsI_len {w : Wd} {ns : List Int} {a b : Nat} (h : (ns.length, a, b) = w.ar) : (bindsI w ns).length ≤ 2 := by
  unfold bindsI
  cases w <;> simp only [Wd.ar, Prod.mk.injEq, Wd.binds] at h ⊢ <;> simp <;> omega
def putAll {α : Type} : List (Int × α) → List Int → List α → List (Int × α)
  | l, x :: xs, y :: ys => putAll (put l x y) xs ys
  | l, _, _ => l
theorem putAll_len {α : Type} : ∀ (l : List (Int × α)) (xs : List Int) (ys : List α), (putAll l xs ys).length ≤ l.length + xs.length
  | l, [], _ => by simp [putAll]
  | l, x :: xs, [] => by simp [putAll]
  | l, x :: xs, y :: ys => by
    rw [putAll]
    have h1 := putAll_len (put l x y) xs ys
    have h2 := put_len l x y
    simp only [List.length_cons]
    omega
theorem putAll_nil {α : Type} (l : List (Int × α)) (ys : List α) : putAll l [] ys = l := by cases ys <;> rfl
abbrev Ren := Nat → List (Int × Int) → Ex → Option (Ex × Nat)
def renMap (f : Nat → Ex → Option (Ex × Nat)) : Nat → List Ex → Option (List Ex × Nat)
  | m, [] => some ([], m)
  | m, e :: r => match f m e with
    | none => none
    | some (e', m1) => match renMap f m1 r with
      | none => none
      | some (r', m2) => some (e' :: r', m2)
theorem renMap_step {f : Nat → Ex → Option (Ex × Nat)} {m m' : Nat} {e : Ex} {r es : List Ex} (h : renMap f m (e :: r) = some (es, m')) :
    ∃ e' m1 r', f m e = some (e', m1) ∧ renMap f m1 r = some (r', m') ∧ es = e' :: r' := by
  rw [renMap] at h
  cases h1 : f m e with
  | none => rw [h1] at h; cases h
  | some p =>
    obtain ⟨e', m1⟩ := p
    rw [h1] at h
    dsimp only at h
    cases h2 : renMap f m1 r with
    | none => rw [h2] at h; cases h
    | some p2 =>
      obtain ⟨r', m2⟩ := p2
      rw [h2] at h
      cases h
      exact ⟨e', m1, r', rfl, h2, rfl⟩
def renIn (rn : Ren) (w : Wd) (ns : List Int) (es : List Ex) (m : Nat) (l : List (Int × Int)) : Option (List Ex × Nat) :=
  let b := (bindsI w ns).length
  let l2 := putAll l (bindsI w ns) (nums m b)
  if w = .lt then
    match es with
    | [] => none
    | a :: r => match rn (m + b) l a with
      | none => none
      | some (a', m1) => match renMap (fun k e => rn k l2 e) m1 r with
        | none => none
        | some (r', m2) => some (a' :: r', m2)
  else renMap (fun k e => rn k l2 e) (m + b) es
def ren : Nat → Ren
  | 0 => fun _ _ _ => none
  | n + 1 => fun m l e =>
    if e.w = .name then match e.ns with | [x] => (look l x).map fun k => (.node .name [k] [] [], m) | _ => none
    else match renIn (ren n) e.w e.ns e.es m l with
      | none => none
      | some (es, m') => some (.node e.w (if e.w.binds then nums m (bindsI e.w e.ns).length else e.ns) e.ks es, m')
theorem ren_name {n m m' : Nat} {l : List (Int × Int)} {e e' : Ex} (hw : e.w = .name) (h : ren (n + 1) m l e = some (e', m')) : ∃ x k, e.ns = [x] ∧ look l x = some k ∧ e' = .node .name [k] [] [] ∧ m' = m := by
  rw [ren] at h
  dsimp only at h
  rw [if_pos hw] at h
  split at h
  · rename_i x hx
    cases hk : look l x with
    | none => rw [hk] at h; cases h
    | some k =>
      rw [hk] at h
      cases h
      exact ⟨x, k, hx, hk, rfl, rfl⟩
  · cases h
theorem ren_other {n m m' : Nat} {l : List (Int × Int)} {e e' : Ex} (hw : ¬ e.w = .name) (h : ren (n + 1) m l e = some (e', m')) :
    ∃ es, renIn (ren n) e.w e.ns e.es m l = some (es, m') ∧ e' = .node e.w (if e.w.binds then nums m (bindsI e.w e.ns).length else e.ns) e.ks es := by
  rw [ren] at h
  dsimp only at h
  rw [if_neg hw] at h
  split at h
  · cases h
  · rename_i h1
    cases h
    exact ⟨_, h1, rfl⟩
theorem renIn_lt {rn : Ren} {w : Wd} {ns : List Int} {es es' : List Ex} {m m' : Nat} {l : List (Int × Int)} (hw : w = .lt) (h : renIn rn w ns es m l = some (es', m')) :
    ∃ a r a' m1 r', es = a :: r ∧ rn (m + (bindsI w ns).length) l a = some (a', m1) ∧ renMap (fun k e => rn k (putAll l (bindsI w ns) (nums m (bindsI w ns).length)) e) m1 r = some (r', m') ∧ es' = a' :: r' := by
  unfold renIn at h
  dsimp only at h
  rw [if_pos hw] at h
  split at h
  · cases h
  · rename_i a r
    split at h
    · cases h
    · rename_i a' m1 h1
      split at h
      · cases h
      · rename_i r' m2 h2
        cases h
        exact ⟨a, r, a', m1, r', rfl, h1, h2, rfl⟩
theorem renIn_no {rn : Ren} {w : Wd} {ns : List Int} {es es' : List Ex} {m m' : Nat} {l : List (Int × Int)} (hw : ¬ w = .lt) (h : renIn rn w ns es m l = some (es', m')) :
    renMap (fun k e => rn k (putAll l (bindsI w ns) (nums m (bindsI w ns).length)) e) (m + (bindsI w ns).length) es = some (es', m') := by
  unfold renIn at h
  dsimp only at h
  rw [if_neg hw] at h
  exact h
/-! ### rules -/
theorem cut_nat (xs : List V) (t : Nat) : cutV xs (some ((t : Nat) : Int)) none = xs.drop t := by
  unfold cutV
  rw [HT.sIx_nat, HT.sIx_none]
  by_cases h : t ≤ xs.length
  · rw [Nat.min_eq_left h, List.take_of_length_le (by simp)]
  · rw [Nat.min_eq_right (by omega), List.drop_of_length_le (by simp), List.drop_of_length_le (by omega)]
    simp
def rGetL : V → V → Hp → VK → Prop := fun o i H Q => ∃ (p : Addr) (xs : List V) (j : Nat) (v : V), o = .ref p ∧ i = .int (j : Nat) ∧ H p = some (.lst xs) ∧ j < 1000 ∧ xs[j]? = some v ∧ Q v H
theorem pget_list {X : Cx} : PGet X rGetL := by
  intro pins s σ H o i ov iv Q I ro ri h
  obtain ⟨p, xs, j, v, rfl, rfl, hp, hj, hx, q⟩ := h
  cases ro
  obtain ⟨t, rfl⟩ := ri
  obtain ⟨its, r, pl, hz⟩ := I.list (SqL.of hp)
  obtain ⟨w, ew, rw'⟩ := r.get hx
  exact wpAny_getItem_list pl.isList (by omega) (by omega) (by simpa using ew) ⟨v, H, I, rw', q⟩
theorem clo_fun {cells : List (Str × Addr)} {names : List (Str × NameKind)} {y : Str} {c : Addr} (h : (y, c) ∈ cloFrom cells names []) : (cloFrom cells names []).lookup y = some c := by
  obtain ⟨c', h1⟩ := mem_lookup h
  rcases cloFrom_mem h with z | ⟨_, e⟩
  · cases z
  rcases cloFrom_mem (PySem.mem_of_lookup h1) with z | ⟨_, e'⟩
  · cases z
  rw [h1, e, e']
theorem clo_free {cells : List (Str × Addr)} {names : List (Str × NameKind)} {y : Str} {c : Addr} (h : (cloFrom cells names []).lookup y = some c) : (y, NameKind.free) ∈ names := by
  rcases cloFrom_mem (PySem.mem_of_lookup h) with z | ⟨z, _⟩
  · cases z
  · exact z
theorem Chg.tsameD {L : Addr} {H H' : Hp} {l : List (Key × V)} (s : Chg L H H') (h : H L = some (.dK l)) : TSame H H' :=
  ⟨fun b xs e => s _ _ e (fun z => by rw [z, h] at e; cases e), fun b o u e => s _ _ e (fun z => by rw [z, h] at e; cases e)⟩
/-! ### again -/
def s_again : Stmt := (C8.fnBody s_renumbered).getD 1 (.Pass ⟨0, 0, 0, 0⟩)
abbrev nsAg : List Str := ["here", "names", "again", "met", "some", "k", "numbers", "inner", "name", "number", "parts", "first", "part"]
abbrev psAg : List Str := ["here", "names"]
abbrev frAg : List Str := ["again", "met"]
theorem sc_again : NCScope nsAg psAg frAg (C8.fnScope s_again) := ⟨rfl, rfl, rfl, by decide +kernel, rfl, by decide +kernel, by decide +kernel, by decide +kernel, by decide +kernel⟩
abbrev IntR : V → Int → Prop := fun v k => v = V.int k
def spAgain (K : PySem.W.Frag) (n : Nat) (L : Addr) : Sp := fun vs H Q _ => ∃ (v : V) (nd : Addr) (e : Ex) (l : List (Int × Int)) (kvs : List (Key × V)) (m : Nat) (e' : Ex) (m' : Nat), vs = [v, .ref nd] ∧ Dp K H v e.d ∧ e.ok = true ∧ H nd = some (.dK kvs) ∧ DictAt IntR kvs l ∧ l.length + 2 * n ≤ 1000 ∧
  H L = some (.lst [.int (m : Nat)]) ∧ ren n m l e = some (e', m') ∧ ∀ H' v', Chg L H H' → H' L = some (.lst [.int (m' : Nat)]) → Dp K H' v' e'.d → Q v' H'
section
variable {P : Program} {w : World} {K : PySem.W.Frag} {mg : Str → Option Value} {base : Heap} {dF dK dL dB : Addr}
theorem nok_again (C : Cst K w mg dF dK dL dB) (GP : Dfn P w K mg base "parts_of" 1 ["e"] (spParts K)) (GB : Dfn P w K mg base "binders_of" 1 ["e"] (spBinders K)) (GR : Dfn P w K mg base "rebuilt" 1 ["e", "numbers", "parts"] (spRebuilt K))
    {f L c : Addr} {q : Str} {cl : List (Str × Addr)} (hcn : ∀ y c, cl.lookup y = some c → y ∈ frAg) (hcl : ∀ y c, (y, c) ∈ cl → cl.lookup y = some c) (cap : CapB base cl frAg [some (.ref f), some (.ref L)]) :
    ∀ n, NOk P w K mg base CX0 (n + 1) f (NF.of s_again "again" q cl c) psAg frAg (fun ws vs H Q E => ws = [some (.ref f), some (.ref L)] ∧ spAgain K n L vs H Q E)
  | 0 => ⟨fun ws vs H Q E h => by
      obtain ⟨_, v, nd, e, l, kvs, m, e', m', rfl, _⟩ := h
      rfl, fun A outer s H us vs ws Q E hr e0 hf hc cc r h => by
      obtain ⟨_, v, nd, e, l, kvs, m, e', m', _, _, _, _, _, _, _, h, _⟩ := h
      cases h⟩
  | n + 1 => by
    have IH := nok_again (c := c) (q := q) C GP GB GR hcn hcl cap n
    refine nokC_of sc_again hcn hcl (fun doc pm ctv us hl => match us, hl with | [_, _], _ => rfl) (fun ws vs H Q E h => ?_) (fun A outer s H vs ws Q E hr hf hc CA h => ?_)
    · obtain ⟨_, v, nd, e, l, kvs, m, e', m', rfl, _⟩ := h
      rfl
    · obtain ⟨rfl, v, nd, e, l, kvs, m, e', m', rfl, hd, hok, hnd, hda, hb, hL, hren, k⟩ := h
      have hr1 : Room 1 _ := hr.mono (show 1 ≤ n + 1 by omega)
      refine ⟨_, PSs.nox (pss_cons (ps_if (pt_cmpR op_eq (pe_ix ix_tup (pv 0) pe_int (fun _ _ => rfl)) pe_str (nomark _)) (pss_one (ps_ret (pe_tup (pa_cons (pe_str) (pa_cons (pe_dget (hu_of hr) (pv 1) (pe_ix ix_tup (pv 0) pe_int (fun _ _ => rfl)) (fun _ _ => rfl)) (pa_nil)))))) pss_nil) (pss_cons (ps_set (i := 4) sc_again.nd rfl (Or.inl rfl) (pe_callD GB hr1 (by rfl) (pa_cons (pv 0) (pa_nil)))) (pss_cons (ps_setLc (i := 6) (own := [("k", 5)]) (g := gName 5) (tt := tYes) (te := tOp (rI0 fun i j => .int (i + j)) (tOp (rIxL K) (tVar 3) (tC (.int 0))) (tVar 5)) (by rfl) sc_again.nd rfl rfl (sw_true rfl rfl rfl (by decide +kernel)) (pi_range1 (by rfl) C.range (pa_cons (pe_callB call_len_seq (by rfl) C.len boot_len (pa_cons (pv 4) (pa_nil))) (pa_nil)))
          (blkOk_by (N := nsAg) (sc := C8.fnScope s_again) (by decide +kernel)) (fun _ _ _ _ _ => pg_name (i := 5) sc_again.nd rfl (Or.inl rfl)) (fun _ _ _ _ _ => pts_nil) (fun _ _ _ _ _ => pe_op op_add (pe_ix ix_list (pv 3) pe_int (fun _ _ => rfl)) (pv 5))) (pss_cons (ps_augS (pv 3) pe_int pget_list (pe_callB call_len_seq (by rfl) C.len boot_len (pa_cons (pv 4) (pa_nil))) ip_add set_list) (pss_cons (ps_set (i := 7) sc_again.nd rfl (Or.inr rfl) (pe_callTy call_dictD (by rfl) C.dict boot_dict (pa_cons (pv 1) (pa_nil)))) (pss_cons (ps_for PassesOwn.never rfl (pi_zipG (by rfl) C.zip (pa_cons (pv 4) (pa_cons (pv 6) (pa_nil)))) (pg_tup rfl (pgs_cons (pg_name (i := 8) sc_again.nd rfl (Or.inl rfl)) (pgs_cons (pg_name (i := 9) sc_again.nd rfl (Or.inl rfl)) pgs_nil)))
          (pss_one (ps_dput (hu_of hr) (pv 7) (pv 8) (pv 9) rfl))) (pss_cons (ps_set (i := 10) sc_again.nd rfl (Or.inl rfl) (pe_callD GP hr1 (by rfl) (pa_cons (pv 0) (pa_nil)))) (pss_cons (ps_set (i := 11) sc_again.nd rfl (Or.inl rfl) (pe_ifExp (pt_cmpR op_eq (pe_ix ix_tup (pv 0) pe_int (fun _ _ => rfl)) pe_str (nomark _)) (pe_lst (pa_cons (pe_callnB (i := 2) IH cap hr (Nat.le_refl _) pass0 rfl (Or.inr (Or.inr rfl)) (pa_cons (pe_ix ix_list (pv 10) pe_int (fun _ _ => rfl)) (pa_cons (pv 1) (pa_nil)))) (pa_nil))) (pe_lst (pa_nil)))) (pss_one (ps_ret (pe_callD GR hr1 (by rfl) (pa_cons (pv 0) (pa_cons (pv 6) (pa_cons (pe_op op_cat (pv 11) (pe_lc (own := [("part", 12)]) (g := gName 12) (tt := tYes)
          (te := tCallB f (NF.of s_again "again" q cl c) 2 [some (.ref f), some (.ref L)] (fun ws vs H Q E => ws = [some (.ref f), some (.ref L)] ∧ spAgain K n L vs H Q E) E0 (tCons (tVar 12) (tCons (tVar 7) tNil))) (by rfl) sc_again.nd
          (pi_list (pe_slice sl_list (pv 10) (po_some (pe_callB call_len_seq (by rfl) C.len boot_len (pa_cons (pv 11) (pa_nil)))) po_none)) (blkOk_by (N := nsAg) (sc := C8.fnScope s_again) (by decide +kernel))
          (fun _ _ _ _ _ => pg_name (i := 12) sc_again.nd rfl (Or.inl rfl)) (fun _ _ _ _ _ => pts_nil) (fun _ _ _ _ _ => pe_callnB (i := 2) IH cap hr (Nat.le_refl _) pass0 rfl (Or.inr (Or.inr rfl)) (pa_cons (pv 12) (pa_cons (pv 7) (pa_nil)))))) (pa_nil))))))))))))))), ?_⟩
      obtain ⟨a, kvs0, evs, rfl, hn⟩ := node_of hd
      have hv := hn.v hok
      have hsq := hv.sq
      have hfL : f ≠ L := fun z => by
        have h2 := hf
        rw [z, hL] at h2
        cases h2
      have hcL : c ≠ L := fun z => by
        have h2 : H c = some (CodeO c q) := hc
        rw [z, hL] at h2
        cases h2
      have hndL : nd ≠ L := fun z => by
        have h2 := hnd
        rw [z, hL] at h2
        cases h2
      refine ⟨_, rfl, _, _, _, _, rfl, rfl, hsq, at_of (j := 0) rfl rfl, rfl, _, rfl, ite2 (fun hc' => ?_) (fun hc' => ?_)⟩
      · obtain ⟨x, k0, hx, hlk, rfl, rfl⟩ := ren_name (tst (b := .name) hc') hren
        rw [hx] at hsq
        obtain ⟨u, hu, rfl⟩ := hda.look hlk
        have hD := DGet.k (k := Sum.inl x) hnd
        rw [hu] at hD
        refine ⟨_, rfl, _, rfl, _, _, _, _, rfl, rfl, hsq, at_of (j := 1) rfl rfl, nd, _, rfl, hD, by show 2 ≤ sizeLine; decide, fun p hp => ?_⟩
        have s1 := Same.new (o := .tup [.str ("name" : Str), .int k0]) hp
        refine k _ _ (Chg.of s1) (s1 _ _ hL) ?_
        exact .tup (SqT.of upd_same) (.cons (.str _) (.cons (.int _) .nil))
      · obtain ⟨es', hin, rfl⟩ := ren_other (tstN (b := .name) hc') hren
        have hwn : e.w ≠ .name := tstN (b := .name) hc'
        have harI : (e.ns.length, kvs0.length, evs.length) = e.w.ar := by
          have := hv.ar
          rw [List.length_map] at this
          exact this
        have hbl := bindsI_len harI
        generalize hbs : bindsI e.w e.ns = bs at hin hbl
        generalize hnm : nums m bs.length = nm at hin
        have lnm : nm.length = bs.length := by rw [← hnm, nums_len]
        generalize hl2 : putAll l bs nm = l2 at hin
        refine ⟨_, rfl, e.w, a, _, kvs0, evs, rfl, hv, fun H1 p1 s1 np1 hp1 => ?_⟩
        rw [bindsI_v, hbs] at hp1
        have hL1 := s1 _ _ hL
        -- numbers
        refine ⟨_, rfl, p1, _, rfl, .inr (SqT.of hp1), _, rfl, by simp only [List.length_map]; omega, by simp only [List.length_map]; omega, fun D hD => ?_⟩
        have lbs : (bs.map V.int).length = bs.length := List.length_map ..
        refine lc_gen (walk_range (lo := 0) (n := (bs.map V.int).length)) (nm.map V.int) (by rw [List.length_map, List.length_map, lnm]) (Nat.lt_of_le_of_lt (show (nm.map V.int).length ≤ 1000 by rw [List.length_map]; omega) (by decide)) (fun _ H' => Same H1 H') (Same.new hD) (fun _ _ _ => trivial) (fun i H' l r => Same.over r hD) ?_ ?_ gName_mono
        · rintro i x y H' H0 Q2 hi hy s2 hDl ⟨rfl, rfl⟩ k2
          have hi' : i < bs.length := by omega
          rw [← hnm, List.getElem?_map, nums_at hi'] at hy
          cases hy
          refine ⟨rfl, _, rfl, L, _, _, _, rfl, rfl, SqL.of (s2 _ _ hL1), at_of (j := 0) rfl rfl, _, rfl, _, _, rfl, rfl, ?_⟩
          show Q2 (.int (((m : Nat) : Int) + (0 + (i : Int)))) _
          rw [show ((m : Nat) : Int) + (0 + (i : Int)) = ((m + i : Nat) : Int) by omega]
          exact k2 _ s2 hDl
        intro H2 s2 hD2
        have nD : H D = none := s1.free hD
        have hDL : D ≠ L := fun z => by rw [z, hL] at nD; cases nD
        have hp1L : p1 ≠ L := fun z => by rw [z, hL] at np1; cases np1
        have s12 := s1.trans s2
        have hL2 := s12 _ _ hL
        have hT2 := SqT.of (K := K) (s2 _ _ hp1)
        -- met
        refine ⟨_, rfl, L, _, 0, _, rfl, rfl, hL2, by decide, rfl, _, rfl, p1, _, rfl, .inr hT2, _, _, rfl, rfl, L, _, _, 0, rfl, rfl, hL2, rfl, ?_⟩
        generalize hH3 : upd H2 L (.lst ([V.int (m : Nat)].set 0 (.int (((m : Nat) : Int) + ((bs.map V.int).length : Nat))))) = H3
        have ts3 : TSame H2 H3 := by rw [← hH3]; exact TSame.mut hL2 trivial
        have ch3 : Chg L H H3 := by rw [← hH3]; exact (Chg.of s12).trans Chg.upd
        have hL3 : H3 L = some (.lst [.int ((m + bs.length : Nat) : Int)]) := by
          rw [← hH3, upd_same, lbs, show ((m : Nat) : Int) + ((bs.length : Nat) : Int) = ((m + bs.length : Nat) : Int) by omega]
          rfl
        have hD3 : H3 D = some (.lst (nm.map V.int)) := by rw [← hH3, upd_ne hDL]; exact hD2
        have hnd3 := ch3 _ _ hnd hndL
        -- inner
        refine ⟨_, rfl, nd, kvs, rfl, .inl hnd3, fun p3 hp3 => ?_⟩
        have s4 := Same.new (o := .dK kvs) hp3
        have np3 : H p3 = none := by
          cases q3 : H p3 with
          | none => rfl
          | some o =>
            by_cases e3 : p3 = L
            · rw [e3, hL3] at hp3; cases hp3
            · rw [ch3 _ _ q3 e3] at hp3; cases hp3
        have hp3L : p3 ≠ L := fun z => by rw [z, hL] at np3; cases np3
        have hp3D : p3 ≠ D := fun z => by rw [z, hD3] at hp3; cases hp3
        generalize hH4 : upd H3 p3 (.dK kvs) = H4 at s4
        have hp4 : H4 p3 = some (.dK kvs) := by rw [← hH4, upd_same]
        have hL4 := s4 _ _ hL3
        have hD4 := s4 _ _ hD3
        have hT4 : SqT K H4 p1 (bs.map V.int) := Same.seqT s4 (ts3.seqT hT2)
        have ch4 : Chg L H H4 := ch3.trans (Chg.of s4)
        -- the loop
        refine ⟨_, rfl, _, rfl, .tup p1, .lst D, bs.map V.int, nm.map V.int, rfl, hT4, SqL.of hD4, ?_⟩
        refine for_it (walk_zipG (K := K) (r1 := .tup p1) (r2 := .lst D) (xs := bs.map V.int) (ys := nm.map V.int) (n := bs.length) (by simp only [List.length_map]; omega)) (fun i σ H' => Chg p3 H4 H' ∧ (∃ z8 z9, σ = [some (.ref a), some (.ref nd), some (.ref f), some (.ref L), some (.ref p1), none, some (.ref D), some (.ref p3), z8, z9, none, none, none]) ∧
          ∃ kv2 li, H' p3 = some (.dK kv2) ∧ DictAt IntR kv2 li ∧ li.length ≤ l.length + i ∧ putAll li (bs.drop i) (nm.drop i) = l2)
          ⟨Chg.refl _ _, ⟨_, _, rfl⟩, kvs, l, hp4, hda, Nat.le_refl _, hl2⟩ (fun i σ H' _ h => ⟨(h.1.tsameD hp4).seqT hT4, SqL.of (h.1 _ _ hD4 hp3D.symm)⟩) ?_ ?_
        · rintro i x0 σ H5 H6 hi ⟨sk, ⟨z8, z9, rfl⟩, kv2, li, hk2, hdl, hll, hput⟩ ⟨T, x, y, rfl, hT, rfl, hx, hy⟩
          have sT : Same H5 (upd H5 T (.tup [x, y])) := Same.new hT
          have hx' : (bs.map V.int)[i]? = some x := hx
          have hy' : (nm.map V.int)[i]? = some y := hy
          have hib : i < bs.length := hi
          have hin' : i < nm.length := by omega
          rw [List.getElem?_map, List.getElem?_eq_getElem hib] at hx'
          rw [List.getElem?_map, List.getElem?_eq_getElem hin'] at hy'
          cases hx'
          cases hy'
          rw [List.drop_eq_getElem_cons hib, List.drop_eq_getElem_cons hin', putAll] at hput
          have hTp : T ≠ p3 := fun z => by rw [z, hk2] at hT; cases hT
          have lk : kv2.length = li.length := DictAt.length hdl
          refine ⟨T, _, rfl, SqT.of upd_same, rfl, _, _, rfl, _, _, rfl, rfl, ?_⟩
          refine ⟨_, rfl, _, rfl, _, rfl, p3, _, rfl, DPut.k (k := Sum.inl bs[i]) (sT _ _ hk2) (Nat.lt_of_le_of_lt (show kv2.length ≤ 100000 by omega) (by decide)), ?_⟩
          refine ⟨?_, ⟨_, _, rfl⟩, _, _, upd_same, hdl.put rfl, ?_, hput⟩
          · exact sk.trans ((Chg.of sT).trans Chg.upd)
          · have := put_len li bs[i] nm[i]
            omega
        rintro σ H5 ⟨sk, ⟨z8, z9, rfl⟩, kv3, l3, hk3, hd3, hl3, hput⟩
        rw [List.drop_of_length_le (Nat.le_refl _)] at hput
        rw [putAll_nil] at hput
        subst hput
        have ch5 : Chg L H H5 := fun b o h n => sk _ _ (ch4 b o h n) (fun z => by rw [z, np3] at h; cases h)
        have ts5 : TSame H H5 := ch5.tsame hL
        have hL5 := sk _ _ hL4 hp3L.symm
        have hD5 := sk _ _ hD4 hp3D.symm
        have hsq5 := ts5.seqT hsq
        -- parts
        refine ⟨_, rfl, e.w, a, _, kvs0, evs, rfl, hv.tsame ts5, fun H6 pp s6 npp hpp => ?_⟩
        have ts6 : TSame H H6 := ts5.trans (TSame.of s6)
        have hsq6 := ts6.seqT hsq
        have ch6 : Chg L H H6 := ch5.trans (Chg.of s6)
        have hL6 := s6 _ _ hL5
        have hD6 := s6 _ _ hD5
        have hk6 := s6 _ _ hk3
        have hppL : pp ≠ L := fun z => by rw [z, hL5] at npp; cases npp
        have lev : evs.length = e.es.length := by rw [DpAll.length hn.es, Ex.dL_eq, List.length_map]
        have lev3 : evs.length ≤ 3 := by
          rw [show evs.length = e.w.ar.2.2 from congrArg (·.2.2) hv.ar]
          cases e.w <;> decide
        have hoks : ∀ x ∈ e.es, x.ok = true := by
          cases e with
          | node w0 ns0 ks0 es0 =>
            rw [Ex.ok, Bool.and_eq_true] at hok
            exact Ex.okL_iff.mp hok.2
        have hbL : ∀ x ∈ ([f, c] : List Addr), x ≠ L := by
          intro x hx
          rcases List.mem_cons.mp hx with rfl | hx
          · exact hfL
          · rw [List.mem_singleton.mp hx]; exact hcL
        have finish : ∀ (H7 : Hp) (z8 z9 : Option V) (fl : Addr) (fvs : List V) (fes es2 : List Ex) (m1 : Nat), Chg L H6 H7 → H7 L = some (.lst [.int (m1 : Nat)]) → fl ≠ L → H7 fl = some (.lst fvs) → DpAll K H7 fvs (Ex.dL fes) → fvs.length ≤ 1 → fvs.length ≤ evs.length → es' = fes ++ es2 →
            renMap (fun k e => ren n k l3 e) m1 (e.es.drop fvs.length) = some (es2, m') →
            tRet (tCall (spRebuilt K) [] E0 (tCons (tVar 0) (tCons (tVar 6) (tCons (tOp rCat (tVar 11) (tLc (iList K (tSl (rSlL K) (tVar 10) (tPart (tCB (fun xs H Q => ∃ p ys, xs = [V.ref p] ∧ (SqL K H p ys ∨ SqT K H p ys) ∧ Q (.int (ys.length : Nat)) H) (tCons (tVar 11) tNil))) tNoPart)) (gName 12) tYes
              (tCallB f (NF.of s_again "again" q cl c) 2 [some (.ref f), some (.ref L)] (fun ws vs H Q E => ws = [some (.ref f), some (.ref L)] ∧ spAgain K n L vs H Q E) E0 (tCons (tVar 12) (tCons (tVar 7) tNil))) [12])) tNil)))) { nx := fun _ H' => Q .non H', rt := Q }
              [some (.ref a), some (.ref nd), some (.ref f), some (.ref L), some (.ref p1), none, some (.ref D), some (.ref p3), z8, z9, some (.ref pp), some (.ref fl), none] H7 := by
          intro H7 z8 z9 fl fvs fes es2 m1 ch7 hL7 hflL hfl7 hfd7 hf1 hfe hes hmap
          have hpp7 := ch7 _ _ hpp hppL
          have hk7 := ch7 _ _ hk6 hp3L
          have hD7 := ch7 _ _ hD6 hDL
          have hf7 := ch7 _ _ (ch6 _ _ hf hfL) hfL
          have hc7 := ch7 _ _ (ch6 _ _ hc hcL) hcL
          refine ⟨_, rfl, _, rfl, _, rfl, _, rfl, _, rfl, fl, fvs, rfl, .inl (SqL.of hfl7), _, rfl, pp, evs, rfl, SqL.of hpp7, fun sp hsp => ?_⟩
          rw [cut_nat]
          have s8 := Same.new (o := .lst (evs.drop fvs.length)) hsp
          generalize hH8 : upd H7 sp (.lst (evs.drop fvs.length)) = H8 at s8
          have hsp8 : H8 sp = some (.lst (evs.drop fvs.length)) := by rw [← hH8, upd_same]
          have hspL : sp ≠ L := fun z => by rw [z, hL7] at hsp; cases hsp
          have ch8 : Chg L H H8 := ch6.trans (ch7.trans (Chg.of s8))
          have ts8 : TSame H H8 := ch8.tsame hL
          have hL8 := s8 _ _ hL7
          refine ⟨sp, rfl, ⟨_, SqL.of hsp8⟩, fun D2 hD2 => ?_⟩
          have hD2L : D2 ≠ L := fun z => by rw [z, hL8] at hD2; cases hD2
          have ldr : (evs.drop fvs.length).length ≤ 3 := by rw [List.length_drop]; omega
          refine lc_ex (walk_list (K := K) (a := sp) (xs := evs.drop fvs.length)) (Nat.lt_of_le_of_lt (show _ ≤ 1000 by omega) (by decide)) (fun i acc H' => Chg L H8 H' ∧ ∃ es1 m2 es3, es2 = es1 ++ es3 ∧ H' L = some (.lst [.int (m2 : Nat)]) ∧
            renMap (fun k e => ren n k l3 e) m2 ((e.es.drop fvs.length).drop i) = some (es3, m') ∧ DpAll K H' acc (Ex.dL es1))
            ⟨Chg.of (Same.new hD2), [], m1, es2, rfl, Same.new hD2 _ _ hL8, hmap, .nil⟩ (fun i acc H' r _ => SqL.of (r.1 _ _ hsp8 hspL)) ?_ ?_ gName_mono
          · rintro i acc x H0 H' Q2 hi hacc ⟨ch9, es1, m2, es3, he2, hL9, hmap9, hda9⟩ hl9 ⟨rfl, hx⟩ k2
            have hx' : evs[fvs.length + i]? = some x := by rw [← List.getElem?_drop]; exact hx
            have hlt : fvs.length + i < e.es.length := by
              have := (List.getElem?_eq_some_iff.mp hx').1
              omega
            have hlt2 : i < (e.es.drop fvs.length).length := by rw [List.length_drop]; omega
            have hat : (e.es.drop fvs.length)[i] = e.es[fvs.length + i] := by rw [List.getElem_drop]
            rw [List.drop_eq_getElem_cons hlt2, hat] at hmap9
            obtain ⟨e1, m3, r3, hr3, hmap3, rfl⟩ := renMap_step hmap9
            obtain ⟨dd, hdd, hdx⟩ := DpAll.get hn.es hx'
            rw [Ex.dL_eq, List.getElem?_map, List.getElem?_eq_getElem hlt] at hdd
            cases hdd
            have ch9' : Chg L H H' := ch8.trans ch9
            have ts9 : TSame H H' := ch9'.tsame hL
            have ch79 : Chg L H7 H' := (Chg.of s8).trans ch9
            refine ⟨rfl, rfl, ch79 _ _ hf7 hfL, _, rfl, _, rfl, ch79 _ _ hf7 hfL, ch79 _ _ hc7 hcL, rfl, x, p3, _, l3, kv3, m2, e1, m3, rfl, Dp.tsame ts9 _ _ (Ex.flat _) hdx, hoks _ (List.getElem_mem hlt), ch79 _ _ hk7 hp3L, hd3, by omega, hL9, hr3, fun H10 v' ch10 hL10 hd10 => ?_⟩
            have hl10 : H10 D2 = some (.lst acc) := ch10 _ _ hl9 hD2L
            have tsD : TSame H10 (upd H10 D2 (.lst (acc ++ [v']))) := TSame.mut hl10 trivial
            refine k2 v' H10 hl10 ⟨fun b o hb nb => ?_, es1 ++ [e1], m3, r3, by rw [he2, List.append_assoc]; rfl, by rw [upd_ne hD2L.symm]; exact hL10, hmap3, ?_⟩
            · rw [upd_ne (ne_of_none hb hD2)]
              exact ch10 _ _ (ch9 _ _ hb nb) nb
            · rw [Ex.dL_eq, List.map_append, ← Ex.dL_eq, ← Ex.dL_eq]
              exact DpAll.append (DpAll.tsame (tsD) _ _ (Ex.flatL _) (DpAll.tsame (ch10.tsame hL9) _ _ (Ex.flatL _) hda9)) (.cons (Dp.tsame tsD _ _ (Ex.flat _) hd10) .nil)
          · rintro acc H' ⟨ch9, es1, m2, es3, he2, hL9, hmap9, hda9⟩ hl9 hacc
            have ch9' : Chg L H H' := ch8.trans ch9
            have ts9 : TSame H H' := ch9'.tsame hL
            have ch79 : Chg L H7 H' := (Chg.of s8).trans ch9
            rw [List.drop_of_length_le (by rw [List.length_drop]; rw [List.length_drop]; omega), renMap] at hmap9
            cases hmap9
            rw [List.append_nil] at he2
            subst he2
            have ldr2 : acc.length = evs.length - fvs.length := by rw [hacc, List.length_drop]
            refine ⟨fl, D2, fvs, acc, rfl, rfl, ch79 _ _ hfl7 hflL, hl9, Nat.le_trans (show _ ≤ 1000 by omega) (by decide), fun p hp => ?_⟩
            have sp9 := Same.new (o := .lst (fvs ++ acc)) hp
            have ch10 : Chg L H _ := ch9'.trans (Chg.of sp9)
            have ts10 := ch10.tsame hL
            refine ⟨e.w, a, D, p, _, kvs0, evs, nm.map V.int, fvs ++ acc, rfl, hv.tsame ts10, hwn, .inl (SqL.of (sp9 _ _ (ch79 _ _ hD7 hDL))), SqL.of upd_same, by rw [List.length_append]; omega, fun hb' => ?_, fun H11 q' s11 nq hq' => ?_⟩
            · rw [List.length_map, List.length_map, lnm, ← hbs]
              unfold bindsI
              rw [if_pos hb']
            · have s9 : Same H' H11 := sp9.trans s11
              refine k H11 (.ref q') (ch9'.trans (Chg.of s9)) (s9 _ _ hL9) ?_
              have ts11 : TSame H H11 := ts9.trans (TSame.of s9)
              refine NodeAt.dp (kvs := kvs0) (evs := fvs ++ acc) ⟨?_, DpAll.tsame ts11 _ _ (Kd.flatL _) hn.ks, ?_⟩
              · refine SqT.of ?_
                rw [hq']
                have : newNs e.w (e.ns.map V.int) (nm.map V.int) = (if e.w.binds = true then nums m (bindsI e.w e.ns).length else e.ns).map V.int := by
                  unfold newNs
                  rw [hbs, hnm]
                  cases e.w.binds <;> rfl
                rw [this]
                rfl
              · show DpAll K H11 (fvs ++ acc) (Ex.dL es')
                rw [hes, Ex.dL_eq, List.map_append, ← Ex.dL_eq, ← Ex.dL_eq]
                exact DpAll.append (DpAll.tsame ((ch79.tsame hL7).trans (TSame.of s9)) _ _ (Ex.flatL _) hfd7) (DpAll.same s9 _ _ hda9)
        refine ⟨_, rfl, _, _, _, _, rfl, rfl, hsq6, at_of (j := 0) rfl rfl, rfl, _, rfl, ite2 (fun hcl' => ?_) (fun hcl' => ?_)⟩
        · have hw : e.w = .lt := tst (b := .lt) hcl'
          obtain ⟨ea, er, ea', m1, er', hes, hra, hrm, rfl⟩ := renIn_lt hw hin
          rw [hbs, hnm, hl2] at hrm
          have h0 : e.es[0]? = some ea := by rw [hes]; rfl
          obtain ⟨u0, hu0, hdu0⟩ := DpAll.get' hn.es (show (Ex.dL e.es)[0]? = some ea.d by rw [Ex.dL_eq, List.getElem?_map, h0]; rfl)
          have hin' : ea ∈ e.es := List.mem_of_getElem? h0
          refine ⟨rfl, ch6 _ _ hf hfL, _, rfl, pp, evs, _, _, rfl, rfl, SqL.of hpp, at_of (j := 0) (by rfl) hu0, _, rfl, ch6 _ _ hf hfL, ch6 _ _ hc hcL, rfl, u0, nd, ea, l, kvs, m + bs.length, ea', m1, rfl, Dp.tsame ts6 _ _ (Ex.flat _) hdu0, hoks _ hin', ch6 _ _ hnd hndL, hda, by omega, hL6, (by rw [← hbs]; exact hra), fun H7 v' ch7 hL7 hd7 => ?_⟩
          refine ⟨by show 1 ≤ sizeLine; decide, fun fl hfl => ?_⟩
          have sf := Same.new (o := .lst [v']) hfl
          refine finish _ _ _ fl [v'] [ea'] er' m1 (ch7.trans (Chg.of sf)) (sf _ _ hL7) (fun z => by rw [z, hL7] at hfl; cases hfl) upd_same (.cons (Dp.same sf _ _ hd7) .nil) (Nat.le_refl _) ?_ rfl ?_
          · rw [lev, hes]; simp
          · rw [hes]; exact hrm
        · have hw : ¬ e.w = .lt := fun h => hcl' (by rw [h]; rfl)
          have hrm := renIn_no hw hin
          rw [hbs, hnm, hl2] at hrm
          refine ⟨by show 0 ≤ sizeLine; decide, fun fl hfl => ?_⟩
          have sf := Same.new (o := .lst []) hfl
          exact finish _ _ _ fl [] [] es' (m + bs.length) (Chg.of sf) (sf _ _ hL6) (fun z => by rw [z, hL6] at hfl; cases hfl) upd_same .nil (Nat.zero_le _) (Nat.zero_le _) rfl hrm
end
end Lw
set_option Elab.async false
set_option linter.all false
set_option maxRecDepth 100000
set_option maxHeartbeats 4000000
namespace Lw
open PySem PySem.Spec PyProof.Rows L2 RZ NdefX LamX
/-- a def whose code object stands at c -/
structure FunT (K : PySem.W.Frag) (x qual : Str) (st : Stmt) (f : Addr) (fd : FuncData) (c : Addr) : Prop where
  ex : ∃ (oc : Value) (od : Option Addr) (kV doc pm : Value) (an : Option Addr) (ct : Value) (osl : Array (Option Value)),
    fd = PySem.W.fnOf x qual (defArgs st) (defBody st) (defScope st) .none kV doc pm an (.ref c) ct ∧ K.lookup f = some ⟨oc, od, .func fd, osl⟩ ∧ PySem.W.codeIn K (.ref c) qual = true
theorem FunT.ok {P : Program} {w : World} {K : PySem.W.Frag} {mg : Str → Option Value} {base : Heap} {x qual : Str} {st : Stmt} {f c : Addr} {fd : FuncData} {N ps : List Str} {k : Nat} {sp : Sp} (F : FunT K x qual st f fd c) (S : FnScope N ps (defScope st)) (len : ∀ vs H Q E, sp vs H Q E → vs.length = ps.length)
    (hbody : ∀ (A : Around) (outer : List Env) (s : Shared) (H : Hp) (vs : List V) (Q : VK) (E : XK), Room k (A.deeper (envOfC qual (defScope st) s.heap.objs.size f (.ref c))) → sp vs H Q E →
      ∃ t, PSs (cxOf CX0 P w K mg base N qual (defScope st) f (.ref c) A outer s H E).nox (defBody st) t ∧ t { nx := fun _ H' => Q .non H', rt := Q } (start N vs) H) : FnOk P w K mg base CX0 (k + 1) f fd ps sp := by
  obtain ⟨oc, od, kV, doc, pm, an, ct, osl, rfl, lk, hcd⟩ := F.ex
  refine fn_of lk hcd S len fun A outer s H vs Q E hr hsp => ?_
  obtain ⟨t, h, q⟩ := hbody A outer s H vs Q E hr hsp
  exact ⟨t, h.nox, q⟩
structure AtT (K : PySem.W.Frag) (mg : Str → Option Value) (x qual : Str) (st : Stmt) (ps : List Str) (c : Addr) : Prop where
  ex : ∃ f fd, FunT K x qual st f fd c ∧ mg x = some (.ref f) ∧ PySem.W.keepIn K (.ref f) = true ∧ Binds K fd ps []
theorem Dfn.ofT {P : Program} {w : World} {K : PySem.W.Frag} {mg : Str → Option Value} {base : Heap} {x qual : Str} {k : Nat} {st : Stmt} {ps : List Str} {sp : Sp} {c : Addr} (a : AtT K mg x qual st ps c)
    (h : ∀ f fd, FunT K x qual st f fd c → FnOk P w K mg base CX0 k f fd ps sp) : Dfn P w K mg base x k ps sp := by
  obtain ⟨f, fd, F, m, kp, b⟩ := a.ex
  exact ⟨f, fd, h f fd F, m, kp, b⟩
theorem ExtN.dp {H H' : Hp} (s : ExtN H H') : TSame H H' :=
  ⟨fun b xs h => s _ _ h (fun _ z => nomatch z), fun b o u h => s _ _ h (fun _ z => nomatch z)⟩
theorem TabsN.chg {T : List NTab} {L : Addr} {l : List V} {H H' : Hp} (t : TabsN T H) (s : Chg L H H') (hL : H L = some (.lst l)) : TabsN T H' := fun p hp => by
  obtain ⟨ps, h1, h2, h3⟩ := t p hp
  refine ⟨ps, s _ _ h1 (fun z => by rw [z, hL] at h1; cases h1), h2, fun pos cv hc => ?_⟩
  obtain ⟨c, e1, e2⟩ := h3 pos cv hc
  refine ⟨c, e1, s _ _ e2 fun z => ?_⟩
  rw [z, hL] at e2
  unfold CodeO at e2
  cases e2
theorem ndef_cl {y : Str} (h : (y, NameKind.free) ∈ (C8.fnScope s_again).names) : y ∈ frAg := sc_again.free _ h rfl
abbrev qAgain : Str := ("renumbered" : Str) ++ (".<locals>." : Str) ++ ("again" : Str)
abbrev tabR (P : Addr) : List NTab := [(P, fun _ _ => qAgain)]
def spRenum (K : PySem.W.Frag) (T : List NTab) : Sp := fun vs H Q _ => ∃ (v : V) (e e' : Ex) (m' : Nat), vs = [v] ∧ Dp K H v e.d ∧ e.ok = true ∧ ren 41 0 [] e = some (e', m') ∧ TabsN T H ∧ ∀ H' v', ExtN H H' → TabsN T H' → Dp K H' v' e'.d → Q v' H'
section
variable {P : Program} {w : World} {K : PySem.W.Frag} {mg : Str → Option Value} {base : Heap} {dF dK dL dB : Addr}
abbrev nsRen : List Str := ["e", "again", "met"]
theorem sc_renumbered : FnScope nsRen ["e"] (defScope s_renumbered) := ⟨rfl, rfl, rfl, by decide +kernel, rfl, by decide +kernel, by decide +kernel⟩
def spmAg (K : PySem.W.Frag) : Addr → Addr → List (Option V) → Sp := fun f _ ws vs H Q E => ∃ L, ws = [some (.ref f), some (.ref L)] ∧ spAgain K 41 L vs H Q E
theorem nok_w {f c' : Addr} {base' : Heap} {ws : List (Option V)} {cells : List (Str × Addr)} {q : Str} (C : Cst K w mg dF dK dL dB)
    (GP : ∀ base, Dfn P w K mg base "parts_of" 1 ["e"] (spParts K)) (GB : ∀ base, Dfn P w K mg base "binders_of" 1 ["e"] (spBinders K)) (GR : ∀ base, Dfn P w K mg base "rebuilt" 1 ["e", "numbers", "parts"] (spRebuilt K)) (cb : CapB base' (cloFrom cells (C8.fnScope s_again).names []) frAg ws) :
    NOk P w K mg base' CX0 42 f (NF.of s_again "again" q (cloFrom cells (C8.fnScope s_again).names []) c') psAg frAg (fun ws' vs H Q E => ws' = ws ∧ spmAg K f c' ws' vs H Q E) :=
  ⟨fun ws' vs H Q E h => by
    obtain ⟨_, L, _, v, nd, e, l, kvs, m, e', m', rfl, _⟩ := h
    rfl, fun A outer s H us vs ws' Q E hr e0 hf hc CA r h => by
    obtain ⟨rfl, L, rfl, hs⟩ := h
    exact (nok_again C (GP base') (GB base') (GR base') (fun y c h => ndef_cl (clo_free h)) (fun y c h => clo_fun h) cb 41).run A outer s H us vs _ Q E hr e0 hf hc CA r ⟨rfl, hs⟩⟩
theorem ok_renumbered {f c Pt : Addr} {fd : FuncData} (F : FunT K "renumbered" "renumbered" s_renumbered f fd c) (TB : TabB base mg c Pt) (C : Cst K w mg dF dK dL dB)
    (GP : ∀ base, Dfn P w K mg base "parts_of" 1 ["e"] (spParts K)) (GB : ∀ base, Dfn P w K mg base "binders_of" 1 ["e"] (spBinders K)) (GR : ∀ base, Dfn P w K mg base "rebuilt" 1 ["e", "numbers", "parts"] (spRebuilt K)) :
    FnOk P w K mg base CX0 43 f fd ["e"] (spRenum K (tabR Pt)) := by
  refine F.ok sc_renumbered (fun vs H Q E h => ?_) (fun A outer s H vs Q E hr h => ?_)
  · obtain ⟨v, e, e', m', rfl, _⟩ := h
    rfl
  · obtain ⟨v, e, e', m', rfl, hd, hok, hren, hT, k⟩ := h
    have hnd : ndefB (defScope s_renumbered) (C8.fnScope s_again) frAg = true := by decide +kernel
    refine ⟨_, (pss_cons (ps_set (i := 2) sc_renumbered.nd rfl (Or.inr rfl) (pe_lst (pa_cons (pe_int) (pa_nil)))) (pss_cons (ps_ndefMS (st := s_again) (T := tabR Pt) (nm := fun _ _ => qAgain) (c := c) (P := Pt) (name := "again") (i := 1) rfl TB rfl (List.mem_singleton.mpr rfl) rfl (fun p hp _ => by rw [List.mem_singleton.mp hp]) (ndef_free hnd) rfl rfl rfl sc_renumbered.nd rfl (Or.inr rfl) (Or.inl rfl)) (pss_one (ps_ret (pe_callnW (i := 1) (js := [1, 2]) (ps := psAg) (fr := frAg) (k := 42) (CX := CX0) (E := E0) (spm := spmAg K) (mk := NF.of s_again "again" qAgain (cloFrom (envOfC "renumbered" (defScope s_renumbered) s.heap.objs.size f (.ref c)).cells (C8.fnScope s_again).names []))
        (fun f c' base' ws hK hG cb => nok_w C GP GB GR cb)
        (fun _ => rfl) (fun ok => Caps.made ok (ndef_free hnd) (ndef_fr hnd) rfl) (fun _ _ _ => rfl) hr (Nat.le_refl _) pass0 rfl (Or.inr (Or.inl rfl)) (pa_cons (pv 0) (pa_cons (pe_dnewK) (pa_nil)))))))), ?_⟩
    refine ⟨by show 1 ≤ sizeLine; decide, fun L hL => ?_⟩
    have s1 := Same.new (o := .lst [.int 0]) hL
    refine ⟨hT.ext s1, fun f1 c1 H1 eN nn T1 f0 hf1 hc1 => ?_⟩
    have hL1 : H1 L = some (.lst [.int 0]) := eN _ _ upd_same (fun _ z => nomatch z)
    refine ⟨f1, c1, rfl, hf1, _, rfl, fun p hp => ?_⟩
    have s2 := Same.new (o := .dK []) hp
    have e2 : ExtN H (upd H1 p (.dK [])) := ((ExtN.of s1).trans eN).trans (ExtN.of s2)
    have hL2 := s2 _ _ hL1
    refine ⟨s2 _ _ hf1, s2 _ _ hc1, L, rfl, v, p, e, [], [], 0, e', m', rfl, Dp.tsame (ExtN.dp e2) _ _ (Ex.flat _) hd, hok, upd_same, .nil, by decide, hL2, hren, fun H2 v2 ch hL3 hd2 => ?_⟩
    refine k H2 v2 (fun b o hb nt => ch _ _ (e2 _ _ hb nt) fun z => ?_) (TabsN.chg (TabsN.ext T1 s2) ch hL2) hd2
    rw [z, hL] at hb
    cases hb
end
end Lw
set_option Elab.async false
set_option linter.all false
set_option maxRecDepth 100000
set_option maxHeartbeats 4000000
namespace Lw
open PySem PySem.Spec PyProof.Rows L2 RZ
/-! ### the machine's data -/
inductive Th where
  | int (n : Int) | two (a b : Th) | fn (e : Ex) (env : List (Int × Th)) | code (e : Ex)
abbrev En := List (Int × Th)
def fnG (ev nv : V) : List (Str × V) := [("e", ev), ("bound", nv)]
theorem fnS : ¬ (("e" : Str) = "bound") ∧ ¬ (("bound" : Str) = "e") := by decide +kernel
mutual
inductive ThAt (K : PySem.W.Frag) (CF : Addr) (H : Hp) : V → Th → Prop
  | int (n : Int) : ThAt K CF H (.int n) (.int n)
  | two {p : Addr} {x y : V} {a b : Th} : SqT K H p [x, y] → ThAt K CF H x a → ThAt K CF H y b → ThAt K CF H (.ref p) (.two a b)
  | fn {p dx nd : Addr} {ev : V} {kvs : List (Key × V)} {e : Ex} {env : List (Int × Th)} : H p = some (.ins CF dx (fnG ev (.ref nd))) → Dp K H ev e.d → e.ok = true → H nd = some (.dK kvs) → EnvAt K CF H kvs env → ThAt K CF H (.ref p) (.fn e env)
  | code {v : V} {e : Ex} : Dp K H v e.d → e.ok = true → ThAt K CF H v (.code e)
inductive EnvAt (K : PySem.W.Frag) (CF : Addr) (H : Hp) : List (Key × V) → List (Int × Th) → Prop
  | nil : EnvAt K CF H [] []
  | cons {k : Int} {v : V} {t : Th} {kvs : List (Key × V)} {env : List (Int × Th)} : ThAt K CF H v t → EnvAt K CF H kvs env → EnvAt K CF H ((Sum.inl k, v) :: kvs) ((k, t) :: env)
end
section
variable {K : PySem.W.Frag} {CF CM : Addr} {H H' H1 H2 : Hp}
theorem EnvAt.to : ∀ {kvs : List (Key × V)} {env : En}, EnvAt K CF H kvs env → DictAt (ThAt K CF H) kvs env
  | [], [], _ => .nil
  | _ :: _, _ :: _, .cons a b => .cons ⟨rfl, a⟩ b.to
theorem EnvAt.of : ∀ {kvs : List (Key × V)} {env : En}, DictAt (ThAt K CF H) kvs env → EnvAt K CF H kvs env
  | [], [], _ => .nil
  | (k, v) :: _, (i, t) :: _, .cons a b => by
    obtain ⟨e, h⟩ := a
    dsimp only at e h
    subst e
    exact .cons h (EnvAt.of b)
/-- lists and the machine's object may change -/
def MSm (CM : Addr) (H H' : Hp) : Prop := ∀ b o, H b = some o → (∀ l, o ≠ .lst l) → (∀ dx fs, o ≠ .ins CM dx fs) → H' b = some o
theorem MSm.tsame (s : MSm CM H H') : TSame H H' := ⟨fun b xs h => s _ _ h (fun _ z => nomatch z) (fun _ _ z => nomatch z), fun b o u h => s _ _ h (fun _ z => nomatch z) (fun _ _ z => nomatch z)⟩
theorem MSm.of (s : Same H H') : MSm CM H H' := fun b o h _ _ => s b o h
theorem MSm.trans (a : MSm CM H H1) (b : MSm CM H1 H2) : MSm CM H H2 := fun c o h n1 n2 => b c o (a c o h n1 n2) n1 n2
theorem MSm.updL {L : Addr} {l : List V} {o : HO} (h : H L = some (.lst l)) : MSm CM H (upd H L o) := fun b u e n1 _ => by
  rw [upd_ne fun z => ?_]
  · exact e
  · rw [z, h] at e
    exact n1 l (Option.some.inj e).symm
theorem MSm.updM {M dx : Addr} {fs : List (Str × V)} {o : HO} (h : H M = some (.ins CM dx fs)) : MSm CM H (upd H M o) := fun b u e _ n2 => by
  rw [upd_ne fun z => ?_]
  · exact e
  · rw [z, h] at e
    exact n2 dx fs (Option.some.inj e).symm
mutual
theorem ThAt.ms (n : CF ≠ CM) (s : MSm CM H H') : ∀ {v : V} {t : Th}, ThAt K CF H v t → ThAt K CF H' v t
  | _, _, .int i => .int i
  | _, _, .two q a b => .two (s.tsame.seqT q) (ThAt.ms n s a) (ThAt.ms n s b)
  | _, _, .fn h d k e r => .fn (s _ _ h (fun _ z => nomatch z) (fun _ _ z => n (by cases z; rfl))) (Dp.tsame s.tsame _ _ (Ex.flat _) d) k (s _ _ e (fun _ z => nomatch z) (fun _ _ z => nomatch z)) (EnvAt.ms n s r)
  | _, _, .code d k => .code (Dp.tsame s.tsame _ _ (Ex.flat _) d) k
theorem EnvAt.ms (n : CF ≠ CM) (s : MSm CM H H') : ∀ {kvs : List (Key × V)} {env : En}, EnvAt K CF H kvs env → EnvAt K CF H' kvs env
  | _, _, .nil => .nil
  | _, _, .cons a r => .cons (ThAt.ms n s a) (EnvAt.ms n s r)
end
def EnvD (K : PySem.W.Frag) (CF : Addr) (H : Hp) (nd : Addr) (env : En) : Prop := ∃ kvs, H nd = some (.dK kvs) ∧ EnvAt K CF H kvs env
theorem EnvD.ms (n : CF ≠ CM) (s : MSm CM H H') {nd : Addr} {env : En} (h : EnvD K CF H nd env) : EnvD K CF H' nd env := by
  obtain ⟨kvs, h1, h2⟩ := h
  exact ⟨kvs, s _ _ h1 (fun _ z => nomatch z) (fun _ _ z => nomatch z), EnvAt.ms n s h2⟩
theorem Paired.imp2 {α β : Type} {R S : α → β → Prop} (h : ∀ a b, R a b → S a b) : ∀ {l : List α} {m : List β}, Paired R l m → Paired S l m
  | _, _, .nil => .nil
  | _, _, .cons a b => .cons (h _ _ a) (Paired.imp2 h b)
theorem Paired.app {α β : Type} {R : α → β → Prop} : ∀ {l l' : List α} {m m' : List β}, Paired R l m → Paired R l' m' → Paired R (l ++ l') (m ++ m')
  | _, _, _, _, .nil, h => h
  | _, _, _, _, .cons a b, h => .cons a (Paired.app b h)
end
/-! ### tasks -/
inductive Tk where
  | worth (e : Ex) (env : En) | code (e : Ex) (env : En) (lv : Int) | bind (e : Ex) (env : En) | choose (e : Ex) (env : En) | shut | opn | laid | made (e : Ex) (ns : List Int) (n : Nat) | done (w : Wd)
inductive Wy where
  | none | still | great
  deriving DecidableEq
def Wy.s : Wy → Str | .none => "" | .still => "still" | .great => "great"
structure Mc where
  left : Nat
  met : Nat
  work : List Tk
  things : List Th
  why : Wy
def TkAt (K : PySem.W.Frag) (CF : Addr) (W L : Addr) (H : Hp) (v : V) : Tk → Prop
  | .worth e env => ∃ t ev nd, v = .ref t ∧ SqT K H t [.str "worth", ev, .ref nd] ∧ Dp K H ev e.d ∧ e.ok = true ∧ EnvD K CF H nd env
  | .code e env lv => ∃ t ev nd, v = .ref t ∧ SqT K H t [.str "code", ev, .ref nd, .int lv] ∧ Dp K H ev e.d ∧ e.ok = true ∧ EnvD K CF H nd env
  | .bind e env => ∃ t ev nd, v = .ref t ∧ SqT K H t [.str "bind", ev, .ref nd] ∧ Dp K H ev e.d ∧ e.ok = true ∧ EnvD K CF H nd env
  | .choose e env => ∃ t ev nd, v = .ref t ∧ SqT K H t [.str "choose", ev, .ref nd] ∧ Dp K H ev e.d ∧ e.ok = true ∧ EnvD K CF H nd env
  | .shut => ∃ t, v = .ref t ∧ SqT K H t [.str "shut"]
  | .opn => ∃ t, v = .ref t ∧ SqT K H t [.str "open"]
  | .laid => ∃ t, v = .ref t ∧ SqT K H t [.str "laid"]
  | .made e ns n => ∃ t ev nl, v = .ref t ∧ SqT K H t [.str "made", ev, .ref nl, .int (n : Nat)] ∧ Dp K H ev e.d ∧ e.ok = true ∧ nl ≠ W ∧ nl ≠ L ∧ H nl = some (.lst (ns.map V.int))
  | .done w => ∃ t, v = .ref t ∧ SqT K H t [.str "done", .str w.s]
def mF (left met : Int) (W L : Addr) (why : Str) : List (Str × V) := [("left", .int left), ("met", .int met), ("work", .ref W), ("things", .ref L), ("why", .str why)]
/-- all but the machine's own three objects -/
def Kp (M W L : Addr) (H H' : Hp) : Prop := ∀ b o, H b = some o → b ≠ M → b ≠ W → b ≠ L → H' b = some o
section
variable {K : PySem.W.Frag} {CF CM M W L : Addr} {H H' H1 H2 : Hp}
theorem Kp.refl : Kp M W L H H := fun _ _ h _ _ _ => h
theorem Kp.of (s : Same H H') : Kp M W L H H' := fun b o h _ _ _ => s b o h
theorem Kp.trans (a : Kp M W L H H1) (b : Kp M W L H1 H2) : Kp M W L H H2 := fun c o h n1 n2 n3 => b c o (a c o h n1 n2 n3) n1 n2 n3
theorem Kp.updM {o : HO} : Kp M W L H (upd H M o) := fun b u h n1 _ _ => by rw [upd_ne n1]; exact h
theorem Kp.updW {o : HO} : Kp M W L H (upd H W o) := fun b u h _ n1 _ => by rw [upd_ne n1]; exact h
theorem Kp.updL {o : HO} : Kp M W L H (upd H L o) := fun b u h _ _ n1 => by rw [upd_ne n1]; exact h
theorem Kp.ms {dx : Addr} {fs : List (Str × V)} {wv lv : List V} (s : Kp M W L H H') (hM : H M = some (.ins CM dx fs)) (hW : H W = some (.lst wv)) (hL : H L = some (.lst lv)) : MSm CM H H' := fun b o h n1 n2 =>
  s b o h (fun z => by rw [z, hM] at h; exact n2 _ _ (Option.some.inj h).symm) (fun z => by rw [z, hW] at h; exact n1 _ (Option.some.inj h).symm) (fun z => by rw [z, hL] at h; exact n1 _ (Option.some.inj h).symm)
theorem TkAt.keep (n : CF ≠ CM) (s : MSm CM H H') (k : ∀ b l, H b = some (.lst l) → b ≠ W → b ≠ L → H' b = some (.lst l)) {v : V} {t : Tk} (h : TkAt K CF W L H v t) : TkAt K CF W L H' v t := by
  have ts := s.tsame
  cases t with
  | worth e env => obtain ⟨t, ev, nd, rfl, q, d, o, en⟩ := h; exact ⟨t, ev, nd, rfl, ts.seqT q, Dp.tsame ts _ _ (Ex.flat _) d, o, en.ms n s⟩
  | code e env lv => obtain ⟨t, ev, nd, rfl, q, d, o, en⟩ := h; exact ⟨t, ev, nd, rfl, ts.seqT q, Dp.tsame ts _ _ (Ex.flat _) d, o, en.ms n s⟩
  | bind e env => obtain ⟨t, ev, nd, rfl, q, d, o, en⟩ := h; exact ⟨t, ev, nd, rfl, ts.seqT q, Dp.tsame ts _ _ (Ex.flat _) d, o, en.ms n s⟩
  | choose e env => obtain ⟨t, ev, nd, rfl, q, d, o, en⟩ := h; exact ⟨t, ev, nd, rfl, ts.seqT q, Dp.tsame ts _ _ (Ex.flat _) d, o, en.ms n s⟩
  | shut => obtain ⟨t, rfl, q⟩ := h; exact ⟨t, rfl, ts.seqT q⟩
  | opn => obtain ⟨t, rfl, q⟩ := h; exact ⟨t, rfl, ts.seqT q⟩
  | laid => obtain ⟨t, rfl, q⟩ := h; exact ⟨t, rfl, ts.seqT q⟩
  | made e ns m => obtain ⟨t, ev, nl, rfl, q, d, o, h1, h2, h3⟩ := h; exact ⟨t, ev, nl, rfl, ts.seqT q, Dp.tsame ts _ _ (Ex.flat _) d, o, h1, h2, k _ _ h3 h1 h2⟩
  | done w => obtain ⟨t, rfl, q⟩ := h; exact ⟨t, rfl, ts.seqT q⟩
structure McAt (K : PySem.W.Frag) (CF CM M W L : Addr) (H : Hp) (st : Mc) (dx : Addr) (wv lv : List V) : Prop where
  ne : W ≠ L
  m : H M = some (.ins CM dx (mF st.left st.met W L st.why.s))
  w : H W = some (.lst wv)
  l : H L = some (.lst lv)
  ws : Paired (TkAt K CF W L H) wv.reverse st.work
  ts : Paired (ThAt K CF H) lv.reverse st.things
variable {st : Mc} {dx : Addr} {wv lv : List V}
theorem McAt.mw (m : McAt K CF CM M W L H st dx wv lv) : M ≠ W := fun z => by
  have := m.m
  rw [z, m.w] at this
  cases this
theorem McAt.ml (m : McAt K CF CM M W L H st dx wv lv) : M ≠ L := fun z => by
  have := m.m
  rw [z, m.l] at this
  cases this
theorem McAt.msm (m : McAt K CF CM M W L H st dx wv lv) (s : Kp M W L H H') : MSm CM H H' := s.ms m.m m.w m.l
theorem McAt.tk (m : McAt K CF CM M W L H st dx wv lv) (n : CF ≠ CM) (s : Kp M W L H H') {v : V} {t : Tk} (h : TkAt K CF W L H v t) : TkAt K CF W L H' v t :=
  h.keep n (m.msm s) fun b l e n1 n2 => s b _ e (fun z => by rw [z, m.m] at e; cases e) n1 n2
theorem McAt.same (n : CF ≠ CM) (m : McAt K CF CM M W L H st dx wv lv) (s : Same H H') : McAt K CF CM M W L H' st dx wv lv :=
  ⟨m.ne, s _ _ m.m, s _ _ m.w, s _ _ m.l, Paired.imp2 (fun _ _ h => m.tk n (Kp.of s) h) m.ws, Paired.imp2 (fun _ _ h => ThAt.ms n (MSm.of s) h) m.ts⟩
theorem McAt.lw (m : McAt K CF CM M W L H st dx wv lv) : wv.length = st.work.length := by rw [← Paired.length m.ws, List.length_reverse]
theorem McAt.ll (m : McAt K CF CM M W L H st dx wv lv) : lv.length = st.things.length := by rw [← Paired.length m.ts, List.length_reverse]
theorem McAt.setL (n : CF ≠ CM) (m : McAt K CF CM M W L H st dx wv lv) {lv' : List V} {ts' : List Th} (h : Paired (ThAt K CF H) lv'.reverse ts') : McAt K CF CM M W L (upd H L (.lst lv')) { st with things := ts' } dx wv lv' :=
  ⟨m.ne, by rw [upd_ne m.ml]; exact m.m, by rw [upd_ne m.ne]; exact m.w, upd_same, Paired.imp2 (fun _ _ h => m.tk n Kp.updL h) m.ws, Paired.imp2 (fun _ _ h => ThAt.ms n (MSm.updL m.l) h) h⟩
theorem McAt.setW (n : CF ≠ CM) (m : McAt K CF CM M W L H st dx wv lv) {wv' : List V} {ws' : List Tk} (h : Paired (TkAt K CF W L H) wv'.reverse ws') : McAt K CF CM M W L (upd H W (.lst wv')) { st with work := ws' } dx wv' lv :=
  ⟨m.ne, by rw [upd_ne m.mw]; exact m.m, upd_same, by rw [upd_ne m.ne.symm]; exact m.l, Paired.imp2 (fun _ _ h => m.tk n Kp.updW h) h, Paired.imp2 (fun _ _ h => ThAt.ms n (MSm.updL m.w) h) m.ts⟩
theorem McAt.setM (n : CF ≠ CM) (m : McAt K CF CM M W L H st dx wv lv) {l' m' : Nat} {y' : Wy} : McAt K CF CM M W L (upd H M (.ins CM dx (mF l' m' W L y'.s))) { st with left := l', met := m', why := y' } dx wv lv :=
  ⟨m.ne, upd_same, by rw [upd_ne m.mw.symm]; exact m.w, by rw [upd_ne m.ml.symm]; exact m.l, Paired.imp2 (fun _ _ h => m.tk n Kp.updM h) m.ws, Paired.imp2 (fun _ _ h => ThAt.ms n (MSm.updM m.m) h) m.ts⟩
theorem McAt.pushT (n : CF ≠ CM) (m : McAt K CF CM M W L H st dx wv lv) {v : V} {t : Th} (h : ThAt K CF H v t) : McAt K CF CM M W L (upd H L (.lst (lv ++ [v]))) { st with things := t :: st.things } dx wv (lv ++ [v]) :=
  m.setL n (by rw [List.reverse_append]; exact .cons h m.ts)
theorem McAt.pushW (n : CF ≠ CM) (m : McAt K CF CM M W L H st dx wv lv) {v : V} {t : Tk} (h : TkAt K CF W L H v t) : McAt K CF CM M W L (upd H W (.lst (wv ++ [v]))) { st with work := t :: st.work } dx (wv ++ [v]) lv :=
  m.setW n (by rw [List.reverse_append]; exact .cons h m.ws)
theorem McAt.pushWs (n : CF ≠ CM) (m : McAt K CF CM M W L H st dx wv lv) {vs : List V} {ts : List Tk} (h : Paired (TkAt K CF W L H) vs.reverse ts) : McAt K CF CM M W L (upd H W (.lst (wv ++ vs))) { st with work := ts ++ st.work } dx (wv ++ vs) lv :=
  m.setW n (by rw [List.reverse_append]; exact Paired.app h m.ws)
theorem rev_cons {α β : Type} {R : α → β → Prop} {l : List α} {t : β} {ts : List β} (h : Paired R l.reverse (t :: ts)) : ∃ l' v, l = l' ++ [v] ∧ R v t ∧ Paired R l'.reverse ts := by
  generalize hr : l.reverse = r at h
  cases h with
  | cons a b =>
    rename_i v r'
    refine ⟨r'.reverse, v, ?_, a, by rw [List.reverse_reverse]; exact b⟩
    have := congrArg List.reverse hr
    rw [List.reverse_reverse, List.reverse_cons] at this
    exact this
end
end Lw
set_option Elab.async false
set_option linter.all false
set_option maxRecDepth 100000
set_option maxHeartbeats 4000000
namespace Lw
open PySem PySem.Spec PyProof.Rows L2 RZ
/-! ### with_names, Function, reckoned, written_out -/
def putKs : List (Key × V) → List Int → List V → List (Key × V)
  | kvs, x :: xs, y :: ys => putKs (putK kvs (Sum.inl x) y) xs ys
  | kvs, _, _ => kvs
theorem putKs_nil (kvs : List (Key × V)) (ys : List V) : putKs kvs [] ys = kvs := by cases ys <;> rfl
theorem putKs_nil2 (kvs : List (Key × V)) (xs : List Int) : putKs kvs xs [] = kvs := by cases xs <;> rfl
theorem DictAt.putKs {α : Type} {R : V → α → Prop} : ∀ {xs : List Int} {ys : List V} {ts : List α} {kvs : List (Key × V)} {l : List (Int × α)}, DictAt R kvs l → Paired R ys ts → DictAt R (Lw.putKs kvs xs ys) (putAll l xs ts)
  | [], ys, ts, kvs, l, h, p => by rw [putKs_nil, putAll_nil]; exact h
  | x :: xs, [], [], kvs, l, h, p => by rw [putKs_nil2, putAll]; exact h; intro _ _ _ _ _ h; cases h
  | x :: xs, y :: ys, t :: ts, kvs, l, h, .cons a b => by
    rw [Lw.putKs, putAll]
    exact DictAt.putKs (h.put a) b
def spWithNames (K : PySem.W.Frag) : Sp := fun vs H Q _ => ∃ (nd p q : Addr) (kvs : List (Key × V)) (xs : List Int) (ys : List V), vs = [.ref nd, .ref p, .ref q] ∧ H nd = some (.dK kvs) ∧ SqT K H p (xs.map V.int) ∧ SqL K H q ys ∧ ys.length ≤ 10 ∧ kvs.length ≤ 1000000 ∧
  ∀ H' d, Same H H' → H d = none → H' d = some (.dK (putKs kvs xs ys)) → Q (.ref d) H'
def spFunctionInit (CF : Addr) : Sp := fun vs H Q _ => ∃ (p dx : Addr) (ev nv : V), vs = [.ref p, ev, nv] ∧ H p = some (.ins CF dx []) ∧ ∀ H', (∀ b o, H b = some o → b ≠ p → H' b = some o) → H' p = some (.ins CF dx (fnG ev nv)) → Q .non H'
def reck (w : Wd) (a b : Int) : Option Int :=
  if w = .plus then some ((a + b) % 1000)
  else if w = .times then (if (-(2 ^ 64) < a ∧ a < 2 ^ 64) then some (a * b % 1000) else none)
  else if w = .less then some (if a < b then 1 else 0)
  else none
def spReckoned : Sp := fun vs H Q _ => ∃ (w : Wd) (a b r : Int), vs = [.str w.s, .int a, .int b] ∧ reck w a b = some r ∧ Q (.int r) H
def written : Nat → Th → Option Ex
  | 0, _ => none
  | _ + 1, .int n => some (.node .num [n] [] [])
  | k + 1, .two a b => match written k a with
    | none => none
    | some x => match written k b with
      | none => none
      | some y => some (.node .two [] [] [x, y])
  | _ + 1, _ => none
theorem written_two {k : Nat} {a b : Th} {e : Ex} (h : written (k + 1) (.two a b) = some e) : ∃ x y, written k a = some x ∧ written k b = some y ∧ e = .node .two [] [] [x, y] := by
  rw [written] at h
  cases h1 : written k a with
  | none => rw [h1] at h; cases h
  | some x =>
    rw [h1] at h
    dsimp only at h
    cases h2 : written k b with
    | none => rw [h2] at h; cases h
    | some y =>
      rw [h2] at h
      cases h
      exact ⟨x, y, rfl, rfl, rfl⟩
theorem written_ok : ∀ {k : Nat} {t : Th} {e : Ex}, written k t = some e → e.ok = true
  | 0, _, _, h => by cases h
  | k + 1, .int n, e, h => by cases h; rfl
  | k + 1, .two a b, e, h => by
    obtain ⟨x, y, h1, h2, rfl⟩ := written_two h
    rw [Ex.ok, Ex.okL, Ex.okL, Ex.okL, written_ok h1, written_ok h2]
    rfl
  | k + 1, .fn _ _, e, h => by cases h
  | k + 1, .code _, e, h => by cases h
def spWritten (K : PySem.W.Frag) (CF : Addr) (n : Nat) : Sp := fun vs H Q _ => ∃ (v : V) (t : Th) (e : Ex), vs = [v] ∧ ThAt K CF H v t ∧ written n t = some e ∧ ∀ H' v', Same H H' → Dp K H' v' e.d → Q v' H'
theorem ty_tup {K : PySem.W.Frag} {H : Hp} {a : Addr} {xs : List V} (h : SqT K H a xs) : TyX K H (.ref a) (.type "tuple") := by
  rcases h with (q | ⟨o, q⟩) | ⟨o, its, n, hk, hc, _⟩
  · exact .base (.tup q)
  · exact .fTuple q
  · exact .kTuple hk hc
structure FnC (K : PySem.W.Frag) (CF : Addr) : Prop where
  cl : Cls K CF
  nE : NoAttr K CF "e"
  nB : NoAttr K CF "bound"
section
variable {P : Program} {w : World} {K : PySem.W.Frag} {mg : Str → Option Value} {base : Heap} {dF dK dL dB CF : Addr}
theorem sc_Function_init : FnScope ["self", "e", "bound"] ["self", "e", "bound"] (defScope s_Function_init) := ⟨rfl, rfl, rfl, by decide +kernel, rfl, by decide +kernel, by decide +kernel⟩
theorem ok_Function_init {f : Addr} {fd : FuncData} (F : Fun K "__init__" "Function.__init__" s_Function_init f fd) (N : FnC K CF) : FnOk P w K mg base CX0 1 f fd ["self", "e", "bound"] (spFunctionInit CF) := by
  refine F.ok sc_Function_init (fun vs H Q E h => ?_) (fun cdv A outer s H vs Q E hr h => ?_)
  · obtain ⟨p, dx, ev, nv, rfl, _⟩ := h
    rfl
  · obtain ⟨p, dx, ev, nv, rfl, hp, k⟩ := h
    refine ⟨_, (pss_cons (ps_fld (pv 0) (pv 1) rfl) (pss_one (ps_fld (pv 0) (pv 2) rfl))), ?_⟩
    refine ⟨_, rfl, _, rfl, p, CF, dx, [], rfl, hp, N.cl, N.nE, (by show 0 < 1000; decide), ?_⟩
    refine ⟨_, rfl, _, rfl, p, CF, dx, _, rfl, upd_same, N.cl, N.nB, (by show 1 < 1000; decide), ?_⟩
    refine k _ (fun b o h n => by rw [upd_ne n, upd_ne n]; exact h) ?_
    rw [upd_same, putF_nil, putF_tl fnS.1, putF_nil]
    rfl
abbrev nsWn : List Str := ["names", "some", "things", "found", "name", "thing"]
theorem sc_with_names : FnScope nsWn ["names", "some", "things"] (defScope s_with_names) := ⟨rfl, rfl, rfl, by decide +kernel, rfl, by decide +kernel, by decide +kernel⟩
theorem ok_with_names {f : Addr} {fd : FuncData} (F : Fun K "with_names" "with_names" s_with_names f fd) (C : Cst K w mg dF dK dL dB) : FnOk P w K mg base CX0 1 f fd ["names", "some", "things"] (spWithNames K) := by
  refine F.ok sc_with_names (fun vs H Q E h => ?_) (fun cdv A outer s H vs Q E hr h => ?_)
  · obtain ⟨nd, p, q, kvs, xs, ys, rfl, _⟩ := h
    rfl
  · obtain ⟨nd, p, q, kvs, xs, ys, rfl, hnd, hp, hq, ly, lk, k⟩ := h
    refine ⟨_, (pss_cons (ps_set (i := 3) sc_with_names.nd rfl (Or.inl rfl) (pe_callTy call_dictD (by rfl) C.dict boot_dict (pa_cons (pv 0) (pa_nil)))) (pss_cons (ps_for PassesOwn.never rfl (pi_zipG (by rfl) C.zip (pa_cons (pv 1) (pa_cons (pv 2) (pa_nil)))) (pg_tup rfl (pgs_cons (pg_name (i := 4) sc_with_names.nd rfl (Or.inl rfl)) (pgs_cons (pg_name (i := 5) sc_with_names.nd rfl (Or.inl rfl)) pgs_nil)))
        (pss_one (ps_dput (hu_of hr) (pv 3) (pv 4) (pv 5) rfl))) (pss_one (ps_ret (pv 3))))), ?_⟩
    refine ⟨_, rfl, nd, kvs, rfl, .inl hnd, fun d hd => ?_⟩
    have s1 := Same.new (o := .dK kvs) hd
    have hp1 := Same.seqT s1 hp
    have hq1 := Same.seq s1 hq
    have hd1 : upd H d (.dK kvs) d = some (.dK kvs) := upd_same
    generalize hH1 : upd H d (.dK kvs) = H1 at s1 hp1 hq1 hd1
    have tsD : ∀ {H2}, Chg d H1 H2 → SqL K H2 q ys := fun {H2} ch => by
      rcases hq1 with (h | ⟨o, h⟩) | h
      · exact .inl (.inl (ch _ _ h fun z => by rw [z, hd1] at h; cases h))
      · exact .inl (.inr ⟨o, ch _ _ h fun z => by rw [z, hd1] at h; cases h⟩)
      · exact .inr h
    refine ⟨_, rfl, _, rfl, .tup p, .lst q, xs.map V.int, ys, rfl, hp1, hq1, ?_⟩
    refine for_it (walk_zipG (K := K) (r1 := .tup p) (r2 := .lst q) (xs := xs.map V.int) (ys := ys) (n := min xs.length ys.length) (by rw [List.length_map])) (fun i σ H' => Chg d H1 H' ∧ (∃ z4 z5, σ = [some (.ref nd), some (.ref p), some (.ref q), some (.ref d), z4, z5]) ∧
      ∃ kv2, H' d = some (.dK kv2) ∧ kv2.length ≤ kvs.length + i ∧ putKs kv2 (xs.drop i) (ys.drop i) = putKs kvs xs ys)
      ⟨Chg.refl _ _, ⟨_, _, rfl⟩, kvs, hd1, Nat.le_refl _, rfl⟩ (fun i σ H' _ h => ⟨(h.1.tsameD hd1).seqT hp1, tsD h.1⟩) ?_ ?_
    · rintro i x0 σ H5 H6 hi ⟨sk, ⟨z8, z9, rfl⟩, kv2, hk2, hll, hput⟩ ⟨T, x, y, rfl, hT, rfl, hx, hy⟩
      have sT : Same H5 (upd H5 T (.tup [x, y])) := Same.new hT
      have hx' : (xs.map V.int)[i]? = some x := hx
      have hy' : ys[i]? = some y := hy
      have hib : i < xs.length := by omega
      have hib2 : i < ys.length := by omega
      rw [List.getElem?_map, List.getElem?_eq_getElem hib] at hx'
      rw [List.getElem?_eq_getElem hib2] at hy'
      cases hx'
      cases hy'
      rw [List.drop_eq_getElem_cons hib, List.drop_eq_getElem_cons hib2, putKs] at hput
      refine ⟨T, _, rfl, SqT.of upd_same, rfl, _, _, rfl, _, _, rfl, rfl, ?_⟩
      refine ⟨_, rfl, _, rfl, _, rfl, d, _, rfl, DPut.k (k := Sum.inl xs[i]) (sT _ _ hk2) (Nat.lt_of_le_of_lt (show kv2.length ≤ 1000010 by omega) (by decide)), ?_⟩
      refine ⟨?_, ⟨_, _, rfl⟩, _, upd_same, ?_, hput⟩
      · exact sk.trans ((Chg.of sT).trans Chg.upd)
      · have := putK_len2 kv2 (Sum.inl xs[i]) ys[i]
        omega
    · rintro σ H5 ⟨sk, ⟨z8, z9, rfl⟩, kv2, hk2, hll, hput⟩
      have : putKs kv2 (xs.drop (min xs.length ys.length)) (ys.drop (min xs.length ys.length)) = kv2 := by
        by_cases c : xs.length ≤ ys.length
        · rw [Nat.min_eq_left c, List.drop_of_length_le (Nat.le_refl _), putKs_nil]
        · rw [Nat.min_eq_right (by omega), List.drop_of_length_le (l := ys) (Nat.le_refl _), putKs_nil2]
      rw [this] at hput
      subst hput
      refine ⟨_, rfl, k _ d (fun b o hb => sk _ _ (s1 _ _ hb) fun z => ?_) hd hk2⟩
      rw [z, hd] at hb
      cases hb
theorem sc_reckoned : FnScope ["word", "one", "other"] ["word", "one", "other"] (defScope s_reckoned) := ⟨rfl, rfl, rfl, by decide +kernel, rfl, by decide +kernel, by decide +kernel⟩
theorem ok_reckoned {f : Addr} {fd : FuncData} (F : Fun K "reckoned" "reckoned" s_reckoned f fd) (C : Cst K w mg dF dK dL dB) : FnOk P w K mg base CX0 1 f fd ["word", "one", "other"] spReckoned := by
  refine F.ok sc_reckoned (fun vs H Q E h => ?_) (fun cdv A outer s H vs Q E hr h => ?_)
  · obtain ⟨w, a, b, r, rfl, _⟩ := h
    rfl
  · obtain ⟨wd, a, b, r, rfl, hk, k⟩ := h
    refine ⟨_, (pss_cons (ps_if (pt_cmpR op_eq (pv 0) pe_str (nomark _)) (pss_one (ps_ret (pe_op op_mod (pe_op op_add (pv 1) (pv 2)) (pe_gv C.LIMIT)))) pss_nil) (pss_one (ps_ret (pe_ifExp (pt_cmpR op_eq (pv 0) pe_str (nomark _)) (pe_op op_mod (pe_op op_mul (pv 1) (pv 2)) (pe_gv C.LIMIT)) (pe_callTy call_int1 (by rfl) C.int boot_int (pa_cons (pe_cmpR op_lt (pv 1) (pv 2) (nomark _)) (pa_nil))))))), ?_⟩
    unfold reck at hk
    refine ⟨_, rfl, rfl, _, rfl, ite2 (fun hc => ?_) (fun hc => ?_)⟩
    · rw [if_pos (tst (b := .plus) hc)] at hk
      cases hk
      exact ⟨_, rfl, _, rfl, _, _, rfl, rfl, _, _, rfl, rfl, (by show (0:Int) < 1000; decide), k⟩
    · rw [if_neg (tstN (b := .plus) hc)] at hk
      refine ⟨_, rfl, rfl, _, rfl, ite2 (fun hc => ?_) (fun hc => ?_)⟩
      · rw [if_pos (tst (b := .times) hc)] at hk
        split at hk
        · rename_i hb
          cases hk
          exact ⟨_, rfl, _, rfl, _, _, rfl, rfl, .inl hb, _, _, rfl, rfl, (by show (0:Int) < 1000; decide), k⟩
        · cases hk
      · rw [if_neg (tstN (b := .times) hc)] at hk
        split at hk
        · cases hk
          refine ⟨_, rfl, _, rfl, _, _, rfl, rfl, .inr ⟨_, rfl, ?_⟩⟩
          by_cases h : a < b
          · rw [if_pos h] at k
            rw [if_pos (by exact decide_eq_true h)]
            exact k
          · rw [if_neg h] at k
            rw [if_neg (by rw [decide_eq_false h]; exact Bool.false_ne_true)]
            exact k
        · cases hk
theorem sc_written_out : FnScope ["worth"] ["worth"] (defScope s_written_out) := ⟨rfl, rfl, rfl, by decide +kernel, rfl, by decide +kernel, by decide +kernel⟩
theorem ok_written_out (a : At0 K mg "written_out" "written_out" s_written_out ["worth"]) (C : Cst K w mg dF dK dL dB) : ∀ n, Dfn P w K mg base "written_out" n ["worth"] (spWritten K CF n)
  | 0 => .never a fun vs H Q E ⟨v, t, e, _, _, h, _⟩ => by cases h
  | n + 1 => .of a fun f fd F => by
    have G := ok_written_out a C n
    refine F.ok sc_written_out (fun vs H Q E h => ?_) (fun cdv A outer s H vs Q E hr h => ?_)
    · obtain ⟨v, t, e, rfl, _⟩ := h
      rfl
    · obtain ⟨v, t, e, rfl, ht, hw, k⟩ := h
      refine ⟨_, (pss_one (ps_ret (pe_ifExp (pt_val (pe_callB call_isi (by rfl) C.isi boot_isinstance (pa_cons (pv 0) (pa_cons (pe_bltn (v := .ty "int") (by rfl) C.int boot_int rfl) (pa_nil))))) (pe_tup (pa_cons (pe_str) (pa_cons (pv 0) (pa_nil))))
        (pe_tup (pa_cons (pe_gv C.TWO) (pa_cons (pe_callD G hr (by rfl) (pa_cons (pe_ix ix_tup (pv 0) pe_int (fun _ _ => rfl)) (pa_nil))) (pa_cons (pe_callD G hr (by rfl) (pa_cons (pe_ix ix_tup (pv 0) pe_int (fun _ _ => rfl)) (pa_nil))) (pa_nil)))))))), ?_⟩
      cases ht with
      | int i =>
        cases hw
        refine ⟨_, rfl, _, _, _, _, _, rfl, .ty "int", ty_of (d := .int i) (.int i), kit_ty (kit_int (.int i)), _, rfl, iteT ⟨_, rfl, by show 2 ≤ sizeLine; decide, fun p hp => ?_⟩⟩
        exact k _ _ (Same.new hp) (.tup (SqT.of upd_same) (.cons (.str _) (.cons (.int _) .nil)))
      | two q ha hb =>
        rename_i p x y ta tb
        obtain ⟨ea, eb, h1, h2, rfl⟩ := written_two hw
        refine ⟨_, rfl, _, _, _, _, _, rfl, .ty "int", ty_tup q, kit_ty (kit_int (.tuple [])), _, rfl, iteF ?_⟩
        refine ⟨_, rfl, _, _, _, _, rfl, rfl, q, at_of (j := 0) rfl rfl, x, ta, ea, rfl, ha, h1, fun H1 v1 s1 hd1 => ?_⟩
        have hb1 : ThAt K CF H1 y tb := ThAt.ms (CM := CF + 1) (Nat.ne_of_lt (Nat.lt_succ_self _)) (MSm.of s1) hb
        refine ⟨_, rfl, _, _, _, _, rfl, rfl, Same.seqT s1 q, at_of (j := 1) rfl rfl, y, tb, eb, rfl, hb1, h2, fun H2 v2 s2 hd2 => ?_⟩
        refine ⟨by show 3 ≤ sizeLine; decide, fun p' hp' => ?_⟩
        have s3 := Same.new (o := .tup [.str ("two" : Str), v1, v2]) hp'
        exact k _ _ ((s1.trans s2).trans s3) (.tup (SqT.of upd_same) (.cons (.str _) (.cons (Dp.same (s2.trans s3) _ _ hd1) (.cons (Dp.same s3 _ _ hd2) .nil))))
      | fn h d o e r => cases hw
      | code d o => cases hw
end
end Lw
set_option Elab.async false
set_option linter.all false
set_option maxRecDepth 100000
set_option maxHeartbeats 4000000
namespace Lw
open PySem PySem.Spec PyProof.Rows L2 RZ
/-! ### the machine's object -/
theorem mSt : ¬ (("left" : Str) = "met") ∧ ¬ (("left" : Str) = "work") ∧ ¬ (("left" : Str) = "things") ∧ ¬ (("left" : Str) = "why") ∧ ¬ (("met" : Str) = "left") ∧ ¬ (("met" : Str) = "work") ∧ ¬ (("met" : Str) = "things") ∧ ¬ (("met" : Str) = "why") ∧
    ¬ (("work" : Str) = "left") ∧ ¬ (("work" : Str) = "met") ∧ ¬ (("work" : Str) = "things") ∧ ¬ (("work" : Str) = "why") ∧ ¬ (("things" : Str) = "left") ∧ ¬ (("things" : Str) = "met") ∧ ¬ (("things" : Str) = "work") ∧ ¬ (("things" : Str) = "why") ∧
    ¬ (("why" : Str) = "left") ∧ ¬ (("why" : Str) = "met") ∧ ¬ (("why" : Str) = "work") ∧ ¬ (("why" : Str) = "things") := by decide +kernel
section
variable {l m l' m' : Int} {W L : Addr} {y y' : Str}
theorem mF_left : (mF l m W L y).lookup ("left" : Str) = some (.int l) := lookup_hd
theorem mF_met : (mF l m W L y).lookup ("met" : Str) = some (.int m) := (lookup_tl mSt.2.2.2.2.1).trans lookup_hd
theorem mF_work : (mF l m W L y).lookup ("work" : Str) = some (.ref W) := (lookup_tl mSt.2.2.2.2.2.2.2.2.1).trans ((lookup_tl mSt.2.2.2.2.2.2.2.2.2.1).trans lookup_hd)
theorem mF_things : (mF l m W L y).lookup ("things" : Str) = some (.ref L) := by
  obtain ⟨_, _, _, _, _, _, _, _, _, _, _, _, a, b, c, _⟩ := mSt
  exact (lookup_tl a).trans ((lookup_tl b).trans ((lookup_tl c).trans lookup_hd))
theorem mF_why : (mF l m W L y).lookup ("why" : Str) = some (.str y) := by
  obtain ⟨_, _, _, _, _, _, _, _, _, _, _, _, _, _, _, _, a, b, c, d⟩ := mSt
  exact (lookup_tl a).trans ((lookup_tl b).trans ((lookup_tl c).trans ((lookup_tl d).trans lookup_hd)))
theorem mF_putleft : putF ("left" : Str) (.int l') (mF l m W L y) = mF l' m W L y := putF_hd
theorem mF_putmet : putF ("met" : Str) (.int m') (mF l m W L y) = mF l m' W L y := by
  unfold mF
  rw [putF_tl mSt.1, putF_hd]
theorem mF_putwhy : putF ("why" : Str) (.str y') (mF l m W L y) = mF l m W L y' := by
  obtain ⟨_, _, _, h1, _, _, _, h2, _, _, _, h3, _, _, _, h4, a, b, c, d⟩ := mSt
  unfold mF
  rw [putF_tl h1, putF_tl h2, putF_tl h3, putF_tl h4, putF_hd]
theorem mF_no {f : Str} (h : ¬ f = "left" ∧ ¬ f = "met" ∧ ¬ f = "work" ∧ ¬ f = "things" ∧ ¬ f = "why") : (mF l m W L y).lookup f = none :=
  (lookup_tl h.1).trans ((lookup_tl h.2.1).trans ((lookup_tl h.2.2.1).trans ((lookup_tl h.2.2.2.1).trans (lookup_tl h.2.2.2.2))))
end
theorem mN_take : ¬ ("take" : Str) = "left" ∧ ¬ ("take" : Str) = "met" ∧ ¬ ("take" : Str) = "work" ∧ ¬ ("take" : Str) = "things" ∧ ¬ ("take" : Str) = "why" := by decide +kernel
theorem mN_worth : ¬ ("worth" : Str) = "left" ∧ ¬ ("worth" : Str) = "met" ∧ ¬ ("worth" : Str) = "work" ∧ ¬ ("worth" : Str) = "things" ∧ ¬ ("worth" : Str) = "why" := by decide +kernel
theorem mN_code : ¬ ("code" : Str) = "left" ∧ ¬ ("code" : Str) = "met" ∧ ¬ ("code" : Str) = "work" ∧ ¬ ("code" : Str) = "things" ∧ ¬ ("code" : Str) = "why" := by decide +kernel
theorem mN_go_on : ¬ ("go_on" : Str) = "left" ∧ ¬ ("go_on" : Str) = "met" ∧ ¬ ("go_on" : Str) = "work" ∧ ¬ ("go_on" : Str) = "things" ∧ ¬ ("go_on" : Str) = "why" := by decide +kernel
theorem mN_done : ¬ ("done" : Str) = "left" ∧ ¬ ("done" : Str) = "met" ∧ ¬ ("done" : Str) = "work" ∧ ¬ ("done" : Str) = "things" ∧ ¬ ("done" : Str) = "why" := by decide +kernel
theorem mN_call : ¬ ("call" : Str) = "left" ∧ ¬ ("call" : Str) = "met" ∧ ¬ ("call" : Str) = "work" ∧ ¬ ("call" : Str) = "things" ∧ ¬ ("call" : Str) = "why" := by decide +kernel
structure McC (K : PySem.W.Frag) (mg : Str → Option Value) (CM CF : Addr) : Prop where
  cl : Cls K CM
  nl : NoAttr K CM "left"
  nm : NoAttr K CM "met"
  nw : NoAttr K CM "work"
  nt : NoAttr K CM "things"
  ny : NoAttr K CM "why"
  ne : CF ≠ CM
  STILL : GV mg "STILL" (.str "still")
  GREAT : GV mg "GREAT" (.str "great")
/-! ### the mirror -/
def mCall (f v : Th) (st : Mc) : Option Mc :=
  if st.left = 0 then some { st with why := .still }
  else match f with
    | .fn e env => match e.es with
      | [b] => if env.length ≤ 100000 ∧ st.work.length ≤ 100000 ∧ (e.w = .fn ∨ e.w = .rc) then
          some { st with left := st.left - 1, work := .worth b (putAll env (bindsI e.w e.ns) (if e.w = .rc then [f, v] else [v])) :: st.work } else none
      | _ => none
    | _ => none
def mDone (w : Wd) (st : Mc) : Option Mc :=
  if w = .fst then match st.things with | .two a _ :: ts => some { st with things := a :: ts } | _ => none
  else if w = .snd then match st.things with | .two _ b :: ts => some { st with things := b :: ts } | _ => none
  else match st.things with
    | other :: one :: ts =>
      if w = .plus ∨ w = .times ∨ w = .less then match one, other with
        | .int a, .int b => (reck w a b).map fun r => { st with things := .int r :: ts }
        | _, _ => none
      else if w = .two then some { st with things := .two one other :: ts }
      else if w = .call then mCall one other { st with things := ts }
      else none
    | _ => none
def spTake (CM : Addr) : Sp := fun vs H Q _ => ∃ (M W L dx : Addr) (l m : Int) (y : Str) (lv : List V) (v : V), vs = [.ref M] ∧ H M = some (.ins CM dx (mF l m W L y)) ∧ H L = some (.lst (lv ++ [v])) ∧ Q v (upd H L (.lst lv))
def EndM (K : PySem.W.Frag) (CF CM M W L : Addr) (H : Hp) (st' : Mc) (dx : Addr) (Q : VK) : Prop := ∀ H' wv' lv', Kp M W L H H' → McAt K CF CM M W L H' st' dx wv' lv' → Q .non H'
def spMCall (K : PySem.W.Frag) (CF CM : Addr) : Sp := fun vs H Q _ => ∃ (M W L dx : Addr) (st st' : Mc) (wv lv : List V) (fv v : V) (f t : Th), vs = [.ref M, fv, v] ∧ McAt K CF CM M W L H st dx wv lv ∧ ThAt K CF H fv f ∧ ThAt K CF H v t ∧ mCall f t st = some st' ∧ EndM K CF CM M W L H st' dx Q
def spMDone (K : PySem.W.Frag) (CF CM : Addr) : Sp := fun vs H Q _ => ∃ (M W L dx : Addr) (st st' : Mc) (wv lv : List V) (w : Wd), vs = [.ref M, .str w.s] ∧ McAt K CF CM M W L H st dx wv lv ∧ st.things.length ≤ 100000 ∧ mDone w st = some st' ∧ EndM K CF CM M W L H st' dx Q
section
variable {P : Program} {w : World} {K : PySem.W.Frag} {mg : Str → Option Value} {base : Heap} {dF dK dL dB CF CM : Addr}
theorem sc_take : FnScope ["self"] ["self"] (defScope s_Machine_take) := ⟨rfl, rfl, rfl, by decide +kernel, rfl, by decide +kernel, by decide +kernel⟩
theorem ok_take {f : Addr} {fd : FuncData} (F : Fun K "take" "Machine.take" s_Machine_take f fd) (cM : McC K mg CM CF) : FnOk P w K mg base CX0 1 f fd ["self"] (spTake CM) := by
  refine F.ok sc_take (fun vs H Q E h => ?_) (fun cdv A outer s H vs Q E hr h => ?_)
  · obtain ⟨M, W, L, dx, l, m, y, lv, v, rfl, _⟩ := h
    rfl
  · obtain ⟨M, W, L, dx, l, m, y, lv, v, rfl, hM, hL, k⟩ := h
    refine ⟨_, (pss_one (ps_ret (pe_bm0 PySem.F.plainAttrs_list PySem.F.slot_list_pop PySem.F.type_list_pop mt_pop (pe_fld (pv 0) rfl)))), ?_⟩
    refine ⟨_, rfl, M, CM, dx, _, _, rfl, hM, cM.cl, cM.nt, mF_things, .inl ⟨rfl, _, SqL.of hL⟩, L, _, v, rfl, rfl, hL, by simp, ?_⟩
    rw [List.dropLast_concat]
    exact k
abbrev nsMC : List Str := ["self", "function", "worth", "things", "names"]
theorem sc_mcall : FnScope nsMC ["self", "function", "worth"] (defScope s_Machine_call) := ⟨rfl, rfl, rfl, by decide +kernel, rfl, by decide +kernel, by decide +kernel⟩
theorem ok_mcall {f : Addr} {fd : FuncData} (F : Fun K "call" "Machine.call" s_Machine_call f fd) (C : Cst K w mg dF dK dL dB) (cM : McC K mg CM CF) (cF : FnC K CF) (GB : Dfn P w K mg base "binders_of" 1 ["e"] (spBinders K)) (GW : Dfn P w K mg base "with_names" 1 ["names", "some", "things"] (spWithNames K)) :
    FnOk P w K mg base CX0 2 f fd ["self", "function", "worth"] (spMCall K CF CM) := by
  refine F.ok sc_mcall (fun vs H Q E h => ?_) (fun cdv A outer s H vs Q E hr h => ?_)
  · obtain ⟨M, W, L, dx, st, st', wv, lv, fv, v, f, t, rfl, _⟩ := h
    rfl
  · obtain ⟨M, W, L, dx, st, st', wv, lv, fv, v, f, t, rfl, mc, hf, ht, hm, k⟩ := h
    refine ⟨_, (pss_cons (ps_if (pt_cmpR op_eq (pe_fld (pv 0) rfl) pe_int (nomark _)) (pss_cons (ps_fld (pv 0) (pe_gv cM.STILL) rfl) (pss_one (ps_retN))) pss_nil) (pss_cons (ps_fldaug (pv 0) pe_int in_sub) (pss_cons (ps_set (i := 3) sc_mcall.nd rfl (Or.inl rfl) (pe_ifExp (pt_cmpR op_eq (pe_ix ix_tup (pe_fld (pv 1) rfl) pe_int (fun _ _ => rfl)) pe_str (nomark _)) (pe_lst (pa_cons (pv 1) (pa_cons (pv 2) (pa_nil)))) (pe_lst (pa_cons (pv 2) (pa_nil))))) (pss_cons (ps_set (i := 4) sc_mcall.nd rfl (Or.inl rfl) (pe_callD GW hr (by rfl) (pa_cons (pe_fld (pv 1) rfl) (pa_cons (pe_callD GB hr (by rfl) (pa_cons (pe_fld (pv 1) rfl) (pa_nil))) (pa_cons (pv 3) (pa_nil)))))) (pss_one (ps_expr (pe_bm PySem.F.plainAttrs_list PySem.F.slot_list_append PySem.F.type_list_append mt_append (pe_fld (pv 0) rfl) (pa_cons (pe_tup (pa_cons (pe_str) (pa_cons (pe_ix ix_tup (pe_fld (pv 1) rfl) (pe_un un_neg pe_int) (fun _ _ => rfl)) (pa_cons (pv 4) (pa_nil))))) (pa_nil))))))))), ?_⟩
    have n := cM.ne
    refine ⟨_, rfl, M, CM, dx, _, _, rfl, mc.m, cM.cl, cM.nl, mF_left, rfl, _, rfl, ite2 (fun hc => ?_) (fun hc => ?_)⟩
    · have h0 : st.left = 0 := by
        have := V.int.inj (of_decide_eq_true hc)
        omega
      unfold mCall at hm
      rw [if_pos h0] at hm
      cases hm
      refine ⟨_, rfl, M, CM, dx, _, rfl, mc.m, cM.cl, cM.ny, (by show 5 < 1000; decide), ?_⟩
      rw [mF_putwhy]
      exact k _ _ _ Kp.updM (mc.setM n (l' := st.left) (m' := st.met) (y' := .still))
    · have h0 : ¬ st.left = 0 := fun h => hc (by rw [h]; rfl)
      unfold mCall at hm
      rw [if_neg h0] at hm
      cases hf with
      | int i => cases hm
      | two q a b => cases hm
      | code d o => cases hm
      | fn hp hd ok hnd hen =>
        rename_i p dxf nd ev kvs e env
        dsimp only at hm
        split at hm
        · rename_i b hes
          split at hm
          · rename_i hcond
            cases hm
            refine ⟨_, rfl, M, CM, dx, _, _, rfl, mc.m, cM.cl, cM.nl, mF_left, _, _, rfl, rfl, dx, _, mc.m, (by show 5 < 1000; decide), ?_⟩
            rw [mF_putleft, show ((st.left : Nat) : Int) - 1 = ((st.left - 1 : Nat) : Int) by omega]
            have mc1 := mc.setM n (l' := st.left - 1) (m' := st.met) (y' := st.why)
            have ms1 : MSm CM H (upd H M (.ins CM dx (mF ((st.left - 1 : Nat) : Int) st.met W L st.why.s))) := MSm.updM mc.m
            have kp1 : Kp M W L H (upd H M (.ins CM dx (mF ((st.left - 1 : Nat) : Int) st.met W L st.why.s))) := Kp.updM
            have hf1 := ThAt.ms n ms1 (ThAt.fn hp hd ok hnd hen)
            have ht1 := ThAt.ms n ms1 ht
            generalize upd H M (.ins CM dx (mF ((st.left - 1 : Nat) : Int) st.met W L st.why.s)) = H1 at mc1 ms1 kp1 hf1 ht1
            have hp1 : H1 p = some (.ins CF dxf (fnG ev (.ref nd))) := ms1 _ _ hp (fun _ z => nomatch z) (fun _ _ z => n (by cases z; rfl))
            have hnd1 : H1 nd = some (.dK kvs) := ms1 _ _ hnd (fun _ z => nomatch z) (fun _ _ z => nomatch z)
            have hd1 := Dp.tsame ms1.tsame _ _ (Ex.flat _) hd
            have hen1 : EnvAt K CF H1 kvs env := EnvAt.ms n ms1 hen
            obtain ⟨a, kvs0, evs, rfl, hn⟩ := node_of hd1
            have hv := hn.v ok
            have hsq := hv.sq
            -- the rest, behind things
            have rest : ∀ (H2 : Hp) (tl : Addr) (tvs : List V) (ths : List Th), Same H1 H2 → H2 tl = some (.lst tvs) → Paired (ThAt K CF H2) tvs ths → tvs.length ≤ 2 → (if e.w = .rc then [Th.fn e env, t] else [t]) = ths →
                tSeq (tAsg (tCall (spWithNames K) [] E0 (tCons (tFld K (tVar 1) "bound") (tCons (tCall (spBinders K) [] E0 (tCons (tFld K (tVar 1) "e") tNil)) (tCons (tVar 3) tNil)))) (gName 4))
                  (tDrop (tBM K "list" rAppend (tFld K (tVar 0) "work") (tCons (tTup (tCons (tC (.str "worth")) (tCons (tOp (rIxT K) (tFld K (tVar 1) "e") (tUn (rU fun i => .int (-i)) (tC (.int 1)))) (tCons (tVar 4) tNil)))) tNil)))
                  { nx := fun _ H' => Q .non H', rt := Q } [some (.ref M), some (.ref p), some v, some (.ref tl), none] H2 := by
              intro H2 tl tvs ths s2 htl hpr hl2 hth
              have mc2 := mc1.same n s2
              have ts2 := TSame.of s2
              refine ⟨_, rfl, p, CF, dxf, _, _, rfl, s2 _ _ hp1, cF.cl, cF.nB, (lookup_tl fnS.2).trans lookup_hd, ?_⟩
              refine ⟨_, rfl, p, CF, dxf, _, _, rfl, s2 _ _ hp1, cF.cl, cF.nE, lookup_hd, e.w, a, _, kvs0, evs, rfl, hv.tsame ts2, fun H3 p3 s3 np3 hp3 => ?_⟩
              rw [bindsI_v] at hp3
              have s13 := s2.trans s3
              have lk : kvs.length = env.length := DictAt.length hen1.to
              refine ⟨_, rfl, nd, p3, tl, kvs, bindsI e.w e.ns, tvs, rfl, s13 _ _ hnd1, SqT.of hp3, SqL.of (s3 _ _ htl), by omega, by omega, fun H4 d s4 nd4 hd4 => ?_⟩
              have s14 := s13.trans s4
              have mc4 := mc2.same n (s3.trans s4)
              refine ⟨_, rfl, M, CM, dx, _, _, rfl, mc4.m, cM.cl, cM.nw, mF_work, .inl ⟨rfl, _, SqL.of mc4.w⟩, ?_⟩
              have hne : evs ≠ [] := by
                intro h
                have := DpAll.length hn.es
                rw [hes, h] at this
                cases this
              obtain ⟨bv, rfl⟩ : ∃ bv, evs = [bv] := by
                have := DpAll.length hn.es
                rw [hes] at this
                exact len1 this
              have hb1 : Dp K H1 bv b.d := by
                have := hn.es
                rw [hes] at this
                cases this with
                | cons h _ => exact h
              refine ⟨_, rfl, p, CF, dxf, _, _, rfl, s14 _ _ hp1, cF.cl, cF.nE, lookup_hd, _, rfl, a, _, _, bv, rfl, rfl, Same.seqT s14 hsq, ?_, _, rfl, by show 3 ≤ sizeLine; decide, fun p5 hp5 => ?_⟩
              · rw [show V.str e.w.s :: (e.ns.map V.int ++ (kvs0 ++ [bv])) = (V.str e.w.s :: (e.ns.map V.int ++ kvs0)) ++ [bv] by simp]
                exact atI_last _ _
              have s5 := Same.new (o := .tup [.str ("worth" : Str), bv, .ref d]) hp5
              have mc5 := mc4.same n s5
              have lw := mc5.lw
              refine ⟨W, wv, _, rfl, rfl, mc5.w, Nat.lt_of_le_of_lt (show wv.length ≤ 200000 by rw [lw]; exact Nat.le_trans hcond.2.1 (by decide)) (by decide), ?_⟩
              have s15 := s14.trans s5
              refine k _ _ _ (kp1.trans ((Kp.of s15).trans Kp.updW)) (mc5.pushW n ?_)
              have hok : b.ok = true := by
                cases e with
                | node w0 ns0 ks0 es0 =>
                  rw [Ex.ok, Bool.and_eq_true] at ok
                  exact Ex.okL_iff.mp ok.2 b (by rw [show es0 = [b] from hes]; exact List.mem_singleton.mpr rfl)
              refine ⟨p5, bv, d, rfl, SqT.of upd_same, Dp.same s15 _ _ hb1, hok, _, s5 _ _ hd4, EnvAt.of ?_⟩
              rw [hth]
              refine DictAt.putKs (DictAt.mono hen1.to fun v x h => ThAt.ms n (MSm.of s15) h) (Paired.imp2 (fun _ _ h => ThAt.ms n (MSm.of ((s3.trans s4).trans s5)) h) hpr)
            refine ⟨_, rfl, p, CF, dxf, _, _, rfl, hp1, cF.cl, cF.nE, lookup_hd, _, _, _, _, rfl, rfl, hsq, at_of (j := 0) rfl rfl, rfl, _, rfl, ite2 (fun hw => ?_) (fun hw => ?_)⟩
            · refine ⟨_, rfl, _, rfl, by show 2 ≤ sizeLine; decide, fun tl htl => ?_⟩
              have s2 := Same.new (o := .lst [.ref p, v]) htl
              exact rest _ tl _ _ s2 upd_same (.cons (ThAt.ms n (MSm.of s2) hf1) (.cons (ThAt.ms n (MSm.of s2) ht1) .nil)) (Nat.le_refl _) (if_pos (tst (b := .rc) hw))
            · refine ⟨_, rfl, by show 1 ≤ sizeLine; decide, fun tl htl => ?_⟩
              have s2 := Same.new (o := .lst [v]) htl
              exact rest _ tl _ _ s2 upd_same (.cons (ThAt.ms n (MSm.of s2) ht1) .nil) (by show 1 ≤ 2; decide) (if_neg (tstN (b := .rc) hw))
          · cases hm
        · cases hm
abbrev apW : List Str := ["self", "word", "other", "one"]
theorem sc_mdone : FnScope apW ["self", "word"] (defScope s_Machine_done) := ⟨rfl, rfl, rfl, by decide +kernel, rfl, by decide +kernel, by decide +kernel⟩
theorem wd_ne (w b : Wd) (h : w ≠ b) : ¬ (decide (V.str w.s = V.str b.s) = true) := fun hc => h (tst hc)
theorem ok_mdone {f : Addr} {fd : FuncData} (F : Fun K "done" "Machine.done" s_Machine_done f fd) (C : Cst K w mg dF dK dL dB) (cM : McC K mg CM CF) (GT : MDfn P w K mg base CM "take" 1 ["self"] (spTake CM)) (GC : MDfn P w K mg base CM "call" 2 ["self", "function", "worth"] (spMCall K CF CM))
    (GR : Dfn P w K mg base "reckoned" 1 ["word", "one", "other"] spReckoned) : FnOk P w K mg base CX0 3 f fd ["self", "word"] (spMDone K CF CM) := by
  refine F.ok sc_mdone (fun vs H Q E h => ?_) (fun cdv A outer s H vs Q E hr h => ?_)
  · obtain ⟨M, W, L, dx, st, st', wv, lv, w, rfl, _⟩ := h
    rfl
  · obtain ⟨M, W, L, dx, st, st', wv, lv, wd, rfl, mc, hlen, hm, k⟩ := h
    have hr1 : Room 1 _ := hr.mono (by decide)
    refine ⟨_, (pss_cons (ps_if (pt_cmpR op_in_seq (pv 1) (pe_tup (pa_cons (pe_str) (pa_cons (pe_str) (pa_nil)))) (by rfl))
        (pss_cons (ps_expr (pe_bm PySem.F.plainAttrs_list PySem.F.slot_list_append PySem.F.type_list_append mt_append (pe_fld (pv 0) rfl) (pa_cons (pe_ix ix_tup (pe_methD0 (pv 0) cM.cl GT hr1) (pe_callTy call_int1 (by rfl) C.int boot_int (pa_cons (pe_cmpR op_eq (pv 1) pe_str (nomark _)) (pa_nil))) (fun _ _ => rfl)) (pa_nil)))) (pss_one (ps_retN))) pss_nil) (pss_cons (ps_set (i := 2) sc_mdone.nd rfl (Or.inl rfl) (pe_methD0 (pv 0) cM.cl GT hr1)) (pss_cons (ps_set (i := 3) sc_mdone.nd rfl (Or.inl rfl) (pe_methD0 (pv 0) cM.cl GT hr1)) (pss_one (ps_if (pt_cmpR op_in_seq (pv 1) (pe_gv C.BOTH) (by rfl))
        (pss_one (ps_expr (pe_bm PySem.F.plainAttrs_list PySem.F.slot_list_append PySem.F.type_list_append mt_append (pe_fld (pv 0) rfl) (pa_cons (pe_callD GR hr1 (by rfl) (pa_cons (pv 1) (pa_cons (pv 3) (pa_cons (pv 2) (pa_nil))))) (pa_nil)))))
        (pss_one (ps_if (pt_cmpR op_eq (pv 1) (pe_gv C.TWO) (nomark _))
          (pss_one (ps_expr (pe_bm PySem.F.plainAttrs_list PySem.F.slot_list_append PySem.F.type_list_append mt_append (pe_fld (pv 0) rfl) (pa_cons (pe_tup (pa_cons (pv 3) (pa_cons (pv 2) (pa_nil)))) (pa_nil)))))
          (pss_one (ps_expr (pe_methD (pv 0) cM.cl GC hr (pa_cons (pv 3) (pa_cons (pv 2) (pa_nil))))))))))))), ?_⟩
    have n := cM.ne
    have hin2 : inV (V.str wd.s) [.str "first", .str "second"] = decide (wd = .fst ∨ wd = .snd) := by cases wd <;> decide +kernel
    have hin3 : inV (V.str wd.s) [.str "plus", .str "times", .str "less"] = decide (wd = .plus ∨ wd = .times ∨ wd = .less) := by cases wd <;> decide +kernel
    have pop : ∀ {H1 : Hp} {st1 : Mc} {wv1 lv1 : List V} {t : Th} {ts : List Th}, McAt K CF CM M W L H1 st1 dx wv1 lv1 → st1.things = t :: ts → ∃ l' v, lv1 = l' ++ [v] ∧ ThAt K CF H1 v t ∧ McAt K CF CM M W L (upd H1 L (.lst l')) { st1 with things := ts } dx wv1 l' := by
      intro H1 st1 wv1 lv1 t ts m1 he
      have := m1.ts
      rw [he] at this
      obtain ⟨l', v, e1, h1, h2⟩ := rev_cons this
      exact ⟨l', v, e1, h1, m1.setL n h2⟩
    refine ⟨_, rfl, by show 2 ≤ sizeLine; decide, fun t0 ht0 => ?_⟩
    have s0 := Same.new (o := .tup [.str ("first" : Str), .str ("second" : Str)]) ht0
    have mc0 := mc.same n s0
    have ht00 : upd H t0 (.tup [.str ("first" : Str), .str ("second" : Str)]) t0 = some (.tup [.str ("first" : Str), .str ("second" : Str)]) := upd_same
    generalize upd H t0 (.tup [.str ("first" : Str), .str ("second" : Str)]) = H0 at s0 mc0 ht00
    unfold mDone at hm
    refine ⟨_, _, rfl, .inr (SqT.of ht00), rfl, rfl, _, rfl, ?_⟩
    rw [if_neg Bool.false_ne_true, hin2]
    refine ite2 (fun hc => ?_) (fun hc => ?_)
    · obtain ⟨p, x, y, a, b, ts, hth, sq, ha, hb, hres, hidx⟩ : ∃ (p : Addr) (x y : V) (a b : Th) (ts : List Th), st.things = .two a b :: ts ∧ True ∧ True ∧ True ∧ st' = { st with things := (if wd = .snd then b else a) :: ts } ∧ True := by
        rcases of_decide_eq_true hc with rfl | rfl
        · rw [if_pos rfl] at hm
          split at hm
          · rename_i a b ts hth
            cases hm
            exact ⟨0, .non, .non, a, b, ts, hth, trivial, trivial, trivial, rfl, trivial⟩
          · cases hm
        · rw [if_neg (by decide), if_pos rfl] at hm
          split at hm
          · rename_i a b ts hth
            cases hm
            exact ⟨0, .non, .non, a, b, ts, hth, trivial, trivial, trivial, rfl, trivial⟩
          · cases hm
      subst hres
      obtain ⟨l', v, rfl, hv, mc1⟩ := pop mc0 hth
      have ll := mc1.ll
      have hl1 : l'.length ≤ 100000 := by
        rw [hth, List.length_cons] at hlen
        exact Nat.le_trans (Nat.le_of_eq ll) (by show ts.length ≤ 100000; omega)
      cases hv with
      | two q ha hb =>
        rename_i p x y
        have ms1 : MSm CM H0 (upd H0 L (.lst l')) := MSm.updL mc0.l
        refine ⟨_, rfl, M, CM, dx, _, _, rfl, mc0.m, cM.cl, cM.nt, mF_things, .inl ⟨rfl, _, SqL.of mc0.l⟩, ?_⟩
        refine ⟨_, rfl, M, dx, _, rfl, mc0.m, mF_no mN_take, M, W, L, dx, _, _, _, l', .ref p, rfl, mc0.m, mc0.l, ?_⟩
        refine ⟨_, rfl, rfl, .inr ⟨_, rfl, ?_⟩⟩
        have fin : ∀ (z : V) (tz : Th), ThAt K CF H0 z tz → tz = (if wd = .snd then b else a) → rAppend (.ref L) [z] (upd H0 L (.lst l')) (fun v H => tRetN { nx := fun _ H' => Q .non H', rt := Q } [some (.ref M), some (.str wd.s), none, none] H) := by
          intro z tz hz e
          refine ⟨L, l', z, rfl, rfl, upd_same, Nat.lt_of_le_of_lt hl1 (by decide), ?_⟩
          have mc2 := mc1.pushT n (ThAt.ms n ms1 hz)
          rw [e] at mc2
          exact k _ _ _ ((Kp.of s0).trans (Kp.updL.trans Kp.updL)) mc2
        by_cases h2 : wd = .snd
        · refine ⟨p, _, _, y, rfl, rfl, (ms1.tsame).seqT q, ?_, fin y b hb (by rw [if_pos h2])⟩
          rw [if_pos (by rw [h2]; rfl)]
          rfl
        · refine ⟨p, _, _, x, rfl, rfl, (ms1.tsame).seqT q, ?_, fin x a ha (by rw [if_neg h2])⟩
          rw [if_neg (by exact wd_ne wd .snd h2)]
          rfl
    · have hcn : ¬ (wd = .fst ∨ wd = .snd) := fun h => hc (decide_eq_true h)
      rw [if_neg (fun h => hcn (.inl h)), if_neg (fun h => hcn (.inr h))] at hm
      split at hm
      · rename_i other one ts hth
        obtain ⟨l1, v1, rfl, hv1, mc1⟩ := pop mc0 hth
        obtain ⟨l2, v2, rfl, hv2, mc2⟩ := pop mc1 rfl
        have ms1 : MSm CM H0 (upd H0 L (.lst (l2 ++ [v2]))) := MSm.updL mc0.l
        have kp1 : Kp M W L H0 (upd H0 L (.lst (l2 ++ [v2]))) := Kp.updL
        have hv1' := ThAt.ms n ms1 hv1
        generalize hH1 : upd H0 L (.lst (l2 ++ [v2])) = H1 at mc1 mc2 ms1 kp1 hv1' hv2
        have ms2 : MSm CM H1 (upd H1 L (.lst l2)) := MSm.updL mc1.l
        have kp2 : Kp M W L H1 (upd H1 L (.lst l2)) := Kp.updL
        have hv1'' := ThAt.ms n ms2 hv1'
        have hv2' := ThAt.ms n ms2 hv2
        generalize hH2 : upd H1 L (.lst l2) = H2 at mc2 ms2 kp2 hv1'' hv2'
        have kp : Kp M W L H H2 := (Kp.of s0).trans (kp1.trans kp2)
        have ll : l2.length ≤ 100000 := by
          have := mc2.ll
          rw [hth, List.length_cons, List.length_cons] at hlen
          rw [this]
          show ts.length ≤ 100000
          omega
        refine ⟨_, rfl, M, dx, _, rfl, mc0.m, mF_no mN_take, M, W, L, dx, _, _, _, l2 ++ [v2], v1, rfl, mc0.m, mc0.l, ?_⟩
        rw [hH1]
        refine ⟨_, rfl, M, dx, _, rfl, mc1.m, mF_no mN_take, M, W, L, dx, _, _, _, l2, v2, rfl, mc1.m, mc1.l, ?_⟩
        rw [hH2]
        have fin : ∀ (H3 : Hp) (z : V) (tz : Th), Same H2 H3 → ThAt K CF H3 z tz → st' = { st with things := tz :: ts } → rAppend (.ref L) [z] H3 (fun v H => Q .non H) := by
          intro H3 z tz s3 hz e
          have mc3 := mc2.same n s3
          refine ⟨L, l2, z, rfl, rfl, mc3.l, Nat.lt_of_le_of_lt ll (by decide), ?_⟩
          have mc4 := mc3.pushT n hz
          subst e
          exact k _ _ _ (kp.trans ((Kp.of s3).trans Kp.updL)) mc4
        refine ⟨_, rfl, dB, _, rfl, .inr (C.fB _), rfl, rfl, _, rfl, ?_⟩
        rw [if_neg Bool.false_ne_true, hin3]
        refine ite2 (fun hc3 => ?_) (fun hc3 => ?_)
        · rw [if_pos (of_decide_eq_true hc3)] at hm
          cases hv2' with
          | int a =>
            cases hv1'' with
            | int b =>
              dsimp only at hm
              cases hr : reck wd a b with
              | none => rw [hr] at hm; cases hm
              | some r =>
                rw [hr] at hm
                cases hm
                refine ⟨_, rfl, M, CM, dx, _, _, rfl, mc2.m, cM.cl, cM.nt, mF_things, .inl ⟨rfl, _, SqL.of mc2.l⟩, ?_⟩
                exact ⟨_, rfl, _, rfl, _, rfl, wd, a, b, r, rfl, hr, fin H2 (.int r) (.int r) (Same.refl _) (.int r) rfl⟩
            | two q a b => cases hm
            | fn h d o e r => cases hm
            | code d o => cases hm
          | two q a b => cases hm
          | fn h d o e r => cases hm
          | code d o => cases hm
        · have h3 : ¬ (wd = .plus ∨ wd = .times ∨ wd = .less) := fun h => hc3 (decide_eq_true h)
          rw [if_neg h3] at hm
          refine ⟨_, rfl, rfl, _, rfl, ite2 (fun hc4 => ?_) (fun hc4 => ?_)⟩
          · rw [if_pos (tst (b := .two) hc4)] at hm
            cases hm
            refine ⟨_, rfl, M, CM, dx, _, _, rfl, mc2.m, cM.cl, cM.nt, mF_things, .inl ⟨rfl, _, SqL.of mc2.l⟩, ?_⟩
            refine ⟨_, rfl, _, rfl, by show 2 ≤ sizeLine; decide, fun p hp => ?_⟩
            have s3 := Same.new (o := .tup [v2, v1]) hp
            exact fin _ _ _ s3 (.two (SqT.of upd_same) (ThAt.ms n (MSm.of s3) hv2') (ThAt.ms n (MSm.of s3) hv1'')) rfl
          · rw [if_neg (tstN (b := .two) hc4)] at hm
            split at hm
            · exact ⟨_, rfl, M, dx, _, rfl, mc2.m, mF_no mN_call, _, rfl, _, rfl, M, W, L, dx, _, st', wv, l2, v2, v1, one, other, rfl, mc2, hv2', hv1'', hm, fun H' wv' lv' kp' mc' => k H' wv' lv' (kp.trans kp') mc'⟩
            · cases hm
      · cases hm
end
end Lw
set_option Elab.async false
set_option linter.all false
set_option maxRecDepth 100000
set_option maxHeartbeats 4000000
namespace Lw
open PySem PySem.Spec PyProof.Rows L2 RZ
section
variable {α β : Type} {R : α → β → Prop}
theorem Paired.rev : ∀ {l : List α} {m : List β}, Paired R l m → Paired R l.reverse m.reverse
  | _, _, .nil => .nil
  | _, _, .cons a h => by
    rw [List.reverse_cons, List.reverse_cons]
    exact (Paired.rev h).snoc a
theorem Paired.at : ∀ {l : List α} {m : List β} {i : Nat} {a : α}, Paired R l m → l[i]? = some a → ∃ b, m[i]? = some b ∧ R a b
  | _, _, 0, _, .cons h _, e => by
    cases e
    exact ⟨_, rfl, h⟩
  | _, _, i + 1, _, .cons _ h, e => Paired.at (i := i) h (by simpa using e)
end
theorem Paired.mapR {α β γ : Type} {R S : α → γ → Prop} {f : β → γ} (h : ∀ a b, R a (f b) → S a (f b)) : ∀ {l : List α} {m : List β}, Paired R l (m.map f) → Paired S l (m.map f)
  | [], [], _ => .nil
  | _ :: _, _ :: _, .cons a b => .cons (h _ _ a) (Paired.mapR h b)
theorem dl_paired {K : PySem.W.Frag} {H : Hp} : ∀ {evs : List V} {es : List Ex}, DpAll K H evs (Ex.dL es) → Paired (fun v (x : Ex) => Dp K H v x.d) evs es
  | _, [], h => by
    cases h
    exact .nil
  | _, _ :: _, h => by
    rw [Ex.dL] at h
    cases h with
    | cons a b => exact .cons a (dl_paired b)
theorem Ex.okS {e : Ex} (h : e.ok = true) : ∀ x ∈ e.es, x.ok = true := by
  cases e with
  | node w ns ks es =>
    rw [Ex.ok, Bool.and_eq_true] at h
    exact Ex.okL_iff.mp h.2
def mWorth (e : Ex) (env : En) (st : Mc) : Option Mc :=
  if st.work.length ≤ 100000 ∧ st.things.length ≤ 100000 then
    if e.w = .num then match e.ns with | [n] => some { st with things := .int n :: st.things } | _ => none
    else if e.w = .name then match e.ns with | [x] => (look env x).map fun t => { st with things := t :: st.things } | _ => none
    else if e.w = .fn ∨ e.w = .rc then some { st with things := .fn e env :: st.things }
    else if e.w = .lt then match e.es with | p :: _ => some { st with work := .worth p env :: .bind e env :: st.work } | [] => none
    else if e.w = .ite then match e.es with | p :: _ => some { st with work := .worth p env :: .choose e env :: st.work } | [] => none
    else if e.w = .quote then match e.es with | p :: _ => some { st with work := .code p env 1 :: .shut :: st.work } | [] => none
    else if e.w = .run then match e.es with | p :: _ => some { st with work := .worth p env :: .opn :: st.work } | [] => none
    else some { st with work := (e.es.map fun p => Tk.worth p env) ++ .done e.w :: st.work }
  else none
def spMWorth (K : PySem.W.Frag) (CF CM : Addr) : Sp := fun vs H Q _ => ∃ (M W L dx nd : Addr) (st st' : Mc) (wv lv : List V) (ev : V) (e : Ex) (env : En), vs = [.ref M, ev, .ref nd] ∧ McAt K CF CM M W L H st dx wv lv ∧ Dp K H ev e.d ∧ e.ok = true ∧ EnvD K CF H nd env ∧ mWorth e env st = some st' ∧ EndM K CF CM M W L H st' dx Q
section
variable {P : Program} {w : World} {K : PySem.W.Frag} {mg : Str → Option Value} {base : Heap} {dF dK dL dB CF CM : Addr}
abbrev nsMW : List Str := ["self", "e", "names", "word", "parts", "part"]
theorem sc_mworth : FnScope nsMW ["self", "e", "names"] (defScope s_Machine_worth) := ⟨rfl, rfl, rfl, by decide +kernel, rfl, by decide +kernel, by decide +kernel⟩
theorem ok_mworth {f : Addr} {fd : FuncData} (F : Fun K "worth" "Machine.worth" s_Machine_worth f fd) (C : Cst K w mg dF dK dL dB) (cM : McC K mg CM CF) (GP : Dfn P w K mg base "parts_of" 1 ["e"] (spParts K)) (GF : CDfn P w K mg base "Function" CF 1 ["self", "e", "bound"] (spFunctionInit CF)) :
    FnOk P w K mg base CX0 3 f fd ["self", "e", "names"] (spMWorth K CF CM) := by
  refine F.ok sc_mworth (fun vs H Q E h => ?_) (fun cdv A outer s H vs Q E hr h => ?_)
  · obtain ⟨M, W, L, dx, nd, st, st', wv, lv, ev, e, env, rfl, _⟩ := h
    rfl
  · obtain ⟨M, W, L, dx, nd, st, st', wv, lv, ev, e, env, rfl, mc, hd, hok, hen, hm, k⟩ := h
    have hr1 : Room 1 _ := hr.mono (by decide)
    refine ⟨_, (pss_cons (ps_par (by rfl) sc_mworth.nd (i := 3) (j := 4) rfl rfl (by decide) rfl rfl (pa_cons (pe_ix ix_tup (pv 1) pe_int (fun _ _ => rfl)) (pa_cons (pe_callD GP hr1 (by rfl) (pa_cons (pv 1) (pa_nil))) (pa_nil))) (by rfl)) (pss_one (ps_if (pt_cmpR op_eq (pv 3) pe_str (nomark _)) (pss_one (ps_expr (pe_bm PySem.F.plainAttrs_list PySem.F.slot_list_append PySem.F.type_list_append mt_append (pe_fld (pv 0) rfl) (pa_cons (pe_ix ix_tup (pv 1) pe_int (fun _ _ => rfl)) (pa_nil)))))
      (pss_one (ps_if (pt_cmpR op_eq (pv 3) pe_str (nomark _)) (pss_one (ps_expr (pe_bm PySem.F.plainAttrs_list PySem.F.slot_list_append PySem.F.type_list_append mt_append (pe_fld (pv 0) rfl) (pa_cons (pe_dget (hu_of hr) (pv 2) (pe_ix ix_tup (pv 1) pe_int (fun _ _ => rfl)) (fun _ _ => rfl)) (pa_nil)))))
      (pss_one (ps_if (pt_cmpR op_in_seq (pv 3) (pe_tup (pa_cons (pe_str) (pa_cons (pe_str) (pa_nil)))) (by rfl)) (pss_one (ps_expr (pe_bm PySem.F.plainAttrs_list PySem.F.slot_list_append PySem.F.type_list_append mt_append (pe_fld (pv 0) rfl) (pa_cons (pe_makeD GF hr (by rfl) (pa_cons (pv 1) (pa_cons (pv 2) (pa_nil)))) (pa_nil)))))
      (pss_one (ps_if (pt_cmpR op_eq (pv 3) pe_str (nomark _)) (pss_one (ps_expr (pe_bm PySem.F.plainAttrs_list PySem.F.slot_list_extend PySem.F.type_list_extend mt_extend (pe_fld (pv 0) rfl) (pa_cons (pe_lst (pa_cons (pe_tup (pa_cons (pe_str) (pa_cons (pv 1) (pa_cons (pv 2) (pa_nil))))) (pa_cons (pe_tup (pa_cons (pe_str) (pa_cons (pe_ix ix_list (pv 4) pe_int (fun _ _ => rfl)) (pa_cons (pv 2) (pa_nil))))) (pa_nil)))) (pa_nil)))))
      (pss_one (ps_if (pt_cmpR op_eq (pv 3) pe_str (nomark _)) (pss_one (ps_expr (pe_bm PySem.F.plainAttrs_list PySem.F.slot_list_extend PySem.F.type_list_extend mt_extend (pe_fld (pv 0) rfl) (pa_cons (pe_lst (pa_cons (pe_tup (pa_cons (pe_str) (pa_cons (pv 1) (pa_cons (pv 2) (pa_nil))))) (pa_cons (pe_tup (pa_cons (pe_str) (pa_cons (pe_ix ix_list (pv 4) pe_int (fun _ _ => rfl)) (pa_cons (pv 2) (pa_nil))))) (pa_nil)))) (pa_nil)))))
      (pss_one (ps_if (pt_cmpR op_eq (pv 3) pe_str (nomark _)) (pss_one (ps_expr (pe_bm PySem.F.plainAttrs_list PySem.F.slot_list_extend PySem.F.type_list_extend mt_extend (pe_fld (pv 0) rfl) (pa_cons (pe_lst (pa_cons (pe_tup (pa_cons (pe_str) (pa_nil))) (pa_cons (pe_tup (pa_cons (pe_str) (pa_cons (pe_ix ix_list (pv 4) pe_int (fun _ _ => rfl)) (pa_cons (pv 2) (pa_cons (pe_int) (pa_nil)))))) (pa_nil)))) (pa_nil)))))
      (pss_one (ps_if (pt_cmpR op_eq (pv 3) pe_str (nomark _)) (pss_one (ps_expr (pe_bm PySem.F.plainAttrs_list PySem.F.slot_list_extend PySem.F.type_list_extend mt_extend (pe_fld (pv 0) rfl) (pa_cons (pe_lst (pa_cons (pe_tup (pa_cons (pe_str) (pa_nil))) (pa_cons (pe_tup (pa_cons (pe_str) (pa_cons (pe_ix ix_list (pv 4) pe_int (fun _ _ => rfl)) (pa_cons (pv 2) (pa_nil))))) (pa_nil)))) (pa_nil)))))
      (pss_cons (ps_expr (pe_bm PySem.F.plainAttrs_list PySem.F.slot_list_append PySem.F.type_list_append mt_append (pe_fld (pv 0) rfl) (pa_cons (pe_tup (pa_cons (pe_str) (pa_cons (pv 3) (pa_nil)))) (pa_nil)))) (pss_one (ps_expr (pe_bm PySem.F.plainAttrs_list PySem.F.slot_list_extend PySem.F.type_list_extend mt_extend (pe_fld (pv 0) rfl) (pa_cons (pe_lc (own := [("part", 5)]) (g := gName 5) (tt := tYes) (te := tTup (tCons (tC (.str "worth")) (tCons (tVar 5) (tCons (tVar 2) tNil)))) rfl sc_mworth.nd
          (pi_list (pe_revL (pv 4))) (blkOk_by (N := nsMW) (sc := defScope s_Machine_worth) (by decide +kernel)) (fun _ _ _ _ _ => pg_name (i := 5) sc_mworth.nd rfl (Or.inl rfl)) (fun _ _ _ _ _ => pts_nil) (fun _ _ _ _ _ => pe_tup (pa_cons (pe_str) (pa_cons (pv 5) (pa_cons (pv 2) (pa_nil)))))) (pa_nil))))))))))))))))))))), ?_⟩
    have n := cM.ne
    obtain ⟨a, kvs0, evs, rfl, hn⟩ := node_of hd
    have hv := hn.v hok
    have hsq := hv.sq
    obtain ⟨kvs, hnd, hea⟩ := hen
    unfold mWorth at hm
    split at hm
    rotate_left
    · cases hm
    rename_i hb
    refine ⟨_, rfl, _, _, _, _, rfl, rfl, hsq, at_of (j := 0) rfl rfl, _, rfl, e.w, a, _, kvs0, evs, rfl, hv, fun H1 pp s1 npp hpp => ?_⟩
    refine ⟨_, _, rfl, ?_⟩
    have mc1 := mc.same n s1
    have hsq1 := Same.seqT s1 hsq
    have hnd1 := s1 _ _ hnd
    have hea1 : EnvAt K CF H1 kvs env := EnvAt.ms n (MSm.of s1) hea
    have hd1 : Dp K H1 (.ref a) e.d := Dp.same s1 _ _ hd
    have hpx : Paired (fun v (x : Ex) => Dp K H1 v x.d) evs e.es := dl_paired (DpAll.same s1 _ _ hn.es)
    have hoks := Ex.okS hok
    have hll : lv.length ≤ 100000 := by rw [mc.ll]; exact hb.2
    have hlw : wv.length ≤ 100000 := by rw [mc.lw]; exact hb.1
    have finT : ∀ (H3 : Hp) (z : V) (tz : Th), Same H1 H3 → ThAt K CF H3 z tz → st' = { st with things := tz :: st.things } → rAppend (.ref L) [z] H3 (fun v H => Q .non H) := by
      intro H3 z tz s3 hz e
      have mc3 := mc1.same n s3
      refine ⟨L, lv, z, rfl, rfl, mc3.l, Nat.lt_of_le_of_lt hll (by decide), ?_⟩
      subst e
      exact k _ _ _ ((Kp.of (s1.trans s3)).trans Kp.updL) (mc3.pushT n hz)
    have finW : ∀ (H3 : Hp) (b : Addr) (zs : List V) (tks : List Tk), Same H1 H3 → H3 b = some (.lst zs) → Paired (TkAt K CF W L H3) zs.reverse tks → zs.length ≤ 1000 → st' = { st with work := tks ++ st.work } → rExtend (.ref W) [.ref b] H3 (fun v H => Q .non H) := by
      intro H3 b zs tks s3 hb' hz hl e
      have mc3 := mc1.same n s3
      refine ⟨W, b, wv, zs, rfl, rfl, mc3.w, hb', Nat.le_trans (show wv.length + zs.length ≤ 200000 by omega) (by decide), ?_⟩
      subst e
      exact k _ _ _ ((Kp.of (s1.trans s3)).trans Kp.updW) (mc3.pushWs n hz)
    -- num
    refine ⟨_, rfl, rfl, _, rfl, ite2 (fun hc => ?_) (fun hc => ?_)⟩
    · rw [if_pos (tst (b := .num) hc)] at hm
      split at hm
      · rename_i x hx
        cases hm
        rw [hx] at hsq1
        exact ⟨_, rfl, M, CM, dx, _, _, rfl, mc1.m, cM.cl, cM.nt, mF_things, .inl ⟨rfl, _, SqL.of mc1.l⟩, _, rfl, _, _, _, _, rfl, rfl, hsq1, at_of (j := 1) rfl rfl, finT H1 _ _ (Same.refl _) (.int x) rfl⟩
      · cases hm
    rw [if_neg (tstN (b := .num) hc)] at hm
    -- name
    refine ⟨_, rfl, rfl, _, rfl, ite2 (fun hc => ?_) (fun hc => ?_)⟩
    · rw [if_pos (tst (b := .name) hc)] at hm
      split at hm
      · rename_i x hx
        rw [hx] at hsq1
        cases hl : look env x with
        | none => rw [hl] at hm; cases hm
        | some t =>
          rw [hl] at hm
          cases hm
          obtain ⟨u, hu, hut⟩ := hea1.to.look hl
          have hD := DGet.k (k := Sum.inl x) hnd1
          rw [hu] at hD
          exact ⟨_, rfl, M, CM, dx, _, _, rfl, mc1.m, cM.cl, cM.nt, mF_things, .inl ⟨rfl, _, SqL.of mc1.l⟩, _, rfl, _, rfl, _, _, _, _, rfl, rfl, hsq1, at_of (j := 1) rfl rfl, nd, _, rfl, hD, finT H1 _ _ (Same.refl _) hut rfl⟩
      · cases hm
    rw [if_neg (tstN (b := .name) hc)] at hm
    -- fun, rec
    have hin2 : inV (V.str e.w.s) [.str "fun", .str "rec"] = decide (e.w = .fn ∨ e.w = .rc) := by cases e.w <;> decide +kernel
    refine ⟨_, rfl, by show 2 ≤ sizeLine; decide, fun t0 ht0 => ?_⟩
    have s0 := Same.new (o := .tup [.str ("fun" : Str), .str ("rec" : Str)]) ht0
    have ht00 : upd H1 t0 (.tup [.str ("fun" : Str), .str ("rec" : Str)]) t0 = some (.tup [.str ("fun" : Str), .str ("rec" : Str)]) := upd_same
    generalize upd H1 t0 (.tup [.str ("fun" : Str), .str ("rec" : Str)]) = H2 at s0 ht00
    have mc2 := mc1.same n s0
    have hnd2 := s0 _ _ hnd1
    have hpp2 := s0 _ _ hpp
    have hea2 : EnvAt K CF H2 kvs env := EnvAt.ms n (MSm.of s0) hea1
    have hd2 : Dp K H2 (.ref a) e.d := Dp.same s0 _ _ hd1
    have hpx2 : Paired (fun v (x : Ex) => Dp K H2 v x.d) evs e.es := Paired.imp2 (fun _ _ h => Dp.same s0 _ _ h) hpx
    have twoTasks : ∀ (w1 : Str) (tk : Tk) (p : Ex) (r : List Ex), e.es = p :: r → (∀ (H3 : Hp) (t : Addr), Same H2 H3 → H3 t = some (.tup [.str w1, .ref a, .ref nd]) → TkAt K CF W L H3 (.ref t) tk) → st' = { st with work := .worth p env :: tk :: st.work } →
        (tBM K "list" rExtend (tFld K (tVar 0) "work") (tCons (tLst (tCons (tTup (tCons (tC (.str w1)) (tCons (tVar 1) (tCons (tVar 2) tNil)))) (tCons (tTup (tCons (tC (.str "worth")) (tCons (tOp (rIxL K) (tVar 4) (tC (.int 0))) (tCons (tVar 2) tNil)))) tNil))) tNil))
          [some (.ref M), some (.ref a), some (.ref nd), some (.str e.w.s), some (.ref pp), none] H2 (fun v H => Q .non H) := by
      intro w1 tk p r hes htk hst
      rw [hes] at hpx2
      cases hpx2 with
      | cons hp0 hpr =>
        rename_i v0 vr
        refine ⟨_, rfl, M, CM, dx, _, _, rfl, mc2.m, cM.cl, cM.nw, mF_work, .inl ⟨rfl, _, SqL.of mc2.w⟩, ?_⟩
        refine ⟨_, rfl, _, rfl, by show 3 ≤ sizeLine; decide, fun t1 ht1 => ?_⟩
        have s2 := Same.new (o := .tup [.str w1, .ref a, .ref nd]) ht1
        refine ⟨_, rfl, pp, _, _, v0, rfl, rfl, SqL.of (s2 _ _ hpp2), at_of (j := 0) rfl rfl, _, rfl, by show 3 ≤ sizeLine; decide, fun t2 ht2 => ?_⟩
        have s3 := Same.new (o := .tup [.str ("worth" : Str), v0, .ref nd]) ht2
        refine ⟨by show 2 ≤ sizeLine; decide, fun b hb3 => ?_⟩
        have s4 := Same.new (o := .lst [.ref t1, .ref t2]) hb3
        have s24 := s2.trans (s3.trans s4)
        refine finW _ b _ [.worth p env, tk] (s0.trans s24) upd_same (.cons ?_ (.cons ?_ .nil)) (by show 2 ≤ 1000; decide) hst
        · exact ⟨t2, v0, nd, rfl, SqT.of (s4 _ _ upd_same), Dp.same s24 _ _ hp0, hoks p (by rw [hes]; exact List.mem_cons_self), kvs, s24 _ _ hnd2, EnvAt.ms n (MSm.of s24) hea2⟩
        · exact htk _ t1 s24 (s4 _ _ (s3 _ _ upd_same))
    have oneTask : ∀ (w1 : Str) (tk : Tk) (p : Ex) (r : List Ex), e.es = p :: r → (∀ (H3 : Hp) (t : Addr), H3 t = some (.tup [.str w1]) → TkAt K CF W L H3 (.ref t) tk) → st' = { st with work := .worth p env :: tk :: st.work } →
        (tBM K "list" rExtend (tFld K (tVar 0) "work") (tCons (tLst (tCons (tTup (tCons (tC (.str w1)) tNil)) (tCons (tTup (tCons (tC (.str "worth")) (tCons (tOp (rIxL K) (tVar 4) (tC (.int 0))) (tCons (tVar 2) tNil)))) tNil))) tNil))
          [some (.ref M), some (.ref a), some (.ref nd), some (.str e.w.s), some (.ref pp), none] H2 (fun v H => Q .non H) := by
      intro w1 tk p r hes htk hst
      rw [hes] at hpx2
      cases hpx2 with
      | cons hp0 hpr =>
        rename_i v0 vr
        refine ⟨_, rfl, M, CM, dx, _, _, rfl, mc2.m, cM.cl, cM.nw, mF_work, .inl ⟨rfl, _, SqL.of mc2.w⟩, ?_⟩
        refine ⟨by show 1 ≤ sizeLine; decide, fun t1 ht1 => ?_⟩
        have s2 := Same.new (o := .tup [.str w1]) ht1
        refine ⟨_, rfl, pp, _, _, v0, rfl, rfl, SqL.of (s2 _ _ hpp2), at_of (j := 0) rfl rfl, _, rfl, by show 3 ≤ sizeLine; decide, fun t2 ht2 => ?_⟩
        have s3 := Same.new (o := .tup [.str ("worth" : Str), v0, .ref nd]) ht2
        refine ⟨by show 2 ≤ sizeLine; decide, fun b hb3 => ?_⟩
        have s4 := Same.new (o := .lst [.ref t1, .ref t2]) hb3
        have s24 := s2.trans (s3.trans s4)
        refine finW _ b _ [.worth p env, tk] (s0.trans s24) upd_same (.cons ?_ (.cons ?_ .nil)) (by show 2 ≤ 1000; decide) hst
        · exact ⟨t2, v0, nd, rfl, SqT.of (s4 _ _ upd_same), Dp.same s24 _ _ hp0, hoks p (by rw [hes]; exact List.mem_cons_self), kvs, s24 _ _ hnd2, EnvAt.ms n (MSm.of s24) hea2⟩
        · exact htk _ t1 (s4 _ _ (s3 _ _ upd_same))
    refine ⟨_, _, rfl, .inr (SqT.of ht00), rfl, rfl, _, rfl, ?_⟩
    rw [if_neg Bool.false_ne_true, hin2]
    refine ite2 (fun hc => ?_) (fun hc => ?_)
    · rw [if_pos (of_decide_eq_true hc)] at hm
      cases hm
      refine ⟨_, rfl, M, CM, dx, _, _, rfl, mc2.m, cM.cl, cM.nt, mF_things, .inl ⟨rfl, _, SqL.of mc2.l⟩, ?_⟩
      refine ⟨_, rfl, _, rfl, ?_⟩
      intro x dx' nx nd' ne
      refine ⟨x, dx', .ref a, .ref nd, rfl, upd_same, fun H' keep hx => ⟨rfl, ?_⟩⟩
      have sm := Same.made nx nd' keep
      exact finT H' _ _ (s0.trans sm) (.fn hx (Dp.same sm _ _ hd2) hok (sm _ _ hnd2) (EnvAt.ms n (MSm.of sm) hea2)) rfl
    rw [if_neg (fun h => hc (decide_eq_true h))] at hm
    -- let
    refine ⟨_, rfl, rfl, _, rfl, ite2 (fun hc => ?_) (fun hc => ?_)⟩
    · rw [if_pos (tst (b := .lt) hc)] at hm
      split at hm
      · rename_i p r hes
        cases hm
        exact twoTasks "bind" (.bind e env) p r hes (fun H3 t s3 ht => ⟨t, .ref a, nd, rfl, SqT.of ht, Dp.same s3 _ _ hd2, hok, kvs, s3 _ _ hnd2, EnvAt.ms n (MSm.of s3) hea2⟩) rfl
      · cases hm
    rw [if_neg (tstN (b := .lt) hc)] at hm
    -- if
    refine ⟨_, rfl, rfl, _, rfl, ite2 (fun hc => ?_) (fun hc => ?_)⟩
    · rw [if_pos (tst (b := .ite) hc)] at hm
      split at hm
      · rename_i p r hes
        cases hm
        exact twoTasks "choose" (.choose e env) p r hes (fun H3 t s3 ht => ⟨t, .ref a, nd, rfl, SqT.of ht, Dp.same s3 _ _ hd2, hok, kvs, s3 _ _ hnd2, EnvAt.ms n (MSm.of s3) hea2⟩) rfl
      · cases hm
    rw [if_neg (tstN (b := .ite) hc)] at hm
    -- quote
    refine ⟨_, rfl, rfl, _, rfl, ite2 (fun hc => ?_) (fun hc => ?_)⟩
    · rw [if_pos (tst (b := .quote) hc)] at hm
      split at hm
      · rename_i p r hes
        cases hm
        rw [hes] at hpx2
        cases hpx2 with
        | cons hp0 hpr =>
          rename_i v0 vr
          refine ⟨_, rfl, M, CM, dx, _, _, rfl, mc2.m, cM.cl, cM.nw, mF_work, .inl ⟨rfl, _, SqL.of mc2.w⟩, ?_⟩
          refine ⟨by show 1 ≤ sizeLine; decide, fun t1 ht1 => ?_⟩
          have s2 := Same.new (o := .tup [.str ("shut" : Str)]) ht1
          refine ⟨_, rfl, pp, _, _, v0, rfl, rfl, SqL.of (s2 _ _ hpp2), at_of (j := 0) rfl rfl, _, rfl, by show 4 ≤ sizeLine; decide, fun t2 ht2 => ?_⟩
          have s3 := Same.new (o := .tup [.str ("code" : Str), v0, .ref nd, .int 1]) ht2
          refine ⟨by show 2 ≤ sizeLine; decide, fun b hb3 => ?_⟩
          have s4 := Same.new (o := .lst [.ref t1, .ref t2]) hb3
          have s24 := s2.trans (s3.trans s4)
          refine finW _ b _ [.code p env 1, .shut] (s0.trans s24) upd_same (.cons ?_ (.cons ?_ .nil)) (by show 2 ≤ 1000; decide) rfl
          · exact ⟨t2, v0, nd, rfl, SqT.of (s4 _ _ upd_same), Dp.same s24 _ _ hp0, hoks p (by rw [hes]; exact List.mem_cons_self), kvs, s24 _ _ hnd2, EnvAt.ms n (MSm.of s24) hea2⟩
          · exact ⟨t1, rfl, SqT.of (s4 _ _ (s3 _ _ upd_same))⟩
      · cases hm
    rw [if_neg (tstN (b := .quote) hc)] at hm
    -- run
    refine ⟨_, rfl, rfl, _, rfl, ite2 (fun hc => ?_) (fun hc => ?_)⟩
    · rw [if_pos (tst (b := .run) hc)] at hm
      split at hm
      · rename_i p r hes
        cases hm
        exact oneTask "open" .opn p r hes (fun H3 t ht => ⟨t, rfl, SqT.of ht⟩) rfl
      · cases hm
    rw [if_neg (tstN (b := .run) hc)] at hm
    cases hm
    -- the rest
    refine ⟨_, rfl, M, CM, dx, _, _, rfl, mc2.m, cM.cl, cM.nw, mF_work, .inl ⟨rfl, _, SqL.of mc2.w⟩, ?_⟩
    refine ⟨_, rfl, by show 2 ≤ sizeLine; decide, fun t1 ht1 => ?_⟩
    have s2 := Same.new (o := .tup [.str ("done" : Str), .str e.w.s]) ht1
    have ht11 : upd H2 t1 (.tup [.str ("done" : Str), .str e.w.s]) t1 = some (.tup [.str ("done" : Str), .str e.w.s]) := upd_same
    generalize upd H2 t1 (.tup [.str ("done" : Str), .str e.w.s]) = H3 at s2 ht11
    have mc3 := mc2.same n s2
    refine ⟨W, wv, _, rfl, rfl, mc3.w, Nat.lt_of_le_of_lt hlw (by decide), ?_⟩
    have mc4 := mc3.pushW n (v := .ref t1) (t := .done e.w) ⟨t1, rfl, SqT.of ht11⟩
    have ms4 : MSm CM H3 (upd H3 W (.lst (wv ++ [.ref t1]))) := MSm.updL mc3.w
    have kp4 : Kp M W L H3 (upd H3 W (.lst (wv ++ [.ref t1]))) := Kp.updW
    generalize upd H3 W (.lst (wv ++ [.ref t1])) = H4 at mc4 ms4 kp4
    have ms24 : MSm CM H2 H4 := (MSm.of s2).trans ms4
    have hppW : pp ≠ W := fun z => by rw [z, mc.w] at npp; cases npp
    have hppL : pp ≠ L := fun z => by rw [z, mc.l] at npp; cases npp
    have hppM : pp ≠ M := fun z => by rw [z, mc.m] at npp; cases npp
    have hpp4 : H4 pp = some (.lst evs) := kp4 _ _ (s2 _ _ hpp2) hppM hppW hppL
    have hpx4 : Paired (fun v (x : Ex) => Dp K H4 v x.d) evs.reverse e.es.reverse := Paired.rev (Paired.imp2 (fun _ _ h => Dp.tsame ms24.tsame _ _ (Ex.flat _) h) hpx2)
    have hnd4 : H4 nd = some (.dK kvs) := ms24 _ _ hnd2 (fun _ z => nomatch z) (fun _ _ z => nomatch z)
    have hea4 : EnvAt K CF H4 kvs env := EnvAt.ms n ms24 hea2
    have lev : evs.length = e.es.length := Paired.length hpx
    have lev3 : evs.length ≤ 3 := by
      rw [show evs.length = e.w.ar.2.2 from congrArg (·.2.2) hv.ar]
      cases e.w <;> decide
    refine ⟨_, rfl, M, CM, dx, _, _, rfl, mc4.m, cM.cl, cM.nw, mF_work, .inl ⟨rfl, _, SqL.of mc4.w⟩, ?_⟩
    refine ⟨_, rfl, pp, evs, rfl, SqL.of hpp4, fun rp hrp => ?_⟩
    have s5 := Same.new (o := .lst evs.reverse) hrp
    have hrp5 : upd H4 rp (.lst evs.reverse) rp = some (.lst evs.reverse) := upd_same
    generalize upd H4 rp (.lst evs.reverse) = H5 at s5 hrp5
    refine ⟨rp, rfl, ⟨_, SqL.of hrp5⟩, fun D hD => ?_⟩
    refine lc_ex (walk_list (K := K) (a := rp) (xs := evs.reverse)) (Nat.lt_of_le_of_lt (show _ ≤ 1000 by rw [List.length_reverse]; omega) (by decide)) (fun i acc H' => Same H5 H' ∧ Paired (TkAt K CF W L H') acc ((e.es.reverse.take i).map fun p => Tk.worth p env))
      ⟨Same.new hD, .nil⟩ (fun i acc H' r _ => SqL.of (r.1 _ _ hrp5)) ?_ ?_ gName_mono
    · rintro i acc x H0 H' Q2 hi hacc ⟨s6, hpa⟩ hl9 ⟨rfl, hx⟩ k2
      obtain ⟨p, hp, hdx⟩ := Paired.at hpx4 hx
      refine ⟨rfl, _, rfl, _, rfl, by show 3 ≤ sizeLine; decide, fun t ht => ?_⟩
      have s7 := Same.new (o := .tup [.str ("worth" : Str), x, .ref nd]) ht
      refine k2 _ _ (s7 _ _ hl9) ⟨Same.over (s6.trans s7) hD, ?_⟩
      have hDl := s7 _ _ hl9
      have s57 := s5.trans (s6.trans s7)
      have msD : MSm CM (upd H' t (.tup [.str ("worth" : Str), x, .ref nd])) (upd (upd H' t (.tup [.str ("worth" : Str), x, .ref nd])) D (.lst (acc ++ [.ref t]))) := MSm.updL hDl
      have keepW : ∀ b l, (upd H' t (.tup [.str ("worth" : Str), x, .ref nd])) b = some (.lst l) → b ≠ D → (upd (upd H' t (.tup [.str ("worth" : Str), x, .ref nd])) D (.lst (acc ++ [.ref t]))) b = some (.lst l) := fun b l h nb => by rw [upd_ne nb]; exact h
      rw [List.take_succ, hp, List.map_append]
      have okp : p.ok = true := hoks p (List.mem_reverse.mp (List.mem_of_getElem? hp))
      have step : ∀ {v : V} {q : Ex}, TkAt K CF W L H' v (.worth q env) → TkAt K CF W L (upd (upd H' t (.tup [.str ("worth" : Str), x, .ref nd])) D (.lst (acc ++ [.ref t]))) v (.worth q env) := by
        rintro v q ⟨tt, ev, nd', rfl, q1, q2, q3, q4⟩
        have ms : MSm CM H' _ := (MSm.of s7).trans msD
        exact ⟨tt, ev, nd', rfl, ms.tsame.seqT q1, Dp.tsame ms.tsame _ _ (Ex.flat _) q2, q3, q4.ms n ms⟩
      refine Paired.app (Paired.mapR (fun v q h => step h) hpa) (.cons ?_ .nil)
      have msA : MSm CM H4 _ := (MSm.of s57).trans msD
      exact ⟨t, x, nd, rfl, msD.tsame.seqT (SqT.of upd_same), Dp.tsame msA.tsame _ _ (Ex.flat _) hdx, okp, kvs, msA _ _ hnd4 (fun _ z => nomatch z) (fun _ _ z => nomatch z), EnvAt.ms n msA hea4⟩
    · rintro acc H' ⟨s6, hpa⟩ hl9 hacc
      have s46 := s5.trans s6
      have mc6 := mc4.same n s46
      rw [List.take_of_length_le (by rw [List.length_reverse, List.length_reverse]; omega)] at hpa
      refine ⟨W, D, _, acc, rfl, rfl, mc6.w, hl9, ?_, ?_⟩
      · rw [List.length_append, hacc, List.length_reverse]
        exact Nat.le_trans (show _ ≤ 200000 by simp only [List.length_cons, List.length_nil]; omega) (by decide)
      · have hpa' := Paired.rev hpa
        rw [← List.map_reverse, List.reverse_reverse] at hpa'
        have := mc6.pushWs n hpa'
        exact k _ _ _ ((Kp.of (s1.trans (s0.trans s2))).trans (kp4.trans ((Kp.of s46).trans Kp.updW))) this
end
end Lw
set_option Elab.async false
set_option linter.all false
set_option maxRecDepth 100000
set_option maxHeartbeats 4000000
namespace Lw
open PySem PySem.Spec PyProof.Rows L2 RZ
theorem cut_take (xs : List V) (t : Nat) : cutV xs none (some ((t : Nat) : Int)) = xs.take t := by
  unfold cutV
  rw [HT.sIx_nat, HT.sIx_none]
  by_cases h : t ≤ xs.length
  · rw [Nat.min_eq_left h]
    simp
  · rw [Nat.min_eq_right (by omega), List.take_of_length_le (Nat.le_of_not_le h)]
    simp
theorem ite_share {c A B X : Prop} [Decidable c] (hr : ¬ X → B) (h1 : c → (¬ X → B) → A) (h2 : ¬ c → ¬ X) : if c then A else B := by
  by_cases h : c
  · rw [if_pos h]; exact h1 h hr
  · rw [if_neg h]; exact hr (h2 h)
theorem one_part {w : Wd} {ns kvs evs : List V} (h : (ns.length, kvs.length, evs.length) = w.ar) (hw : w = .now ∨ w = .carry) : ns = [] ∧ kvs = [] ∧ ∃ v, evs = [v] := by
  rcases hw with rfl | rfl <;> simp only [Wd.ar, Prod.mk.injEq] at h <;> exact ⟨len0 h.1, len0 h.2.1, len1 h.2.2⟩
theorem ints_paired {K : PySem.W.Frag} {CF : Addr} {H : Hp} : ∀ l : List Int, Paired (ThAt K CF H) (l.map V.int) (l.map Th.int)
  | [] => .nil
  | x :: r => .cons (.int x) (ints_paired r)
def laterK : List (Key × V) := [(Sum.inr "quote", .int 1), (Sum.inr "now", .int (-1)), (Sum.inr "carry", .int (-1))]
theorem laterK_w (w : Wd) : (valV (mergeK [] laterK) (Sum.inr w.s)).getD (.int 0) = .int w.later := by cases w <;> decide +kernel
def mCode (e : Ex) (env : En) (lv : Int) (st : Mc) : Option Mc :=
  if st.work.length ≤ 100000 ∧ st.things.length ≤ 100000 ∧ env.length ≤ 100000 then
    if e.w = .name then match e.ns with
      | [x] => match look env x with
        | some (.int k) => some { st with things := .code (.node .name [k] [] []) :: st.things }
        | _ => none
      | _ => none
    else if e.w = .now ∧ lv = 1 then match e.es with | p :: _ => some { st with work := .worth p env :: st.work } | [] => none
    else if e.w = .carry ∧ lv = 1 then match e.es with | p :: _ => some { st with work := .worth p env :: .laid :: st.work } | [] => none
    else
      let b := bindsI e.w e.ns
      let nm := nums st.met b.length
      let env2 := putAll env b (nm.map Th.int)
      let there := lv + e.w.later
      some { st with met := st.met + b.length,
                     work := (if e.w = .lt then (e.es.take 1).map (fun p => Tk.code p env there) else []) ++ ((e.es.drop (if e.w = .lt then 1 else 0)).map (fun p => Tk.code p env2 there) ++ .made e nm e.es.length :: st.work) }
  else none
def spMCode (K : PySem.W.Frag) (CF CM : Addr) : Sp := fun vs H Q _ => ∃ (M W L dx nd : Addr) (st st' : Mc) (wv lv : List V) (ev : V) (e : Ex) (env : En) (l : Int), vs = [.ref M, ev, .ref nd, .int l] ∧ McAt K CF CM M W L H st dx wv lv ∧ Dp K H ev e.d ∧ e.ok = true ∧ EnvD K CF H nd env ∧ mCode e env l st = some st' ∧ EndM K CF CM M W L H st' dx Q
section
variable {P : Program} {w : World} {K : PySem.W.Frag} {mg : Str → Option Value} {base : Heap} {dF dK dL dB CF CM : Addr}
abbrev nsCd : List Str := ["self", "e", "names", "level", "some", "k", "numbers", "inner", "there", "parts", "first", "part"]
theorem sc_mcode : FnScope nsCd ["self", "e", "names", "level"] (defScope s_Machine_code) := ⟨rfl, rfl, rfl, by decide +kernel, rfl, by decide +kernel, by decide +kernel⟩
theorem ok_mcode {f : Addr} {fd : FuncData} (F : Fun K "code" "Machine.code" s_Machine_code f fd) (C : Cst K w mg dF dK dL dB) (cM : McC K mg CM CF) (GP : Dfn P w K mg base "parts_of" 1 ["e"] (spParts K)) (GB : Dfn P w K mg base "binders_of" 1 ["e"] (spBinders K)) (GW : Dfn P w K mg base "with_names" 1 ["names", "some", "things"] (spWithNames K)) :
    FnOk P w K mg base CX0 2 f fd ["self", "e", "names", "level"] (spMCode K CF CM) := by
  refine F.ok sc_mcode (fun vs H Q E h => ?_) (fun cdv A outer s H vs Q E hr h => ?_)
  · obtain ⟨M, W, L, dx, nd, st, st', wv, lv, ev, e, env, l, rfl, _⟩ := h
    rfl
  · obtain ⟨M, W, L, dx, nd, st, st', wv, lv, ev, e, env, l, rfl, mc, hd, hok, hen, hm, k⟩ := h
    refine ⟨_, (pss_one (ps_if (pt_cmpR op_eq (pe_ix ix_tup (pv 1) pe_int (fun _ _ => rfl)) pe_str (nomark _)) (pss_one (ps_expr (pe_bm PySem.F.plainAttrs_list PySem.F.slot_list_append PySem.F.type_list_append mt_append (pe_fld (pv 0) rfl) (pa_cons (pe_tup (pa_cons (pe_str) (pa_cons (pe_dget (hu_of hr) (pv 2) (pe_ix ix_tup (pv 1) pe_int (fun _ _ => rfl)) (fun _ _ => rfl)) (pa_nil)))) (pa_nil)))))
      (pss_one (ps_if (PW.pt (pw_and (pt_cmpR op_eq (pe_ix ix_tup (pv 1) pe_int (fun _ _ => rfl)) pe_str (nomark _)) (pw_and1 (pt_cmpR op_eq (pv 3) pe_int (nomark _))))) (pss_one (ps_expr (pe_bm PySem.F.plainAttrs_list PySem.F.slot_list_append PySem.F.type_list_append mt_append (pe_fld (pv 0) rfl) (pa_cons (pe_tup (pa_cons (pe_str) (pa_cons (pe_ix ix_tup (pv 1) pe_int (fun _ _ => rfl)) (pa_cons (pv 2) (pa_nil))))) (pa_nil)))))
      (pss_one (ps_if (PW.pt (pw_and (pt_cmpR op_eq (pe_ix ix_tup (pv 1) pe_int (fun _ _ => rfl)) pe_str (nomark _)) (pw_and1 (pt_cmpR op_eq (pv 3) pe_int (nomark _))))) (pss_one (ps_expr (pe_bm PySem.F.plainAttrs_list PySem.F.slot_list_extend PySem.F.type_list_extend mt_extend (pe_fld (pv 0) rfl) (pa_cons (pe_lst (pa_cons (pe_tup (pa_cons (pe_str) (pa_nil))) (pa_cons (pe_tup (pa_cons (pe_str) (pa_cons (pe_ix ix_tup (pv 1) pe_int (fun _ _ => rfl)) (pa_cons (pv 2) (pa_nil))))) (pa_nil)))) (pa_nil)))))
      (pss_cons (ps_set (i := 4) sc_mcode.nd rfl (Or.inl rfl) (pe_callD GB hr (by rfl) (pa_cons (pv 1) (pa_nil)))) (pss_cons (ps_setLc (i := 6) (own := [("k", 5)]) (g := gName 5) (tt := tYes) (te := tOp (rI0 fun i j => .int (i + j)) (tFld K (tVar 0) "met") (tVar 5)) (by rfl) sc_mcode.nd rfl rfl (sw_true rfl rfl rfl (by decide +kernel)) (pi_range1 (by rfl) C.range (pa_cons (pe_callB call_len_seq (by rfl) C.len boot_len (pa_cons (pv 4) (pa_nil))) (pa_nil)))
          (blkOk_by (N := nsCd) (sc := defScope s_Machine_code) (by decide +kernel)) (fun _ _ _ _ _ => pg_name (i := 5) sc_mcode.nd rfl (Or.inl rfl)) (fun _ _ _ _ _ => pts_nil) (fun _ _ _ _ _ => pe_op op_add (pe_fld (pv 0) rfl) (pv 5))) (pss_cons (ps_fldaug (pv 0) (pe_callB call_len_seq (by rfl) C.len boot_len (pa_cons (pv 4) (pa_nil))) in_add) (pss_cons (ps_set (i := 7) sc_mcode.nd rfl (Or.inr rfl) (pe_callD GW hr (by rfl) (pa_cons (pv 2) (pa_cons (pv 4) (pa_cons (pv 6) (pa_nil)))))) (pss_cons (ps_set (i := 8) sc_mcode.nd rfl (Or.inr rfl) (pe_op op_add (pv 3) (pe_dget2 (hu_of hr) (pe_disp (pps_cons pe_str pe_int (pps_cons pe_str (pe_un un_neg pe_int) (pps_cons pe_str (pe_un un_neg pe_int) pps_nil))) (by rfl) (by rfl) (fun z => by cases z) (by decide)) (pe_ix ix_tup (pv 1) pe_int (fun _ _ => rfl)) pe_int ⟨rfl, rfl, rfl, rfl⟩))) (pss_cons (ps_set (i := 9) sc_mcode.nd rfl (Or.inl rfl) (pe_callD GP hr (by rfl) (pa_cons (pv 1) (pa_nil)))) (pss_cons (ps_expr (pe_bm PySem.F.plainAttrs_list PySem.F.slot_list_append PySem.F.type_list_append mt_append (pe_fld (pv 0) rfl) (pa_cons (pe_tup (pa_cons (pe_str) (pa_cons (pv 1) (pa_cons (pv 6) (pa_cons (pe_callB call_len_seq (by rfl) C.len boot_len (pa_cons (pv 9) (pa_nil))) (pa_nil)))))) (pa_nil)))) (pss_cons (ps_set (i := 10) sc_mcode.nd rfl (Or.inl rfl) (pe_ifExp (pt_cmpR op_eq (pe_ix ix_tup (pv 1) pe_int (fun _ _ => rfl)) pe_str (nomark _)) (pe_op op_sub (pe_callB call_len_seq (by rfl) C.len boot_len (pa_cons (pv 9) (pa_nil))) pe_int) (pe_callB call_len_seq (by rfl) C.len boot_len (pa_cons (pv 9) (pa_nil))))) (pss_cons (ps_expr (pe_bm PySem.F.plainAttrs_list PySem.F.slot_list_extend PySem.F.type_list_extend mt_extend (pe_fld (pv 0) rfl) (pa_cons (pe_lc (own := [("part", 11)]) (g := gName 11) (tt := tYes) (te := tTup (tCons (tC (.str "code")) (tCons (tVar 11) (tCons (tVar 7) (tCons (tVar 8) tNil))))) rfl sc_mcode.nd
          (pi_list (pe_slice sl_list (pe_revL (pv 9)) po_none (po_some (pv 10)))) (blkOk_by (N := nsCd) (sc := defScope s_Machine_code) (by decide +kernel)) (fun _ _ _ _ _ => pg_name (i := 11) sc_mcode.nd rfl (Or.inl rfl)) (fun _ _ _ _ _ => pts_nil) (fun _ _ _ _ _ => pe_tup (pa_cons (pe_str) (pa_cons (pv 11) (pa_cons (pv 7) (pa_cons (pv 8) (pa_nil))))))) (pa_nil)))) (pss_one (ps_if (pt_cmpR op_eq (pe_ix ix_tup (pv 1) pe_int (fun _ _ => rfl)) pe_str (nomark _)) (pss_one (ps_expr (pe_bm PySem.F.plainAttrs_list PySem.F.slot_list_append PySem.F.type_list_append mt_append (pe_fld (pv 0) rfl) (pa_cons (pe_tup (pa_cons (pe_str) (pa_cons (pe_ix ix_list (pv 9) pe_int (fun _ _ => rfl)) (pa_cons (pv 2) (pa_cons (pv 8) (pa_nil)))))) (pa_nil))))) pss_nil))))))))))))))))), ?_⟩
    have n := cM.ne
    obtain ⟨a, kvs0, evs, rfl, hn⟩ := node_of hd
    have hv := hn.v hok
    have hsq := hv.sq
    obtain ⟨kvs, hnd, hea⟩ := hen
    unfold mCode at hm
    split at hm
    rotate_left
    · cases hm
    rename_i hb
    have hpx : Paired (fun v (x : Ex) => Dp K H v x.d) evs e.es := dl_paired hn.es
    have hoks := Ex.okS hok
    have hll : lv.length ≤ 100000 := by rw [mc.ll]; exact hb.2.1
    have hlw : wv.length ≤ 100000 := by rw [mc.lw]; exact hb.1
    have lev : evs.length = e.es.length := Paired.length hpx
    have lev3 : evs.length ≤ 3 := by
      rw [show evs.length = e.w.ar.2.2 from congrArg (·.2.2) hv.ar]
      cases e.w <;> decide
    -- name
    refine ⟨_, rfl, _, _, _, _, rfl, rfl, hsq, at_of (j := 0) rfl rfl, rfl, _, rfl, ite2 (fun hc => ?_) (fun hc => ?_)⟩
    · rw [if_pos (tst (b := .name) hc)] at hm
      split at hm
      · rename_i x hx
        rw [hx] at hsq
        split at hm
        · rename_i i hl
          cases hm
          obtain ⟨u, hu, hut⟩ := hea.to.look hl
          cases hut
          have hD := DGet.k (k := Sum.inl x) hnd
          rw [hu] at hD
          refine ⟨_, rfl, M, CM, dx, _, _, rfl, mc.m, cM.cl, cM.nt, mF_things, .inl ⟨rfl, _, SqL.of mc.l⟩, _, rfl, _, rfl, _, _, _, _, rfl, rfl, hsq, at_of (j := 1) rfl rfl, nd, _, rfl, hD, by show 2 ≤ sizeLine; decide, fun t ht => ?_⟩
          have s1 := Same.new (o := .tup [.str ("name" : Str), .int i]) ht
          have mc1 := mc.same n s1
          refine ⟨L, lv, _, rfl, rfl, mc1.l, Nat.lt_of_le_of_lt hll (by decide), ?_⟩
          exact k _ _ _ ((Kp.of s1).trans Kp.updL) (mc1.pushT n (.code (.tup (SqT.of upd_same) (.cons (.str _) (.cons (.int _) .nil))) rfl))
        · cases hm
      · cases hm
    rw [if_neg (tstN (b := .name) hc)] at hm
    -- now
    refine ⟨_, rfl, _, _, _, _, rfl, rfl, hsq, at_of (j := 0) rfl rfl, rfl, _, rfl, ite_share (X := e.w = .now ∧ l = 1) (fun hc1 => ?_) (fun hc R => ⟨_, rfl, rfl, _, rfl, ite2 (fun h1 => ?_) (fun h1 => R fun h => h1 (decide_eq_true (congrArg V.int h.2)))⟩) (fun hc h => hc (by rw [h.1]; rfl))⟩
    rotate_left
    · have hw : e.w = .now := tst (b := .now) hc
      rw [if_pos ⟨hw, V.int.inj (of_decide_eq_true h1)⟩] at hm
      obtain ⟨e1, e2, v0, rfl⟩ := one_part hv.ar (.inl hw)
      rw [e1, e2] at hsq
      split at hm
      · rename_i p r hes
        cases hm
        rw [hes] at hpx
        cases hpx with
        | cons hp0 hpr =>
          refine ⟨_, rfl, M, CM, dx, _, _, rfl, mc.m, cM.cl, cM.nw, mF_work, .inl ⟨rfl, _, SqL.of mc.w⟩, _, rfl, _, _, _, _, rfl, rfl, hsq, at_of (j := 1) rfl rfl, _, rfl, by show 3 ≤ sizeLine; decide, fun t ht => ?_⟩
          have s1 := Same.new (o := .tup [.str ("worth" : Str), v0, .ref nd]) ht
          have mc1 := mc.same n s1
          refine ⟨W, wv, _, rfl, rfl, mc1.w, Nat.lt_of_le_of_lt hlw (by decide), ?_⟩
          exact k _ _ _ ((Kp.of s1).trans Kp.updW) (mc1.pushW n ⟨t, v0, nd, rfl, SqT.of upd_same, Dp.same s1 _ _ hp0, hoks p (by rw [hes]; exact List.mem_cons_self), kvs, s1 _ _ hnd, EnvAt.ms n (MSm.of s1) hea⟩)
      · cases hm
    rw [if_neg hc1] at hm
    -- carry
    refine ⟨_, rfl, _, _, _, _, rfl, rfl, hsq, at_of (j := 0) rfl rfl, rfl, _, rfl, ite_share (X := e.w = .carry ∧ l = 1) (fun hc2 => ?_) (fun hc R => ⟨_, rfl, rfl, _, rfl, ite2 (fun h1 => ?_) (fun h1 => R fun h => h1 (decide_eq_true (congrArg V.int h.2)))⟩) (fun hc h => hc (by rw [h.1]; rfl))⟩
    rotate_left
    · have hw : e.w = .carry := tst (b := .carry) hc
      rw [if_pos ⟨hw, V.int.inj (of_decide_eq_true h1)⟩] at hm
      obtain ⟨e1, e2, v0, rfl⟩ := one_part hv.ar (.inr hw)
      rw [e1, e2] at hsq
      split at hm
      · rename_i p r hes
        cases hm
        rw [hes] at hpx
        cases hpx with
        | cons hp0 hpr =>
          refine ⟨_, rfl, M, CM, dx, _, _, rfl, mc.m, cM.cl, cM.nw, mF_work, .inl ⟨rfl, _, SqL.of mc.w⟩, by show 1 ≤ sizeLine; decide, fun t1 ht1 => ?_⟩
          have s2 := Same.new (o := .tup [.str ("laid" : Str)]) ht1
          refine ⟨_, rfl, _, _, _, _, rfl, rfl, Same.seqT s2 hsq, at_of (j := 1) rfl rfl, _, rfl, by show 3 ≤ sizeLine; decide, fun t ht => ?_⟩
          have s3 := Same.new (o := .tup [.str ("worth" : Str), v0, .ref nd]) ht
          refine ⟨by show 2 ≤ sizeLine; decide, fun b hb3 => ?_⟩
          have s4 := Same.new (o := .lst [.ref t1, .ref t]) hb3
          have s1 := s2.trans (s3.trans s4)
          have mc1 := mc.same n s1
          refine ⟨W, b, wv, _, rfl, rfl, mc1.w, upd_same, Nat.le_trans (show wv.length + 2 ≤ 200000 by omega) (by decide), ?_⟩
          exact k _ _ _ ((Kp.of s1).trans Kp.updW) (mc1.pushWs n (ts := [.worth p env, .laid]) (.cons ⟨t, v0, nd, rfl, SqT.of (s4 _ _ upd_same), Dp.same s1 _ _ hp0, hoks p (by rw [hes]; exact List.mem_cons_self), kvs, s1 _ _ hnd, EnvAt.ms n (MSm.of s1) hea⟩ (.cons ⟨t1, rfl, SqT.of (s4 _ _ (s3 _ _ upd_same))⟩ .nil)))
      · cases hm
    rw [if_neg hc2] at hm
    dsimp only at hm
    cases hm
    have harI : (e.ns.length, kvs0.length, evs.length) = e.w.ar := by
      have := hv.ar
      rw [List.length_map] at this
      exact this
    have hbl := bindsI_len harI
    generalize hbs : bindsI e.w e.ns = bs at k hbl
    generalize hnm : nums st.met bs.length = nm at k
    have lnm : nm.length = bs.length := by rw [← hnm, nums_len]
    have lbs : (bs.map V.int).length = bs.length := List.length_map ..
    -- some, numbers
    refine ⟨_, rfl, e.w, a, _, kvs0, evs, rfl, hv, fun H1 p1 s1 np1 hp1 => ?_⟩
    rw [bindsI_v, hbs] at hp1
    have mc1 := mc.same n s1
    refine ⟨_, rfl, p1, _, rfl, .inr (SqT.of hp1), _, rfl, by rw [lbs]; omega, by rw [lbs]; omega, fun D hD => ?_⟩
    refine lc_gen (walk_range (lo := 0) (n := (bs.map V.int).length)) (nm.map V.int) (by rw [List.length_map, List.length_map, lnm]) (Nat.lt_of_le_of_lt (show (nm.map V.int).length ≤ 1000 by rw [List.length_map]; omega) (by decide)) (fun _ H' => Same H1 H') (Same.new hD) (fun _ _ _ => trivial) (fun i H' l r => Same.over r hD) ?_ ?_ gName_mono
    · rintro i x y H' H0 Q2 hi hy s2 hDl ⟨rfl, rfl⟩ k2
      have hi' : i < bs.length := by omega
      rw [← hnm, List.getElem?_map, nums_at hi'] at hy
      cases hy
      have mcx := mc1.same n s2
      refine ⟨rfl, _, rfl, M, CM, dx, _, _, rfl, mcx.m, cM.cl, cM.nm, mF_met, _, rfl, _, _, rfl, rfl, ?_⟩
      show Q2 (.int (((st.met : Nat) : Int) + (0 + (i : Int)))) _
      rw [show ((st.met : Nat) : Int) + (0 + (i : Int)) = ((st.met + i : Nat) : Int) by omega]
      exact k2 _ s2 hDl
    intro H2 s2 hD2
    have s12 := s1.trans s2
    have mc2 := mc.same n s12
    have nD : H D = none := s1.free hD
    have hT2 := SqT.of (K := K) (s2 _ _ hp1)
    -- met
    refine ⟨_, rfl, M, CM, dx, _, _, rfl, mc2.m, cM.cl, cM.nm, mF_met, _, rfl, p1, _, rfl, .inr hT2, _, _, rfl, rfl, dx, _, mc2.m, (by show 5 < 1000; decide), ?_⟩
    rw [mF_putmet, lbs, show ((st.met : Nat) : Int) + ((bs.length : Nat) : Int) = ((st.met + bs.length : Nat) : Int) by omega]
    have mc3 := mc2.setM n (l' := st.left) (m' := st.met + bs.length) (y' := st.why)
    have ms3 : MSm CM H2 (upd H2 M (.ins CM dx (mF st.left ((st.met + bs.length : Nat) : Int) W L st.why.s))) := MSm.updM mc2.m
    have kp3 : Kp M W L H2 (upd H2 M (.ins CM dx (mF st.left ((st.met + bs.length : Nat) : Int) W L st.why.s))) := Kp.updM
    generalize upd H2 M (.ins CM dx (mF st.left ((st.met + bs.length : Nat) : Int) W L st.why.s)) = H3 at mc3 ms3 kp3
    have kpA : Kp M W L H H3 := (Kp.of s12).trans kp3
    have msA : MSm CM H H3 := mc.msm kpA
    have hDM : D ≠ M := fun z => by rw [z, mc.m] at nD; cases nD
    have hDW : D ≠ W := fun z => by rw [z, mc.w] at nD; cases nD
    have hDL : D ≠ L := fun z => by rw [z, mc.l] at nD; cases nD
    have hD3 : H3 D = some (.lst (nm.map V.int)) := kp3 _ _ hD2 hDM hDW hDL
    have hT3 := ms3.tsame.seqT hT2
    have hnd3 : H3 nd = some (.dK kvs) := msA _ _ hnd (fun _ z => nomatch z) (fun _ _ z => nomatch z)
    have hea3 : EnvAt K CF H3 kvs env := EnvAt.ms n msA hea
    have lk : kvs.length = env.length := DictAt.length hea.to
    -- inner
    refine ⟨_, rfl, _, rfl, _, rfl, nd, p1, D, kvs, bs, nm.map V.int, rfl, hnd3, hT3, SqL.of hD3, by rw [List.length_map]; omega, by omega, fun H4 d s4 nd4 hd4 => ?_⟩
    have mc4 := mc3.same n s4
    have hea4 : EnvAt K CF H4 (putKs kvs bs (nm.map V.int)) (putAll env bs (nm.map Th.int)) := by
      refine EnvAt.of (DictAt.putKs (DictAt.mono hea3.to fun v x h => ThAt.ms n (MSm.of s4) h) ?_)
      exact ints_paired nm
    -- there
    refine ⟨_, rfl, fun pd hpd => ⟨_, rfl, _, rfl, upd_same, laterK, rfl, by show 3 ≤ 15; decide, ?_⟩⟩
    have s5 : Same H4 (upd (upd H4 pd (.dK [])) pd (.dK (mergeK [] laterK))) := Same.over (Same.new hpd) hpd
    have hpd5 : (upd (upd H4 pd (.dK [])) pd (.dK (mergeK [] laterK))) pd = some (.dK (mergeK [] laterK)) := upd_same
    generalize upd (upd H4 pd (.dK [])) pd (.dK (mergeK [] laterK)) = H5 at s5 hpd5
    have s35 := s4.trans s5
    have msB : MSm CM H H5 := msA.trans (MSm.of s35)
    refine ⟨pd, rfl, .inl ⟨_, .inl hpd5⟩, _, rfl, _, _, _, _, rfl, rfl, msB.tsame.seqT hsq, at_of (j := 0) rfl rfl, _, DGet.k (k := Sum.inr e.w.s) hpd5, _, _, rfl, laterK_w e.w, ?_⟩
    -- parts
    refine ⟨_, rfl, e.w, a, _, kvs0, evs, rfl, hv.tsame msB.tsame, fun H6 pp s6 npp hpp => ?_⟩
    have s36 := s35.trans s6
    have mc6 := mc3.same n s36
    have msC : MSm CM H H6 := msB.trans (MSm.of s6)
    have hD6 := s36 _ _ hD3
    have hd6 := (s5.trans s6) _ _ hd4
    have hea6 : EnvAt K CF H6 (putKs kvs bs (nm.map V.int)) (putAll env bs (nm.map Th.int)) := EnvAt.ms n (MSm.of (s5.trans s6)) hea4
    have hde6 : Dp K H6 (.ref a) e.d := Dp.tsame msC.tsame _ _ (Ex.flat _) hd
    have hpx6 : Paired (fun v (x : Ex) => Dp K H6 v x.d) evs e.es := Paired.imp2 (fun _ _ h => Dp.tsame msC.tsame _ _ (Ex.flat _) h) hpx
    have hnd6 := s36 _ _ hnd3
    have hea06 : EnvAt K CF H6 kvs env := EnvAt.ms n (MSm.of s36) hea3
    have hsq6 := msC.tsame.seqT hsq
    have kpC : Kp M W L H H6 := kpA.trans (Kp.of s36)
    have hpp5 : H5 pp = none := npp
    -- made
    refine ⟨_, rfl, M, CM, dx, _, _, rfl, mc6.m, cM.cl, cM.nw, mF_work, .inl ⟨rfl, _, SqL.of mc6.w⟩, _, rfl, _, rfl, _, rfl, pp, evs, rfl, .inl (SqL.of hpp), by show 4 ≤ sizeLine; decide, fun tm htm => ?_⟩
    have s7 := Same.new (o := .tup [.str ("made" : Str), .ref a, .ref D, .int ((evs.length : Nat) : Int)]) htm
    have htm7 : upd H6 tm (.tup [.str ("made" : Str), .ref a, .ref D, .int ((evs.length : Nat) : Int)]) tm = some (.tup [.str ("made" : Str), .ref a, .ref D, .int ((evs.length : Nat) : Int)]) := upd_same
    generalize upd H6 tm (.tup [.str ("made" : Str), .ref a, .ref D, .int ((evs.length : Nat) : Int)]) = H7 at s7 htm7
    have mc7 := mc6.same n s7
    refine ⟨W, wv, _, rfl, rfl, mc7.w, Nat.lt_of_le_of_lt hlw (by decide), ?_⟩
    have mc8 := mc7.pushW n (v := .ref tm) (t := .made e nm e.es.length) ⟨tm, .ref a, D, rfl, by rw [← lev]; exact SqT.of htm7, Dp.same s7 _ _ hde6, hok, hDW, hDL, s7 _ _ hD6⟩
    have ms8 : MSm CM H7 (upd H7 W (.lst (wv ++ [.ref tm]))) := MSm.updL mc7.w
    have kp8 : Kp M W L H7 (upd H7 W (.lst (wv ++ [.ref tm]))) := Kp.updW
    generalize upd H7 W (.lst (wv ++ [.ref tm])) = H8 at mc8 ms8 kp8
    have ms68 : MSm CM H6 H8 := (MSm.of s7).trans ms8
    have kp68 : Kp M W L H6 H8 := (Kp.of s7).trans kp8
    have mc5 := mc3.same n s35
    have hppM : pp ≠ M := fun z => by rw [z, mc5.m] at npp; cases npp
    have hppW : pp ≠ W := fun z => by rw [z, mc5.w] at npp; cases npp
    have hppL : pp ≠ L := fun z => by rw [z, mc5.l] at npp; cases npp
    have hpp8 : H8 pp = some (.lst evs) := kp68 _ _ hpp hppM hppW hppL
    have hsq8 := ms68.tsame.seqT hsq6
    have hnd8 : H8 nd = some (.dK kvs) := ms68 _ _ hnd6 (fun _ z => nomatch z) (fun _ _ z => nomatch z)
    have hd8 : H8 d = some (.dK (putKs kvs bs (nm.map V.int))) := ms68 _ _ hd6 (fun _ z => nomatch z) (fun _ _ z => nomatch z)
    have hea8 : EnvAt K CF H8 (putKs kvs bs (nm.map V.int)) (putAll env bs (nm.map Th.int)) := EnvAt.ms n ms68 hea6
    have hea08 : EnvAt K CF H8 kvs env := EnvAt.ms n ms68 hea06
    have hpx8 : Paired (fun v (x : Ex) => Dp K H8 v x.d) evs e.es := Paired.imp2 (fun _ _ h => Dp.tsame ms68.tsame _ _ (Ex.flat _) h) hpx6
    have hevs : e.w = .lt → ∃ v0 vr p0 r, evs = v0 :: vr ∧ e.es = p0 :: r := fun hw => by
      have h3 : evs.length = 2 := by
        rw [show evs.length = e.w.ar.2.2 from congrArg (·.2.2) hv.ar, hw]
        rfl
      obtain ⟨v0, v1, e1⟩ := len2 h3
      obtain ⟨p0, p1', e2⟩ := len2 (lev ▸ h3)
      exact ⟨v0, [v1], p0, [p1'], e1, e2⟩
    have rest : ∀ (t : Nat), t = evs.length - (if e.w = .lt then 1 else 0) →
        tSeq (tDrop (tBM K "list" rExtend (tFld K (tVar 0) "work") (tCons (tLc (iList K (tSl (rSlL K) (tRevL K (tVar 9)) tNoPart (tPart (tVar 10)))) (gName 11) tYes (tTup (tCons (tC (.str "code")) (tCons (tVar 11) (tCons (tVar 7) (tCons (tVar 8) tNil))))) [11]) tNil)))
          (tIfS (tTest (tOp rEq (tOp (rIxT K) (tVar 1) (tC (.int 0))) (tC (.str "let")))) (tDrop (tBM K "list" rAppend (tFld K (tVar 0) "work") (tCons (tTup (tCons (tC (.str "code")) (tCons (tOp (rIxL K) (tVar 9) (tC (.int 0))) (tCons (tVar 2) (tCons (tVar 8) tNil))))) tNil))) tNext)
          { nx := fun x H' => Q V.non H', rt := Q }
          [some (.ref M), some (.ref a), some (.ref nd), some (.int l), some (.ref p1), none, some (.ref D), some (.ref d), some (.int (l + e.w.later)), some (.ref pp), some (.int (t : Nat)), none] H8 := by
      intro t ht
      have hsub : e.es.length - t = (if e.w = .lt then 1 else 0) := by
        rw [ht, lev]
        by_cases h7 : e.w = .lt
        · obtain ⟨_, _, _, _, h8, h9⟩ := hevs h7
          rw [if_pos h7, h9]
          simp
        · rw [if_neg h7]
          omega
      refine ⟨_, rfl, M, CM, dx, _, _, rfl, mc8.m, cM.cl, cM.nw, mF_work, .inl ⟨rfl, _, SqL.of mc8.w⟩, ?_⟩
      refine ⟨_, rfl, pp, evs, rfl, SqL.of hpp8, fun rp hrp => ?_⟩
      have s9 := Same.new (o := .lst evs.reverse) hrp
      have hrp9 : upd H8 rp (.lst evs.reverse) rp = some (.lst evs.reverse) := upd_same
      generalize upd H8 rp (.lst evs.reverse) = H9 at s9 hrp9
      refine ⟨_, rfl, _, rfl, rp, _, rfl, SqL.of hrp9, fun sp hsp => ?_⟩
      rw [cut_take]
      have s10 := Same.new (o := .lst (evs.reverse.take t)) hsp
      have hsp10 : upd H9 sp (.lst (evs.reverse.take t)) sp = some (.lst (evs.reverse.take t)) := upd_same
      generalize upd H9 sp (.lst (evs.reverse.take t)) = H10 at s10 hsp10
      have s810 := s9.trans s10
      have mc10 := mc8.same n s810
      have hpx10 : Paired (fun v (x : Ex) => Dp K H10 v x.d) evs.reverse e.es.reverse := Paired.rev (Paired.imp2 (fun _ _ h => Dp.same s810 _ _ h) hpx8)
      have hd10 := s810 _ _ hd8
      have hea10 : EnvAt K CF H10 (putKs kvs bs (nm.map V.int)) (putAll env bs (nm.map Th.int)) := EnvAt.ms n (MSm.of s810) hea8
      refine ⟨sp, rfl, ⟨_, SqL.of hsp10⟩, fun D2 hD2 => ?_⟩
      have lt3 : (evs.reverse.take t).length ≤ 3 := by rw [List.length_take, List.length_reverse]; omega
      refine lc_ex (walk_list (K := K) (a := sp) (xs := evs.reverse.take t)) (Nat.lt_of_le_of_lt (show _ ≤ 1000 by omega) (by decide)) (fun i acc H' => Same H10 H' ∧ Paired (TkAt K CF W L H') acc (((e.es.reverse.take t).take i).map fun p => Tk.code p (putAll env bs (nm.map Th.int)) (l + e.w.later)))
        ⟨Same.new hD2, .nil⟩ (fun i acc H' r _ => SqL.of (r.1 _ _ hsp10)) ?_ ?_ gName_mono
      · rintro i acc x H0 H' Q2 hi hacc ⟨s6, hpa⟩ hl9 ⟨rfl, hx⟩ k2
        have hxt : i < t := by
          have := (List.getElem?_eq_some_iff.mp hx).1
          rw [List.length_take] at this
          omega
        have hx' : evs.reverse[i]? = some x := by
          have h2 : (evs.reverse.take t)[i]? = some x := hx
          rw [List.getElem?_take_of_lt hxt] at h2
          exact h2
        obtain ⟨p, hp, hdx⟩ := Paired.at hpx10 hx'
        refine ⟨rfl, _, rfl, _, rfl, _, rfl, by show 4 ≤ sizeLine; decide, fun tt htt => ?_⟩
        have s7 := Same.new (o := .tup [.str ("code" : Str), x, .ref d, .int (l + e.w.later)]) htt
        refine k2 _ _ (s7 _ _ hl9) ⟨Same.over (s6.trans s7) hD2, ?_⟩
        have hDl := s7 _ _ hl9
        have s57 := s6.trans s7
        have msD : MSm CM (upd H' tt (.tup [.str ("code" : Str), x, .ref d, .int (l + e.w.later)])) (upd (upd H' tt (.tup [.str ("code" : Str), x, .ref d, .int (l + e.w.later)])) D2 (.lst (acc ++ [.ref tt]))) := MSm.updL hDl
        have hp' : (e.es.reverse.take t)[i]? = some p := by rw [List.getElem?_take_of_lt hxt]; exact hp
        rw [List.take_succ, hp', List.map_append]
        have okp : p.ok = true := hoks p (List.mem_reverse.mp (List.mem_of_getElem? hp))
        have step : ∀ {v : V} {q : Ex}, TkAt K CF W L H' v (.code q (putAll env bs (nm.map Th.int)) (l + e.w.later)) → TkAt K CF W L (upd (upd H' tt (.tup [.str ("code" : Str), x, .ref d, .int (l + e.w.later)])) D2 (.lst (acc ++ [.ref tt]))) v (.code q (putAll env bs (nm.map Th.int)) (l + e.w.later)) := by
          rintro v q ⟨t', ev, nd', rfl, q1, q2, q3, q4⟩
          have ms : MSm CM H' _ := (MSm.of s7).trans msD
          exact ⟨t', ev, nd', rfl, ms.tsame.seqT q1, Dp.tsame ms.tsame _ _ (Ex.flat _) q2, q3, q4.ms n ms⟩
        refine Paired.app (Paired.mapR (fun v q h => step h) hpa) (.cons ?_ .nil)
        have msA : MSm CM H10 _ := (MSm.of s57).trans msD
        exact ⟨tt, x, d, rfl, msD.tsame.seqT (SqT.of upd_same), Dp.tsame msA.tsame _ _ (Ex.flat _) hdx, okp, _, msA _ _ hd10 (fun _ z => nomatch z) (fun _ _ z => nomatch z), EnvAt.ms n msA hea10⟩
      · rintro acc H' ⟨s6, hpa⟩ hl9 hacc
        have s8b := s810.trans s6
        have mc11 := mc8.same n s8b
        rw [List.take_of_length_le (l := e.es.reverse.take t) (by rw [List.length_take, List.length_take, List.length_reverse, List.length_reverse]; omega)] at hpa
        refine ⟨W, D2, _, acc, rfl, rfl, mc11.w, hl9, ?_, ?_⟩
        · rw [List.length_append, hacc]
          exact Nat.le_trans (show _ ≤ 200000 by simp only [List.length_cons, List.length_nil]; omega) (by decide)
        have hpa' := Paired.rev hpa
        rw [← List.map_reverse, List.take_reverse, List.reverse_reverse, hsub] at hpa'
        have mc12 := mc11.pushWs n hpa'
        have ms12 : MSm CM H' (upd H' W (.lst (wv ++ [.ref tm] ++ acc))) := MSm.updL mc11.w
        have kp12 : Kp M W L H' (upd H' W (.lst (wv ++ [.ref tm] ++ acc))) := Kp.updW
        generalize upd H' W (.lst (wv ++ [.ref tm] ++ acc)) = H12 at mc12 ms12 kp12
        have ms812 : MSm CM H8 H12 := (MSm.of s8b).trans ms12
        have kpF : Kp M W L H H12 := kpC.trans (kp68.trans ((Kp.of s8b).trans kp12))
        refine ⟨_, rfl, _, _, _, _, rfl, rfl, ms812.tsame.seqT hsq8, at_of (j := 0) rfl rfl, rfl, _, rfl, ite2 (fun hcl => ?_) (fun hcl => ?_)⟩
        · have hw : e.w = .lt := tst (b := .lt) hcl
          obtain ⟨v0, vr, p0, r, h8, h9⟩ := hevs hw
          have hpp12 : H12 pp = some (.lst evs) := kp12 _ _ (s8b _ _ hpp8) hppM hppW hppL
          rw [h8] at hpp12
          rw [h8, h9] at hpx8
          cases hpx8 with
          | cons hp0 hpr =>
            refine ⟨_, rfl, M, CM, dx, _, _, rfl, mc12.m, cM.cl, cM.nw, mF_work, .inl ⟨rfl, _, SqL.of mc12.w⟩, _, rfl, pp, _, _, v0, rfl, rfl, SqL.of hpp12, at_of (j := 0) rfl rfl, _, rfl, _, rfl, by show 4 ≤ sizeLine; decide, fun t9 ht9 => ?_⟩
            have s13 := Same.new (o := .tup [.str ("code" : Str), v0, .ref nd, .int (l + e.w.later)]) ht9
            have mc13 := mc12.same n s13
            have ms813 : MSm CM H8 _ := ms812.trans (MSm.of s13)
            refine ⟨W, _, _, rfl, rfl, mc13.w, ?_, ?_⟩
            · rw [List.length_append, List.length_append, hacc]
              exact Nat.lt_of_le_of_lt (show _ ≤ 200000 by simp only [List.length_cons, List.length_nil]; omega) (by decide)
            have mc14 := mc13.pushW n (v := .ref t9) (t := .code p0 env (l + e.w.later)) ⟨t9, v0, nd, rfl, SqT.of upd_same, Dp.tsame ms813.tsame _ _ (Ex.flat _) hp0, hoks p0 (by rw [h9]; exact List.mem_cons_self), kvs, ms813 _ _ hnd8 (fun _ z => nomatch z) (fun _ _ z => nomatch z), EnvAt.ms n ms813 hea08⟩
            refine k _ (wv ++ [.ref tm] ++ acc ++ [.ref t9]) lv (kpF.trans ((Kp.of s13).trans Kp.updW)) ?_
            rw [if_pos hw, h9]
            rw [h9] at mc14
            exact mc14
        · have hw : ¬ e.w = .lt := fun h => hcl (by rw [h]; rfl)
          refine k _ (wv ++ [.ref tm] ++ acc) lv kpF ?_
          rw [if_neg hw]
          exact mc12
    refine ⟨_, rfl, _, _, _, _, rfl, rfl, hsq8, at_of (j := 0) rfl rfl, rfl, _, rfl, ite2 (fun hcl => ?_) (fun hcl => ?_)⟩
    · have hw : e.w = .lt := tst (b := .lt) hcl
      refine ⟨_, rfl, pp, evs, rfl, .inl (SqL.of hpp8), _, _, rfl, rfl, ?_⟩
      have h0 : 1 ≤ evs.length := by
        obtain ⟨v0, vr, p0, r, h8, h9⟩ := hevs hw
        rw [h8]; simp
      have := rest (evs.length - 1) (by rw [if_pos hw])
      rw [show ((evs.length - 1 : Nat) : Int) = ((evs.length : Nat) : Int) - 1 by omega] at this
      exact this
    · have hw : ¬ e.w = .lt := fun h => hcl (by rw [h]; rfl)
      refine ⟨_, rfl, pp, evs, rfl, .inl (SqL.of hpp8), ?_⟩
      exact rest evs.length (by rw [if_neg hw]; rfl)
end
end Lw
set_option Elab.async false
set_option linter.all false
set_option maxRecDepth 100000
set_option maxHeartbeats 4000000
namespace Lw
open PySem PySem.Spec PyProof.Rows L2 RZ
theorem iteN {c A B : Prop} [Decidable c] (hc : ¬ c) (h : B) : if c then A else B := by
  rw [if_neg hc]
  exact h
def takeCodes : Nat → List Th → Option (List Ex × List Th)
  | 0, ts => some ([], ts)
  | n + 1, .code e :: ts => match takeCodes n ts with
    | none => none
    | some (es, r) => some (e :: es, r)
  | _ + 1, _ => none
theorem takeCodes_step {n : Nat} {ts r : List Th} {es : List Ex} (h : takeCodes (n + 1) ts = some (es, r)) : ∃ e ts' es', ts = .code e :: ts' ∧ takeCodes n ts' = some (es', r) ∧ es = e :: es' := by
  cases ts with
  | nil => cases h
  | cons t ts' =>
    cases t with
    | code e =>
      rw [takeCodes] at h
      cases h1 : takeCodes n ts' with
      | none => rw [h1] at h; cases h
      | some p =>
        obtain ⟨es', r'⟩ := p
        rw [h1] at h
        cases h
        exact ⟨e, ts', es', rfl, h1, rfl⟩
    | int i => cases h
    | two a b => cases h
    | fn e env => cases h
theorem takeCodes_len : ∀ {n : Nat} {ts r : List Th} {es : List Ex}, takeCodes n ts = some (es, r) → r.length ≤ ts.length
  | 0, ts, r, es, h => by
    cases h
    exact Nat.le_refl _
  | n + 1, ts, r, es, h => by
    obtain ⟨e, ts', es', rfl, h1, rfl⟩ := takeCodes_step h
    exact Nat.le_trans (takeCodes_len h1) (Nat.le_succ _)
theorem Paired.atR {α β : Type} {R : α → β → Prop} : ∀ {l : List α} {m : List β} {i : Nat} {b : β}, Paired R l m → m[i]? = some b → ∃ a, l[i]? = some a ∧ R a b
  | _, _, 0, _, .cons h _, e => by
    cases e
    exact ⟨_, rfl, h⟩
  | _, _, i + 1, _, .cons _ h, e => Paired.atR (i := i) h (by simpa using e)
theorem dl_of {K : PySem.W.Frag} {H : Hp} : ∀ {evs : List V} {es : List Ex}, Paired (fun v (x : Ex) => Dp K H v x.d) evs es → DpAll K H evs (Ex.dL es)
  | _, _, .nil => .nil
  | _, _, .cons a b => .cons a (dl_of b)
def mGo (tk : Tk) (st : Mc) : Option Mc :=
  if st.work.length ≤ 100000 ∧ st.things.length ≤ 100000 then
    match tk with
    | .bind e env => match st.things, e.es with
      | t :: ts, [_, b] => if e.w = .lt ∧ env.length ≤ 100000 then some { st with things := ts, work := .worth b (putAll env (bindsI e.w e.ns) [t]) :: st.work } else none
      | _, _ => none
    | .choose e env => match st.things, e.es with
      | .int n :: ts, [_, a, b] => if e.w = .ite then some { st with things := ts, work := .worth (if n = 0 then b else a) env :: st.work } else none
      | _, _ => none
    | .shut => match st.things with
      | .code e :: _ => if e.size ≤ 1000000 then some { st with why := if great e then .great else st.why } else none
      | _ => none
    | .opn => match st.things with
      | .code e :: ts => some { st with things := ts, work := .worth e [] :: st.work }
      | _ => none
    | .laid => match st.things with
      | t :: ts => match written 40 t with
        | some e => some { st with things := .code e :: ts }
        | none => none
      | [] => none
    | .made e ns m => match takeCodes m st.things with
      | some (es, ts) => if e.w ≠ .name ∧ m = e.es.length ∧ (e.w.binds = true → ns.length = e.ns.length) then some { st with things := .code (.node e.w (if e.w.binds then ns else e.ns) e.ks es.reverse) :: ts } else none
      | none => none
    | .done w => mDone w st
    | _ => none
  else none
def spGo (K : PySem.W.Frag) (CF CM : Addr) : Sp := fun vs H Q _ => ∃ (M W L dx : Addr) (st st' : Mc) (wv lv : List V) (v : V) (tk : Tk), vs = [.ref M, v] ∧ McAt K CF CM M W L H st dx wv lv ∧ TkAt K CF W L H v tk ∧ mGo tk st = some st' ∧ EndM K CF CM M W L H st' dx Q
section
variable {K : PySem.W.Frag} {CF CM M W L : Addr} {H H' : Hp} {st : Mc} {dx : Addr} {wv lv : List V}
theorem McAt.popT (n : CF ≠ CM) (m : McAt K CF CM M W L H st dx wv lv) {t : Th} {ts : List Th} (he : st.things = t :: ts) : ∃ l' v, lv = l' ++ [v] ∧ ThAt K CF H v t ∧ McAt K CF CM M W L (upd H L (.lst l')) { st with things := ts } dx wv l' := by
  have := m.ts
  rw [he] at this
  obtain ⟨l', v, e1, h1, h2⟩ := rev_cons this
  exact ⟨l', v, e1, h1, m.setL n h2⟩
theorem McAt.re (n : CF ≠ CM) (m : McAt K CF CM M W L H st dx wv lv) (kp : Kp M W L H H') {lv' : List V} {ts' : List Th} (hM : H' M = some (.ins CM dx (mF st.left st.met W L st.why.s))) (hW : H' W = some (.lst wv)) (hL : H' L = some (.lst lv')) (ht : Paired (ThAt K CF H') lv'.reverse ts') :
    McAt K CF CM M W L H' { st with things := ts' } dx wv lv' :=
  ⟨m.ne, hM, hW, hL, Paired.imp2 (fun _ _ h => m.tk n kp h) m.ws, ht⟩
end
section
variable {P : Program} {w : World} {K : PySem.W.Frag} {mg : Str → Option Value} {base : Heap} {dF dK dL dB CF CM : Addr}
abbrev nsGo : List Str := ["self", "task", "word", "parts", "turn"]
theorem sc_go : FnScope nsGo ["self", "task"] (defScope s_Machine_go_on) := ⟨rfl, rfl, rfl, by decide +kernel, rfl, by decide +kernel, by decide +kernel⟩
theorem ok_go {f : Addr} {fd : FuncData} (F : Fun K "go_on" "Machine.go_on" s_Machine_go_on f fd) (C : Cst K w mg dF dK dL dB) (cM : McC K mg CM CF) (GT : MDfn P w K mg base CM "take" 1 ["self"] (spTake CM)) (GD : MDfn P w K mg base CM "done" 3 ["self", "word"] (spMDone K CF CM))
    (GB : Dfn P w K mg base "binders_of" 1 ["e"] (spBinders K)) (GW : Dfn P w K mg base "with_names" 1 ["names", "some", "things"] (spWithNames K)) (GG : Dfn P w K mg base "is_great" 3 ["e"] (spGreat K)) (GO : Dfn P w K mg base "written_out" 40 ["worth"] (spWritten K CF 40))
    (GR : Dfn P w K mg base "rebuilt" 1 ["e", "numbers", "parts"] (spRebuilt K)) : FnOk P w K mg base CX0 41 f fd ["self", "task"] (spGo K CF CM) := by
  refine F.ok sc_go (fun vs H Q E h => ?_) (fun cdv A outer s H vs Q E hr h => ?_)
  · obtain ⟨M, W, L, dx, st, st', wv, lv, v, tk, rfl, _⟩ := h
    rfl
  · obtain ⟨M, W, L, dx, st, st', wv, lv, v, tk, rfl, mc, htk, hm, k⟩ := h
    have hr1 : Room 1 _ := hr.mono (by decide)
    have hr3 : Room 3 _ := hr.mono (by decide)
    refine ⟨_, (pss_cons (ps_set (i := 2) sc_go.nd rfl (Or.inl rfl) (pe_ix ix_tup (pv 1) pe_int (fun _ _ => rfl))) (pss_one (ps_if (pt_cmpR op_eq (pv 2) pe_str (nomark _)) (pss_one (ps_expr (pe_bm PySem.F.plainAttrs_list PySem.F.slot_list_append PySem.F.type_list_append mt_append (pe_fld (pv 0) rfl) (pa_cons (pe_tup (pa_cons (pe_str) (pa_cons (pe_ix ix_tup (pe_ix ix_tup (pv 1) pe_int (fun _ _ => rfl)) pe_int (fun _ _ => rfl)) (pa_cons (pe_callD GW hr1 (by rfl) (pa_cons (pe_ix ix_tup (pv 1) pe_int (fun _ _ => rfl)) (pa_cons (pe_callD GB hr1 (by rfl) (pa_cons (pe_ix ix_tup (pv 1) pe_int (fun _ _ => rfl)) (pa_nil))) (pa_cons (pe_lst (pa_cons (pe_methD0 (pv 0) cM.cl GT hr1) (pa_nil))) (pa_nil))))) (pa_nil))))) (pa_nil)))))
      (pss_one (ps_if (pt_cmpR op_eq (pv 2) pe_str (nomark _)) (pss_one (ps_expr (pe_bm PySem.F.plainAttrs_list PySem.F.slot_list_append PySem.F.type_list_append mt_append (pe_fld (pv 0) rfl) (pa_cons (pe_tup (pa_cons (pe_str) (pa_cons (pe_ifExp (pt_cmpR op_ne (pe_methD0 (pv 0) cM.cl GT hr1) pe_int (nomark _)) (pe_ix ix_tup (pe_ix ix_tup (pv 1) pe_int (fun _ _ => rfl)) pe_int (fun _ _ => rfl)) (pe_ix ix_tup (pe_ix ix_tup (pv 1) pe_int (fun _ _ => rfl)) pe_int (fun _ _ => rfl))) (pa_cons (pe_ix ix_tup (pv 1) pe_int (fun _ _ => rfl)) (pa_nil))))) (pa_nil)))))
      (pss_one (ps_if (pt_cmpR op_eq (pv 2) pe_str (nomark _)) (pss_one (ps_if (pt_val (pe_callD GG hr3 (by rfl) (pa_cons (pe_ix ix_list (pe_fld (pv 0) rfl) (pe_un un_neg pe_int) (fun _ _ => rfl)) (pa_nil)))) (pss_one (ps_fld (pv 0) (pe_gv cM.GREAT) rfl)) pss_nil))
      (pss_one (ps_if (pt_cmpR op_eq (pv 2) pe_str (nomark _)) (pss_one (ps_expr (pe_bm PySem.F.plainAttrs_list PySem.F.slot_list_append PySem.F.type_list_append mt_append (pe_fld (pv 0) rfl) (pa_cons (pe_tup (pa_cons (pe_str) (pa_cons (pe_methD0 (pv 0) cM.cl GT hr1) (pa_cons (pe_dnewK) (pa_nil))))) (pa_nil)))))
      (pss_one (ps_if (pt_cmpR op_eq (pv 2) pe_str (nomark _)) (pss_one (ps_expr (pe_bm PySem.F.plainAttrs_list PySem.F.slot_list_append PySem.F.type_list_append mt_append (pe_fld (pv 0) rfl) (pa_cons (pe_callD GO hr (by rfl) (pa_cons (pe_methD0 (pv 0) cM.cl GT hr1) (pa_nil))) (pa_nil)))))
      (pss_one (ps_if (pt_cmpR op_eq (pv 2) pe_str (nomark _)) (pss_cons (ps_set (i := 3) sc_go.nd rfl (Or.inl rfl) (pe_revL (pe_lc (own := [("turn", 4)]) (g := gName 4) (tt := tYes) (te := tMeth CM "take" (spTake CM) [] E0 (tVar 0) tNil) rfl sc_go.nd (pi_range1 (by rfl) C.range (pa_cons (pe_ix ix_tup (pv 1) pe_int (fun _ _ => rfl)) (pa_nil))) (blkOk_by (N := nsGo) (sc := defScope s_Machine_go_on) (by decide +kernel))
            (fun _ _ _ _ _ => pg_name (i := 4) sc_go.nd rfl (Or.inl rfl)) (fun _ _ _ _ _ => pts_nil) (fun _ _ _ _ _ => pe_methD0 (pv 0) cM.cl GT hr1)))) (pss_one (ps_expr (pe_bm PySem.F.plainAttrs_list PySem.F.slot_list_append PySem.F.type_list_append mt_append (pe_fld (pv 0) rfl) (pa_cons (pe_callD GR hr1 (by rfl) (pa_cons (pe_ix ix_tup (pv 1) pe_int (fun _ _ => rfl)) (pa_cons (pe_ix ix_tup (pv 1) pe_int (fun _ _ => rfl)) (pa_cons (pv 3) (pa_nil))))) (pa_nil))))))
        (pss_one (ps_expr (pe_methD (pv 0) cM.cl GD hr3 (pa_cons (pe_ix ix_tup (pv 1) pe_int (fun _ _ => rfl)) (pa_nil)))))))))))))))))), ?_⟩
    have n := cM.ne
    unfold mGo at hm
    split at hm
    rotate_left
    · cases hm
    rename_i hb
    have hll : lv.length ≤ 100000 := by rw [mc.ll]; exact hb.2
    have hlw : wv.length ≤ 100000 := by rw [mc.lw]; exact hb.1
    -- a value put behind a pop of things
    have popd : ∀ {lv' : List V} {ts : List Th} {t : Th}, st.things = t :: ts → lv.length = lv'.length + 1 → lv'.length < sizeLine := fun h1 h2 => Nat.lt_of_le_of_lt (show _ ≤ 100000 by omega) (by decide)
    cases tk with
    | worth e env => cases hm
    | code e env l => cases hm
    | bind e env =>
      obtain ⟨t, ev, nd, rfl, hq, hd, hok, kvs, hnd, hea⟩ := htk
      dsimp only at hm
      split at hm
      · rename_i th ts x0 b hth hes
        split at hm
        · rename_i hcond
          cases hm
          obtain ⟨a, kvs0, evs, rfl, hn⟩ := node_of hd
          have hv := hn.v hok
          have hsq := hv.sq
          obtain ⟨l', v', rfl, hv', -⟩ := mc.popT n hth
          refine ⟨_, rfl, _, _, _, _, rfl, rfl, hq, at_of (j := 0) rfl rfl, _, rfl, rfl, _, rfl, iteT ?_⟩
          have hpx : Paired (fun v (x : Ex) => Dp K H v x.d) evs e.es := dl_paired hn.es
          rw [hes] at hpx
          cases hpx with
          | cons hp0 hpr =>
            cases hpr with
            | cons hp1 hpn =>
              cases hpn
              rename_i v0 v1
              have harI := hv.ar
              rw [hcond.1] at harI
              obtain ⟨x, hx⟩ : ∃ x, e.ns = [x] := by
                have := congrArg (·.1) harI
                rw [List.length_map] at this
                exact len1 this
              obtain rfl : kvs0 = [] := len0 (congrArg (·.2.1) harI)
              rw [hx] at hsq
              refine ⟨_, rfl, M, CM, dx, _, _, rfl, mc.m, cM.cl, cM.nw, mF_work, .inl ⟨rfl, _, SqL.of mc.w⟩, ?_⟩
              refine ⟨_, rfl, _, _, _, _, rfl, rfl, hq, at_of (j := 1) rfl rfl, a, _, _, v1, rfl, rfl, hsq, at_of (j := 3) rfl rfl, ?_⟩
              refine ⟨_, rfl, _, _, _, _, rfl, rfl, hq, at_of (j := 2) rfl rfl, _, rfl, _, _, _, _, rfl, rfl, hq, at_of (j := 1) rfl rfl, e.w, a, _, _, _, rfl, hv, fun H1 p1 s1 np1 hp1t => ?_⟩
              rw [bindsI_v] at hp1t
              have mc1 := mc.same n s1
              refine ⟨_, rfl, M, dx, _, rfl, mc1.m, mF_no mN_take, M, W, L, dx, _, _, _, l', v', rfl, mc1.m, mc1.l, ?_⟩
              have ms2 : MSm CM H1 (upd H1 L (.lst l')) := MSm.updL mc1.l
              have kp2 : Kp M W L H1 (upd H1 L (.lst l')) := Kp.updL
              obtain ⟨l2, v2, e2, hv2, mc2⟩ := mc1.popT n hth
              obtain ⟨rfl, e3⟩ := List.append_inj' e2 rfl
              cases e3
              have ht2 := ThAt.ms n ms2 hv2
              generalize upd H1 L (.lst l') = H2 at ms2 kp2 mc2 ht2
              refine ⟨by show 1 ≤ sizeLine; decide, fun tl htl => ?_⟩
              have s3 := Same.new (o := .lst [v']) htl
              have htl3 : upd H2 tl (.lst [v']) tl = some (.lst [v']) := upd_same
              generalize upd H2 tl (.lst [v']) = H3 at s3 htl3
              have ms03 : MSm CM H H3 := (MSm.of s1).trans (ms2.trans (MSm.of s3))
              have hnd3 : H3 nd = some (.dK kvs) := ms03 _ _ hnd (fun _ z => nomatch z) (fun _ _ z => nomatch z)
              have lk : kvs.length = env.length := DictAt.length hea.to
              refine ⟨nd, p1, tl, kvs, bindsI e.w e.ns, [v'], rfl, hnd3, (ms2.trans (MSm.of s3)).tsame.seqT (SqT.of hp1t), SqL.of htl3, (by show 1 ≤ 10; decide), by omega, fun H4 d s4 nd4 hd4 => ?_⟩
              have mc4 := mc2.same n (s3.trans s4)
              have ms04 := ms03.trans (MSm.of s4)
              refine ⟨by show 3 ≤ sizeLine; decide, fun tt htt => ?_⟩
              have s5 := Same.new (o := .tup [.str ("worth" : Str), v1, .ref d]) htt
              have mc5 := mc4.same n s5
              have ms05 : MSm CM H _ := ms04.trans (MSm.of s5)
              refine ⟨W, wv, _, rfl, rfl, mc5.w, Nat.lt_of_le_of_lt hlw (by decide), ?_⟩
              have hb1 : b.ok = true := Ex.okS hok b (by rw [hes]; simp)
              refine k _ _ _ ((Kp.of s1).trans (kp2.trans ((Kp.of (s3.trans (s4.trans s5))).trans Kp.updW))) (mc5.pushW n (t := .worth b (putAll env (bindsI e.w e.ns) [th])) ⟨tt, v1, d, rfl, SqT.of upd_same, Dp.tsame ms05.tsame _ _ (Ex.flat _) hp1, hb1, _, s5 _ _ hd4, EnvAt.of ?_⟩)
              refine DictAt.putKs (DictAt.mono hea.to fun v x h => ThAt.ms n ms05 h) (.cons (ThAt.ms n (MSm.of (s3.trans (s4.trans s5))) ht2) .nil)
        · cases hm
      · cases hm
    | choose e env =>
      obtain ⟨t, ev, nd, rfl, hq, hd, hok, kvs, hnd, hea⟩ := htk
      dsimp only at hm
      split at hm
      · rename_i i ts x0 ea eb hth hes
        split at hm
        · rename_i hcond
          cases hm
          obtain ⟨a, kvs0, evs, rfl, hn⟩ := node_of hd
          have hv := hn.v hok
          have hsq := hv.sq
          obtain ⟨l', v', rfl, hv', mc1⟩ := mc.popT n hth
          cases hv'
          refine ⟨_, rfl, _, _, _, _, rfl, rfl, hq, at_of (j := 0) rfl rfl, _, rfl, rfl, _, rfl, iteN (by decide +kernel) ?_⟩
          refine ⟨_, rfl, rfl, _, rfl, iteT ?_⟩
          have hpx : Paired (fun v (x : Ex) => Dp K H v x.d) evs e.es := dl_paired hn.es
          rw [hes] at hpx
          obtain ⟨v0, v1, v2, rfl⟩ : ∃ v0 v1 v2, evs = [v0, v1, v2] := len3 (by rw [Paired.length hpx]; rfl)
          cases hpx with
          | cons hp0 hpr =>
            cases hpr with
            | cons hp1 hpn =>
              cases hpn with
              | cons hp2 _ =>
              have harI := hv.ar
              rw [hcond] at harI
              have hx : e.ns = [] := by
                have := congrArg (·.1) harI
                rw [List.length_map] at this
                exact len0 this
              obtain rfl : kvs0 = [] := len0 (congrArg (·.2.1) harI)
              rw [hx] at hsq
              refine ⟨_, rfl, M, CM, dx, _, _, rfl, mc.m, cM.cl, cM.nw, mF_work, .inl ⟨rfl, _, SqL.of mc.w⟩, ?_⟩
              refine ⟨_, rfl, M, dx, _, rfl, mc.m, mF_no mN_take, M, W, L, dx, _, _, _, l', .int i, rfl, mc.m, mc.l, ?_⟩
              have ms2 : MSm CM H (upd H L (.lst l')) := MSm.updL mc.l
              have kp2 : Kp M W L H (upd H L (.lst l')) := Kp.updL
              generalize upd H L (.lst l') = H2 at ms2 kp2 mc1
              have hq2 := ms2.tsame.seqT hq
              have hsq2 := ms2.tsame.seqT hsq
              have fin : ∀ (y : V) (b : Ex), Dp K H y b.d → b ∈ e.es → b = (if i = 0 then eb else ea) → ∀ (tt : Addr), H2 tt = none → rAppend (.ref W) [.ref tt] (upd H2 tt (.tup [.str ("worth" : Str), y, .ref nd])) (fun v H => Q .non H) := by
                intro y b hyb hbm hbe tt htt
                have s5 := Same.new (o := .tup [.str ("worth" : Str), y, .ref nd]) htt
                have mc5 := mc1.same n s5
                have ms05 : MSm CM H _ := ms2.trans (MSm.of s5)
                refine ⟨W, wv, _, rfl, rfl, mc5.w, Nat.lt_of_le_of_lt hlw (by decide), ?_⟩
                rw [← hbe] at k
                exact k _ _ _ (kp2.trans ((Kp.of s5).trans Kp.updW)) (mc5.pushW n (t := .worth b env) ⟨tt, y, nd, rfl, SqT.of upd_same, Dp.tsame ms05.tsame _ _ (Ex.flat _) hyb, Ex.okS hok b hbm, kvs, ms05 _ _ hnd (fun _ z => nomatch z) (fun _ _ z => nomatch z), EnvAt.ms n ms05 hea⟩)
              refine ⟨rfl, _, rfl, ite2 (fun hne => ?_) (fun hne => ?_)⟩
              · have hi : ¬ i = 0 := by
                  rintro rfl
                  exact absurd hne (by decide +kernel)
                refine ⟨_, rfl, _, _, _, _, rfl, rfl, hq2, at_of (j := 1) rfl rfl, a, _, _, v1, rfl, rfl, hsq2, at_of (j := 2) rfl rfl, ?_⟩
                exact ⟨_, rfl, _, _, _, _, rfl, rfl, hq2, at_of (j := 2) rfl rfl, by show 3 ≤ sizeLine; decide, fun tt htt => fin v1 ea hp1 (by rw [hes]; simp) (by rw [if_neg hi]) tt htt⟩
              · have hi : i = 0 := by
                  apply Classical.byContradiction
                  intro h
                  exact hne (by rw [decide_eq_false fun z => h (V.int.inj z)]; rfl)
                refine ⟨_, rfl, _, _, _, _, rfl, rfl, hq2, at_of (j := 1) rfl rfl, a, _, _, v2, rfl, rfl, hsq2, at_of (j := 3) rfl rfl, ?_⟩
                exact ⟨_, rfl, _, _, _, _, rfl, rfl, hq2, at_of (j := 2) rfl rfl, by show 3 ≤ sizeLine; decide, fun tt htt => fin v2 eb hp2 (by rw [hes]; simp) (by rw [if_pos hi]) tt htt⟩
        · cases hm
      · cases hm
    | shut =>
      obtain ⟨t, rfl, hq⟩ := htk
      dsimp only at hm
      split at hm
      · rename_i e ts hth
        split at hm
        · rename_i hsz
          cases hm
          obtain ⟨l', v', rfl, hv', -⟩ := mc.popT n hth
          refine ⟨_, rfl, _, _, _, _, rfl, rfl, hq, at_of (j := 0) rfl rfl, _, rfl, rfl, _, rfl, iteN (by decide +kernel) ?_⟩
          refine ⟨_, rfl, rfl, _, rfl, iteN (by decide +kernel) ?_⟩
          refine ⟨_, rfl, rfl, _, rfl, iteT ?_⟩
          cases hv' with
          | code hd hok =>
            refine ⟨_, rfl, M, CM, dx, _, _, rfl, mc.m, cM.cl, cM.nt, mF_things, _, rfl, L, _, _, v', rfl, rfl, SqL.of mc.l, atI_last _ _, v', e, rfl, hd, hok, hsz, fun H1 s1 => ?_⟩
            have mc1 := mc.same n s1
            refine ⟨_, rfl, ite2 (fun hg => ?_) (fun hg => ?_)⟩
            · refine ⟨_, rfl, M, CM, dx, _, rfl, mc1.m, cM.cl, cM.ny, (by show 5 < 1000; decide), ?_⟩
              rw [mF_putwhy]
              rw [if_pos hg] at k
              exact k _ _ _ ((Kp.of s1).trans Kp.updM) (mc1.setM n (l' := st.left) (m' := st.met) (y' := .great))
            · rw [if_neg hg] at k
              exact k _ _ _ (Kp.of s1) mc1
        · cases hm
      · cases hm
    | opn =>
      obtain ⟨t, rfl, hq⟩ := htk
      dsimp only at hm
      split at hm
      · rename_i e ts hth
        cases hm
        obtain ⟨l', v', rfl, hv', mc1⟩ := mc.popT n hth
        refine ⟨_, rfl, _, _, _, _, rfl, rfl, hq, at_of (j := 0) rfl rfl, _, rfl, rfl, _, rfl, iteN (by decide +kernel) ?_⟩
        refine ⟨_, rfl, rfl, _, rfl, iteN (by decide +kernel) ?_⟩
        refine ⟨_, rfl, rfl, _, rfl, iteN (by decide +kernel) ?_⟩
        refine ⟨_, rfl, rfl, _, rfl, iteT ?_⟩
        cases hv' with
        | code hd hok =>
          refine ⟨_, rfl, M, CM, dx, _, _, rfl, mc.m, cM.cl, cM.nw, mF_work, .inl ⟨rfl, _, SqL.of mc.w⟩, ?_⟩
          refine ⟨_, rfl, M, dx, _, rfl, mc.m, mF_no mN_take, M, W, L, dx, _, _, _, l', v', rfl, mc.m, mc.l, ?_⟩
          have ms2 : MSm CM H (upd H L (.lst l')) := MSm.updL mc.l
          have kp2 : Kp M W L H (upd H L (.lst l')) := Kp.updL
          generalize upd H L (.lst l') = H2 at ms2 kp2 mc1
          intro d hd2
          have s3 := Same.new (o := .dK []) hd2
          have hd3 : upd H2 d (.dK []) d = some (.dK []) := upd_same
          generalize upd H2 d (.dK []) = H3 at s3 hd3
          refine ⟨by show 3 ≤ sizeLine; decide, fun tt htt => ?_⟩
          have s5 := Same.new (o := .tup [.str ("worth" : Str), v', .ref d]) htt
          have mc5 := mc1.same n (s3.trans s5)
          have ms05 : MSm CM H _ := ms2.trans (MSm.of (s3.trans s5))
          refine ⟨W, wv, _, rfl, rfl, mc5.w, Nat.lt_of_le_of_lt hlw (by decide), ?_⟩
          exact k _ _ _ (kp2.trans ((Kp.of (s3.trans s5)).trans Kp.updW)) (mc5.pushW n (t := .worth e []) ⟨tt, v', d, rfl, SqT.of upd_same, Dp.tsame ms05.tsame _ _ (Ex.flat _) hd, hok, [], s5 _ _ hd3, .nil⟩)
      · cases hm
    | laid =>
      obtain ⟨t, rfl, hq⟩ := htk
      dsimp only at hm
      split at hm
      · rename_i th ts hth
        split at hm
        · rename_i e hwr
          cases hm
          obtain ⟨l', v', rfl, hv', mc1⟩ := mc.popT n hth
          refine ⟨_, rfl, _, _, _, _, rfl, rfl, hq, at_of (j := 0) rfl rfl, _, rfl, rfl, _, rfl, iteN (by decide +kernel) ?_⟩
          refine ⟨_, rfl, rfl, _, rfl, iteN (by decide +kernel) ?_⟩
          refine ⟨_, rfl, rfl, _, rfl, iteN (by decide +kernel) ?_⟩
          refine ⟨_, rfl, rfl, _, rfl, iteN (by decide +kernel) ?_⟩
          refine ⟨_, rfl, rfl, _, rfl, iteT ?_⟩
          refine ⟨_, rfl, M, CM, dx, _, _, rfl, mc.m, cM.cl, cM.nt, mF_things, .inl ⟨rfl, _, SqL.of mc.l⟩, ?_⟩
          refine ⟨_, rfl, M, dx, _, rfl, mc.m, mF_no mN_take, M, W, L, dx, _, _, _, l', v', rfl, mc.m, mc.l, ?_⟩
          have ms2 : MSm CM H (upd H L (.lst l')) := MSm.updL mc.l
          have kp2 : Kp M W L H (upd H L (.lst l')) := Kp.updL
          have hv2 := ThAt.ms n ms2 hv'
          generalize upd H L (.lst l') = H2 at ms2 kp2 mc1 hv2
          refine ⟨v', th, e, rfl, hv2, hwr, fun H3 v3 s3 hd3 => ?_⟩
          have mc3 := mc1.same n s3
          refine ⟨L, l', v3, rfl, rfl, mc3.l, ?_, ?_⟩
          · rw [List.length_append] at hll
            exact Nat.lt_of_le_of_lt (show l'.length ≤ 100000 by omega) (by decide)
          · exact k _ _ _ (kp2.trans ((Kp.of s3).trans Kp.updL)) (mc3.pushT n (t := .code e) (.code hd3 (written_ok hwr)))
        · cases hm
      · cases hm
    | made e ns m =>
      obtain ⟨t, ev, nl, rfl, hq, hd, hok, nW, nL, hnl⟩ := htk
      dsimp only at hm
      split at hm
      · rename_i es ts htc
        split at hm
        · rename_i hcond
          cases hm
          obtain ⟨a, kvs0, evs, rfl, hn⟩ := node_of hd
          have hv := hn.v hok
          have hsq := hv.sq
          refine ⟨_, rfl, _, _, _, _, rfl, rfl, hq, at_of (j := 0) rfl rfl, _, rfl, rfl, _, rfl, iteN (by decide +kernel) ?_⟩
          refine ⟨_, rfl, rfl, _, rfl, iteN (by decide +kernel) ?_⟩
          refine ⟨_, rfl, rfl, _, rfl, iteN (by decide +kernel) ?_⟩
          refine ⟨_, rfl, rfl, _, rfl, iteN (by decide +kernel) ?_⟩
          refine ⟨_, rfl, rfl, _, rfl, iteN (by decide +kernel) ?_⟩
          refine ⟨_, rfl, rfl, _, rfl, iteT ?_⟩
          have lev : evs.length = e.es.length := by rw [DpAll.length hn.es, Ex.dL_eq, List.length_map]
          have lev3 : evs.length ≤ 3 := by
            rw [show evs.length = e.w.ar.2.2 from congrArg (·.2.2) hv.ar]
            cases e.w <;> decide
          have hm3 : m ≤ 3 := by omega
          refine ⟨_, rfl, _, _, _, _, rfl, rfl, hq, at_of (j := 3) rfl rfl, m, rfl, by omega, by omega, fun D hD => ?_⟩
          have hDM : D ≠ M := fun z => by rw [z, mc.m] at hD; cases hD
          have hDW : D ≠ W := fun z => by rw [z, mc.w] at hD; cases hD
          have hDL : D ≠ L := fun z => by rw [z, mc.l] at hD; cases hD
          refine lc_ex (walk_range (lo := 0) (n := m)) (Nat.lt_of_le_of_lt (show m ≤ 1000 by omega) (by decide)) (fun i acc H' => Kp M W L H H' ∧ H' M = some (.ins CM dx (mF st.left st.met W L st.why.s)) ∧ H' W = some (.lst wv) ∧ ∃ lv' ts1 es1 es2, H' L = some (.lst lv') ∧ Paired (ThAt K CF H') lv'.reverse ts1 ∧
            takeCodes (m - i) ts1 = some (es2, ts) ∧ es = es1 ++ es2 ∧ Paired (fun v (x : Ex) => Dp K H' v x.d ∧ x.ok = true) acc es1)
            ⟨Kp.of (Same.new hD), by rw [upd_ne hDM.symm]; exact mc.m, by rw [upd_ne hDW.symm]; exact mc.w, lv, st.things, [], es, by rw [upd_ne hDL.symm]; exact mc.l, Paired.imp2 (fun _ _ h => ThAt.ms n (MSm.of (Same.new hD)) h) mc.ts, htc, rfl, .nil⟩ (fun _ _ _ _ _ => trivial) ?_ ?_ gName_mono
          · rintro i acc x H1 H2 Q2 hi hacc ⟨kp, hM1, hW1, lv', ts1, es1, es2, hL1, hp1, htc1, hes1, hpa⟩ hlD ⟨rfl, rfl⟩ k2
            rw [show m - i = (m - (i + 1)) + 1 by omega] at htc1
            obtain ⟨e1, ts2, es3, rfl, htc2, rfl⟩ := takeCodes_step htc1
            obtain ⟨l', v', rfl, hv', hp2⟩ := rev_cons hp1
            cases hv' with
            | code hd1 hok1 =>
              refine ⟨rfl, _, rfl, M, dx, _, rfl, hM1, mF_no mN_take, M, W, L, dx, _, _, _, l', v', rfl, hM1, hL1, ?_⟩
              have ms2 : MSm CM H2 (upd H2 L (.lst l')) := MSm.updL hL1
              have hDl : upd H2 L (.lst l') D = some (.lst acc) := by rw [upd_ne hDL]; exact hlD
              have ms3 : MSm CM (upd H2 L (.lst l')) (upd (upd H2 L (.lst l')) D (.lst (acc ++ [v']))) := MSm.updL hDl
              have ms := ms2.trans ms3
              refine k2 v' _ hDl ⟨fun b o hb' n1 n2 n3 => ?_, by rw [upd_ne hDM.symm, upd_ne mc.ml]; exact hM1, by rw [upd_ne hDW.symm, upd_ne mc.ne]; exact hW1, l', ts2, es1 ++ [e1], es3, by rw [upd_ne hDL.symm, upd_same], Paired.imp2 (fun _ _ h => ThAt.ms n ms h) hp2, htc2, by rw [hes1, List.append_assoc]; rfl, ?_⟩
              · rw [upd_ne (ne_of_none hb' hD), upd_ne n3]
                exact kp b o hb' n1 n2 n3
              · exact Paired.app (Paired.imp2 (fun _ _ h => ⟨Dp.tsame ms.tsame _ _ (Ex.flat _) h.1, h.2⟩) hpa) (.cons ⟨Dp.tsame ms.tsame _ _ (Ex.flat _) hd1, hok1⟩ .nil)
          · rintro acc H1 ⟨kp, hM1, hW1, lv', ts1, es1, es2, hL1, hp1, htc1, hes1, hpa⟩ hlD hacc
            rw [Nat.sub_self, takeCodes] at htc1
            cases htc1
            rw [List.append_nil] at hes1
            subst hes1
            have mc1 := mc.re n kp hM1 hW1 hL1 hp1
            refine ⟨D, acc, rfl, SqL.of hlD, fun p hp => ?_⟩
            have s2 := Same.new (o := .lst acc.reverse) hp
            have hp2 : upd H1 p (.lst acc.reverse) p = some (.lst acc.reverse) := upd_same
            generalize upd H1 p (.lst acc.reverse) = H2 at s2 hp2
            have mc2 := mc1.same n s2
            have ms01 : MSm CM H H1 := mc.msm kp
            have ms02 : MSm CM H H2 := ms01.trans (MSm.of s2)
            have hq2 := ms02.tsame.seqT hq
            have hnl2 : H2 nl = some (.lst (ns.map V.int)) := s2 _ _ (kp _ _ hnl (fun z => by rw [z, mc.m] at hnl; cases hnl) nW nL)
            refine ⟨_, rfl, M, CM, dx, _, _, rfl, mc2.m, cM.cl, cM.nt, mF_things, .inl ⟨rfl, _, SqL.of mc2.l⟩, ?_⟩
            refine ⟨_, rfl, _, _, _, _, rfl, rfl, hq2, at_of (j := 1) rfl rfl, _, rfl, _, _, _, _, rfl, rfl, hq2, at_of (j := 2) rfl rfl, _, rfl, ?_⟩
            refine ⟨e.w, a, nl, p, _, kvs0, evs, ns.map V.int, acc.reverse, rfl, hv.tsame ms02.tsame, hcond.1, .inl (SqL.of hnl2), SqL.of hp2, by rw [List.length_reverse, hacc, lev]; exact hcond.2.1, fun hb' => by rw [List.length_map, List.length_map]; exact hcond.2.2 hb', fun H3 q s3 nq hq3 => ?_⟩
            have mc3 := mc2.same n s3
            have lt : lv'.length ≤ 100000 := by
              have h1 := Paired.length hp1
              rw [List.length_reverse] at h1
              have h2 : ts.length ≤ st.things.length := takeCodes_len htc
              omega
            refine ⟨L, lv', _, rfl, rfl, mc3.l, Nat.lt_of_le_of_lt lt (by decide), ?_⟩
            have hpr : Paired (fun v (x : Ex) => Dp K H3 v x.d ∧ x.ok = true) acc.reverse es.reverse := Paired.rev (Paired.imp2 (fun _ _ h => ⟨Dp.same (s2.trans s3) _ _ h.1, h.2⟩) hpa)
            have les : es.length = e.es.length := by rw [← Paired.length hpa, hacc]; exact hcond.2.1
            refine k _ _ _ (kp.trans ((Kp.of (s2.trans s3)).trans Kp.updL)) (mc3.pushT n (.code ?_ ?_))
            · have ms03 : MSm CM H H3 := ms02.trans (MSm.of s3)
              refine NodeAt.dp (kvs := kvs0) (evs := acc.reverse) ⟨SqT.of ?_, DpAll.tsame ms03.tsame _ _ (Kd.flatL _) hn.ks, dl_of (Paired.imp2 (fun _ _ h => h.1) hpr)⟩
              rw [hq3]
              have : newNs e.w (e.ns.map V.int) (ns.map V.int) = (if e.w.binds = true then ns else e.ns).map V.int := by
                unfold newNs
                cases e.w.binds <;> rfl
              rw [this]
              rfl
            · rw [Ex.ok, Bool.and_eq_true, decide_eq_true_eq, Ex.okL_iff]
              refine ⟨?_, fun x hx => ?_⟩
              · have := hv.ar
                rw [List.length_map, DpAll.length hn.ks, List.length_map, lev] at this
                rw [← this, List.length_reverse, les]
                cases hb2 : e.w.binds with
                | true => rw [if_pos rfl, hcond.2.2 hb2]
                | false => rw [if_neg Bool.false_ne_true]
              · obtain ⟨i, hi⟩ := List.mem_iff_getElem?.mp hx
                obtain ⟨b, hb2, _, h⟩ := Paired.atR hpr hi
                exact h
        · cases hm
      · cases hm
    | done wd =>
      obtain ⟨t, rfl, hq⟩ := htk
      dsimp only at hm
      refine ⟨_, rfl, _, _, _, _, rfl, rfl, hq, at_of (j := 0) rfl rfl, _, rfl, rfl, _, rfl, iteN (by decide +kernel) ?_⟩
      refine ⟨_, rfl, rfl, _, rfl, iteN (by decide +kernel) ?_⟩
      refine ⟨_, rfl, rfl, _, rfl, iteN (by decide +kernel) ?_⟩
      refine ⟨_, rfl, rfl, _, rfl, iteN (by decide +kernel) ?_⟩
      refine ⟨_, rfl, rfl, _, rfl, iteN (by decide +kernel) ?_⟩
      refine ⟨_, rfl, rfl, _, rfl, iteN (by decide +kernel) ?_⟩
      exact ⟨_, rfl, M, dx, _, rfl, mc.m, mF_no mN_done, _, rfl, _, _, _, _, rfl, rfl, hq, at_of (j := 1) rfl rfl, M, W, L, dx, st, st', wv, lv, wd, rfl, mc, hb.2, hm, k⟩
end
end Lw
set_option Elab.async false
set_option linter.all false
set_option maxRecDepth 100000
set_option maxHeartbeats 4000000
namespace Lw
open PySem PySem.Spec PyProof.Rows L2 RZ
def mOne (tk : Tk) (st : Mc) : Option Mc :=
  match tk with
  | .worth e env => mWorth e env st
  | .code e env l => mCode e env l st
  | tk => mGo tk st
def mRun : Nat → Mc → Option Mc
  | 0, _ => none
  | n + 1, st => match st.why, st.work with
    | .none, tk :: ws => match mOne tk { st with work := ws } with
      | none => none
      | some st' => mRun n st'
    | _, _ => some st
theorem mRun_end {n : Nat} {st st' : Mc} (h : mRun (n + 1) st = some st') (he : st.work = [] ∨ st.why ≠ .none) : st = st' := by
  rw [mRun] at h
  split at h
  · rename_i h1 h2
    rcases he with he | he
    · rw [he] at h2; cases h2
    · exact absurd h1 he
  · cases h
    rfl
theorem mRun_step {n : Nat} {st st' : Mc} {tk : Tk} {ws : List Tk} (h : mRun (n + 1) st = some st') (h1 : st.work = tk :: ws) (h2 : st.why = .none) : ∃ st1, mOne tk { st with work := ws } = some st1 ∧ mRun n st1 = some st' := by
  rw [mRun] at h
  split at h
  · rename_i h3 h4
    rw [h1] at h4
    cases h4
    split at h
    · cases h
    · rename_i st1 h5
      exact ⟨st1, h5, h⟩
  · rename_i h3
    exact absurd h1 (h3 _ _ h2)
def mStart (e : Ex) (most : Nat) : Mc := ⟨most, 0, [.worth e []], [], .none⟩
def spMInit (K : PySem.W.Frag) (CF CM : Addr) : Sp := fun vs H Q _ => ∃ (M dx : Addr) (ev : V) (e : Ex) (most n : Nat) (st' : Mc), vs = [.ref M, ev, .int (most : Nat)] ∧ H M = some (.ins CM dx []) ∧ Dp K H ev e.d ∧ e.ok = true ∧ mRun n (mStart e most) = some st' ∧
  ∀ H' W L wv lv, (∀ b o, H b = some o → b ≠ M → H' b = some o) → McAt K CF CM M W L H' st' dx wv lv → Q .non H'
section
variable {P : Program} {w : World} {K : PySem.W.Frag} {mg : Str → Option Value} {base : Heap} {dF dK dL dB CF CM : Addr}
abbrev nsMi : List Str := ["self", "program", "most", "task"]
theorem sc_minit : FnScope nsMi ["self", "program", "most"] (defScope s_Machine_init) := ⟨rfl, rfl, rfl, by decide +kernel, rfl, by decide +kernel, by decide +kernel⟩
theorem ok_minit {f : Addr} {fd : FuncData} (F : Fun K "__init__" "Machine.__init__" s_Machine_init f fd) (C : Cst K w mg dF dK dL dB) (cM : McC K mg CM CF) (GW : MDfn P w K mg base CM "worth" 3 ["self", "e", "names"] (spMWorth K CF CM)) (GC : MDfn P w K mg base CM "code" 2 ["self", "e", "names", "level"] (spMCode K CF CM))
    (GG : MDfn P w K mg base CM "go_on" 41 ["self", "task"] (spGo K CF CM)) : FnOk P w K mg base CX0 42 f fd ["self", "program", "most"] (spMInit K CF CM) := by
  refine F.ok sc_minit (fun vs H Q E h => ?_) (fun cdv A outer s H vs Q E hr h => ?_)
  · obtain ⟨M, dx, ev, e, most, n, st', rfl, _⟩ := h
    rfl
  · obtain ⟨M, dx, ev, e, most, n, st', rfl, hM, hd, hok, hrun, k⟩ := h
    have hr2 : Room 2 _ := hr.mono (by decide)
    have hr3 : Room 3 _ := hr.mono (by decide)
    refine ⟨_, (pss_cons (ps_fld (pv 0) (pv 2) rfl) (pss_cons (ps_fld (pv 0) pe_int rfl) (pss_cons (ps_fld (pv 0) (pe_lst (pa_cons (pe_tup (pa_cons (pe_str) (pa_cons (pv 1) (pa_cons (pe_dnewK) (pa_nil))))) (pa_nil))) rfl) (pss_cons (ps_fld (pv 0) (pe_lst (pa_nil)) rfl) (pss_cons (ps_fld (pv 0) pe_str rfl) (pss_one (ps_while PassesOwn.never (PW.pt (pw_and (pt_cmpR (op_neE hr.units0) (pe_fld (pv 0) rfl) (pe_lst (pa_nil)) (nomark _)) (pw_and1 (pt_cmpR op_eq (pe_fld (pv 0) rfl) pe_str (nomark _)))))
        (pss_cons (ps_set (i := 3) sc_minit.nd rfl (Or.inl rfl) (pe_bm0 PySem.F.plainAttrs_list PySem.F.slot_list_pop PySem.F.type_list_pop mt_pop (pe_fld (pv 0) rfl))) (pss_one (ps_if (pt_cmpR op_eq (pe_ix ix_tup (pv 3) pe_int (fun _ _ => rfl)) pe_str (nomark _)) (pss_one (ps_expr (pe_methD (pv 0) cM.cl GW hr3 (pa_cons (pe_ix ix_tup (pv 3) pe_int (fun _ _ => rfl)) (pa_cons (pe_ix ix_tup (pv 3) pe_int (fun _ _ => rfl)) (pa_nil))))))
          (pss_one (ps_if (pt_cmpR op_eq (pe_ix ix_tup (pv 3) pe_int (fun _ _ => rfl)) pe_str (nomark _)) (pss_one (ps_expr (pe_methD (pv 0) cM.cl GC hr2 (pa_cons (pe_ix ix_tup (pv 3) pe_int (fun _ _ => rfl)) (pa_cons (pe_ix ix_tup (pv 3) pe_int (fun _ _ => rfl)) (pa_cons (pe_ix ix_tup (pv 3) pe_int (fun _ _ => rfl)) (pa_nil)))))))
            (pss_one (ps_expr (pe_methD (pv 0) cM.cl GG hr (pa_cons (pv 3) (pa_nil))))))))))))))))), ?_⟩
    have nn := cM.ne
    refine ⟨_, rfl, _, rfl, M, CM, dx, _, rfl, hM, cM.cl, cM.nl, (by show 0 < 1000; decide), ?_⟩
    rw [putF_nil]
    refine ⟨_, rfl, M, CM, dx, _, rfl, upd_same, cM.cl, cM.nm, (by show 1 < 1000; decide), ?_⟩
    rw [putF_tl mSt.1, putF_nil, upd_upd]
    have hMx : ∀ {o : HO}, upd H M o M = some o := upd_same
    have s1 : ∀ {o : HO}, MSm CM H (upd H M o) := fun {o} => MSm.updM hM
    generalize hH1 : upd H M (.ins CM dx [("left", .int (most : Nat)), ("met", .int 0)]) = H1
    have hM1 : H1 M = some (.ins CM dx [("left", .int (most : Nat)), ("met", .int 0)]) := by rw [← hH1, upd_same]
    have k1 : ∀ b o, H b = some o → b ≠ M → H1 b = some o := fun b o h nb => by rw [← hH1, upd_ne nb]; exact h
    have n1 : ∀ b, H1 b = none → H b = none := fun b h => by rw [← hH1] at h; exact upd_no h
    have hd1 : Dp K H1 ev e.d := by rw [← hH1]; exact Dp.tsame (MSm.updM hM).tsame _ _ (Ex.flat _) hd
    refine ⟨_, rfl, fun d hdn => ⟨by show 3 ≤ sizeLine; decide, fun t htn => ⟨by show 1 ≤ sizeLine; decide, fun W hWn => ?_⟩⟩⟩
    have s2 := Same.new (o := .dK []) hdn
    have s3 := Same.new (o := .tup [.str ("worth" : Str), ev, .ref d]) htn
    have s4 := Same.new (o := .lst [.ref t]) hWn
    have s24 := s2.trans (s3.trans s4)
    have hd2 : upd (upd (upd H1 d (.dK [])) t (.tup [.str ("worth" : Str), ev, .ref d])) W (.lst [.ref t]) d = some (.dK []) := s4 _ _ (s3 _ _ upd_same)
    have ht2 : upd (upd (upd H1 d (.dK [])) t (.tup [.str ("worth" : Str), ev, .ref d])) W (.lst [.ref t]) t = some (.tup [.str ("worth" : Str), ev, .ref d]) := s4 _ _ upd_same
    have hW2 : upd (upd (upd H1 d (.dK [])) t (.tup [.str ("worth" : Str), ev, .ref d])) W (.lst [.ref t]) W = some (.lst [.ref t]) := upd_same
    have hWH1 : H1 W = none := s2.free (s3.free hWn)
    generalize upd (upd (upd H1 d (.dK [])) t (.tup [.str ("worth" : Str), ev, .ref d])) W (.lst [.ref t]) = H2 at s24 hd2 ht2 hW2
    have hM2 := s24 _ _ hM1
    have hMW : M ≠ W := fun z => by rw [z, hWH1] at hM1; cases hM1
    refine ⟨_, rfl, M, CM, dx, _, rfl, hM2, cM.cl, cM.nw, (by show 2 < 1000; decide), ?_⟩
    rw [putF_tl mSt.2.1, putF_tl mSt.2.2.2.2.2.1, putF_nil]
    have hM3 : upd H2 M (.ins CM dx [("left", .int (most : Nat)), ("met", .int 0), ("work", .ref W)]) M = some (.ins CM dx [("left", .int (most : Nat)), ("met", .int 0), ("work", .ref W)]) := upd_same
    have k3 : ∀ b o, H2 b = some o → b ≠ M → upd H2 M (.ins CM dx [("left", .int (most : Nat)), ("met", .int 0), ("work", .ref W)]) b = some o := fun b o h nb => by rw [upd_ne nb]; exact h
    have ms3 : MSm CM H2 (upd H2 M (.ins CM dx [("left", .int (most : Nat)), ("met", .int 0), ("work", .ref W)])) := MSm.updM hM2
    have n3 : ∀ b, upd H2 M (.ins CM dx [("left", .int (most : Nat)), ("met", .int 0), ("work", .ref W)]) b = none → H2 b = none := fun b h => upd_no h
    generalize upd H2 M (.ins CM dx [("left", .int (most : Nat)), ("met", .int 0), ("work", .ref W)]) = H3 at hM3 k3 ms3 n3
    refine ⟨by show 0 ≤ sizeLine; decide, fun L hLn => ?_⟩
    have s5 := Same.new (o := .lst []) hLn
    have hL5 : upd H3 L (.lst []) L = some (.lst []) := upd_same
    have hWL : W ≠ L := fun z => by rw [← z, k3 _ _ hW2 hMW.symm] at hLn; cases hLn
    have hLH : H L = none := n1 _ (s24.free (n3 _ hLn))
    have hWH : H W = none := n1 _ hWH1
    generalize upd H3 L (.lst []) = H5 at s5 hL5
    have hM5 := s5 _ _ hM3
    have hML : M ≠ L := fun z => by rw [← z, hM3] at hLn; cases hLn
    refine ⟨_, rfl, M, CM, dx, _, rfl, hM5, cM.cl, cM.nt, (by show 3 < 1000; decide), ?_⟩
    rw [putF_tl mSt.2.2.1, putF_tl mSt.2.2.2.2.2.2.1, putF_tl mSt.2.2.2.2.2.2.2.2.2.2.1, putF_nil]
    refine ⟨_, rfl, M, CM, dx, _, rfl, upd_same, cM.cl, cM.ny, (by show 4 < 1000; decide), ?_⟩
    rw [putF_tl mSt.2.2.2.1, putF_tl mSt.2.2.2.2.2.2.2.1, putF_tl mSt.2.2.2.2.2.2.2.2.2.2.2.1, putF_tl mSt.2.2.2.2.2.2.2.2.2.2.2.2.2.2.2.1, putF_nil, upd_upd]
    have hM6 : upd H5 M (.ins CM dx (mF (most : Nat) 0 W L "")) M = some (.ins CM dx (mF (most : Nat) 0 W L "")) := upd_same
    have k6 : ∀ b o, H5 b = some o → b ≠ M → upd H5 M (.ins CM dx (mF (most : Nat) 0 W L "")) b = some o := fun b o h nb => by rw [upd_ne nb]; exact h
    have ms6 : MSm CM H5 (upd H5 M (.ins CM dx (mF (most : Nat) 0 W L ""))) := MSm.updM hM5
    show tWhile _ _ _ _ (upd H5 M (.ins CM dx (mF (most : Nat) 0 W L "")))
    generalize upd H5 M (.ins CM dx (mF (most : Nat) 0 W L "")) = H6 at hM6 k6 ms6
    have ms16 : MSm CM H1 H6 := (MSm.of s24).trans (ms3.trans ((MSm.of s5).trans ms6))
    have mc6 : McAt K CF CM M W L H6 (mStart e most) dx [.ref t] [] := by
      refine ⟨hWL, hM6, k6 _ _ (s5 _ _ (k3 _ _ hW2 hMW.symm)) hMW.symm, k6 _ _ hL5 hML.symm, .cons ?_ .nil, .nil⟩
      have ms26 : MSm CM H2 H6 := ms3.trans ((MSm.of s5).trans ms6)
      exact ⟨t, ev, d, rfl, ms26.tsame.seqT (SqT.of ht2), Dp.tsame ms16.tsame _ _ (Ex.flat _) hd1, hok, [], ms26 _ _ hd2 (fun _ z => nomatch z) (fun _ _ z => nomatch z), .nil⟩
    have k06 : ∀ b o, H b = some o → b ≠ M → H6 b = some o := fun b o h nb => k6 _ _ (s5 _ _ (k3 _ _ (s24 _ _ (k1 b o h nb)) nb)) nb
    refine ⟨fun m σ H' => ∃ st wv lv z3, σ = [some (.ref M), some ev, some (.int (most : Nat)), z3] ∧ (∀ b o, H b = some o → b ≠ M → H' b = some o) ∧ McAt K CF CM M W L H' st dx wv lv ∧ mRun m st = some st', ⟨n, _, _, _, _, rfl, k06, mc6, hrun⟩, ?_⟩
    rintro m σ H7 ⟨st, wv, lv, z3, rfl, k7, mc7, hr7⟩
    cases m with
    | zero => cases hr7
    | succ m =>
    refine ⟨_, rfl, M, CM, dx, _, _, rfl, mc7.m, cM.cl, cM.nw, mF_work, by show 0 ≤ sizeLine; decide, fun le hle => ?_⟩
    have s8 := Same.new (o := .lst []) hle
    have mc8 := mc7.same nn s8
    have k8 : ∀ b o, H b = some o → b ≠ M → upd H7 le (.lst []) b = some o := fun b o h nb => s8 _ _ (k7 b o h nb)
    have hle8 : upd H7 le (.lst []) le = some (.lst []) := upd_same
    generalize upd H7 le (.lst []) = H8 at s8 mc8 k8 hle8
    have lw := mc8.lw
    refine ⟨W, le, wv, rfl, rfl, SqL.of mc8.w, SqL.of hle8, _, rfl, ite2 (fun hne => ?_) (fun hne => ?_)⟩
    · refine ⟨_, rfl, M, CM, dx, _, _, rfl, mc8.m, cM.cl, cM.ny, mF_why, rfl, _, rfl, ?_⟩
      refine ite2 (fun hw => ?_) (fun hw => ?_)
      · have hwy : st.why = .none := by
          have : ∀ y : Wy, decide (V.str y.s = V.str ("" : Str)) = true → y = .none := by
            intro y
            cases y <;> decide +kernel
          exact this _ hw
        have hws : ∃ tk ws, st.work = tk :: ws := by
          cases h : st.work with
          | nil =>
            rw [h] at lw
            rw [List.length_eq_zero_iff.mp lw] at hne
            cases hne
          | cons a b => exact ⟨a, b, rfl⟩
        obtain ⟨tk, ws, hws⟩ := hws
        obtain ⟨st1, hone, hr1⟩ := mRun_step hr7 hws hwy
        refine ⟨fun σ' H' => ∃ st wv lv z3, σ' = [some (.ref M), some ev, some (.int (most : Nat)), z3] ∧ (∀ b o, H b = some o → b ≠ M → H' b = some o) ∧ McAt K CF CM M W L H' st dx wv lv ∧ mRun m st = some st', fun _ _ h => ⟨m, Nat.lt_succ_self m, h⟩, ?_⟩
        have hp := mc8.ws
        rw [hws] at hp
        obtain ⟨w', v, rfl, htk, hp2⟩ := rev_cons hp
        refine ⟨_, rfl, M, CM, dx, _, _, rfl, mc8.m, cM.cl, cM.nw, mF_work, .inl ⟨rfl, _, SqL.of mc8.w⟩, W, _, v, rfl, rfl, mc8.w, by simp, ?_⟩
        rw [List.dropLast_concat]
        have mc9 := mc8.setW nn hp2
        have kp9 : Kp M W L H8 (upd H8 W (.lst w')) := Kp.updW
        have htk9 := mc8.tk nn kp9 htk
        generalize upd H8 W (.lst w') = H9 at mc9 kp9 htk9
        have fin : ∀ H' wv' lv', Kp M W L H9 H' → McAt K CF CM M W L H' st1 dx wv' lv' → ∃ st wv lv z3, [some (V.ref M), some ev, some (.int (most : Nat)), some v] = [some (.ref M), some ev, some (.int (most : Nat)), z3] ∧ (∀ b o, H b = some o → b ≠ M → H' b = some o) ∧ McAt K CF CM M W L H' st dx wv lv ∧ mRun m st = some st' := by
          intro H' wv' lv' kp' mc'
          refine ⟨st1, wv', lv', _, rfl, fun b o h nb => (kp9.trans kp') b o (k8 b o h nb) nb (fun z => ?_) (fun z => ?_), mc', hr1⟩
          · rw [z, hWH] at h; cases h
          · rw [z, hLH] at h; cases h
        cases tk with
        | worth e1 env =>
          obtain ⟨t1, ev1, nd, rfl, hq, hd1, hok1, hen⟩ := htk9
          refine ⟨_, rfl, _, _, _, _, rfl, rfl, hq, at_of (j := 0) rfl rfl, rfl, _, rfl, iteT ?_⟩
          exact ⟨_, rfl, M, dx, _, rfl, mc9.m, mF_no mN_worth, _, rfl, _, _, _, _, rfl, rfl, hq, at_of (j := 1) rfl rfl, _, rfl, _, _, _, _, rfl, rfl, hq, at_of (j := 2) rfl rfl, M, W, L, dx, nd, _, st1, _, _, ev1, e1, env, rfl, mc9, hd1, hok1, hen, hone, fin⟩
        | code e1 env l1 =>
          obtain ⟨t1, ev1, nd, rfl, hq, hd1, hok1, hen⟩ := htk9
          refine ⟨_, rfl, _, _, _, _, rfl, rfl, hq, at_of (j := 0) rfl rfl, rfl, _, rfl, iteN (by decide +kernel) ?_⟩
          refine ⟨_, rfl, _, _, _, _, rfl, rfl, hq, at_of (j := 0) rfl rfl, rfl, _, rfl, iteT ?_⟩
          exact ⟨_, rfl, M, dx, _, rfl, mc9.m, mF_no mN_code, _, rfl, _, _, _, _, rfl, rfl, hq, at_of (j := 1) rfl rfl, _, rfl, _, _, _, _, rfl, rfl, hq, at_of (j := 2) rfl rfl, _, rfl, _, _, _, _, rfl, rfl, hq, at_of (j := 3) rfl rfl, M, W, L, dx, nd, _, st1, _, _, ev1, e1, env, l1, rfl, mc9, hd1, hok1, hen, hone, fin⟩
        | bind e1 env =>
          obtain ⟨t1, ev1, nd, rfl, hq, _⟩ := id htk9
          refine ⟨_, rfl, _, _, _, _, rfl, rfl, hq, at_of (j := 0) rfl rfl, rfl, _, rfl, iteN (by decide +kernel) ?_⟩
          refine ⟨_, rfl, _, _, _, _, rfl, rfl, hq, at_of (j := 0) rfl rfl, rfl, _, rfl, iteN (by decide +kernel) ?_⟩
          exact ⟨_, rfl, M, dx, _, rfl, mc9.m, mF_no mN_go_on, _, rfl, M, W, L, dx, _, st1, _, _, _, _, rfl, mc9, htk9, hone, fin⟩
        | choose e1 env =>
          obtain ⟨t1, ev1, nd, rfl, hq, _⟩ := id htk9
          refine ⟨_, rfl, _, _, _, _, rfl, rfl, hq, at_of (j := 0) rfl rfl, rfl, _, rfl, iteN (by decide +kernel) ?_⟩
          refine ⟨_, rfl, _, _, _, _, rfl, rfl, hq, at_of (j := 0) rfl rfl, rfl, _, rfl, iteN (by decide +kernel) ?_⟩
          exact ⟨_, rfl, M, dx, _, rfl, mc9.m, mF_no mN_go_on, _, rfl, M, W, L, dx, _, st1, _, _, _, _, rfl, mc9, htk9, hone, fin⟩
        | shut =>
          obtain ⟨t1, rfl, hq⟩ := id htk9
          refine ⟨_, rfl, _, _, _, _, rfl, rfl, hq, at_of (j := 0) rfl rfl, rfl, _, rfl, iteN (by decide +kernel) ?_⟩
          refine ⟨_, rfl, _, _, _, _, rfl, rfl, hq, at_of (j := 0) rfl rfl, rfl, _, rfl, iteN (by decide +kernel) ?_⟩
          exact ⟨_, rfl, M, dx, _, rfl, mc9.m, mF_no mN_go_on, _, rfl, M, W, L, dx, _, st1, _, _, _, _, rfl, mc9, htk9, hone, fin⟩
        | opn =>
          obtain ⟨t1, rfl, hq⟩ := id htk9
          refine ⟨_, rfl, _, _, _, _, rfl, rfl, hq, at_of (j := 0) rfl rfl, rfl, _, rfl, iteN (by decide +kernel) ?_⟩
          refine ⟨_, rfl, _, _, _, _, rfl, rfl, hq, at_of (j := 0) rfl rfl, rfl, _, rfl, iteN (by decide +kernel) ?_⟩
          exact ⟨_, rfl, M, dx, _, rfl, mc9.m, mF_no mN_go_on, _, rfl, M, W, L, dx, _, st1, _, _, _, _, rfl, mc9, htk9, hone, fin⟩
        | laid =>
          obtain ⟨t1, rfl, hq⟩ := id htk9
          refine ⟨_, rfl, _, _, _, _, rfl, rfl, hq, at_of (j := 0) rfl rfl, rfl, _, rfl, iteN (by decide +kernel) ?_⟩
          refine ⟨_, rfl, _, _, _, _, rfl, rfl, hq, at_of (j := 0) rfl rfl, rfl, _, rfl, iteN (by decide +kernel) ?_⟩
          exact ⟨_, rfl, M, dx, _, rfl, mc9.m, mF_no mN_go_on, _, rfl, M, W, L, dx, _, st1, _, _, _, _, rfl, mc9, htk9, hone, fin⟩
        | made e1 ns1 n1 =>
          obtain ⟨t1, ev1, nl, rfl, hq, _⟩ := id htk9
          refine ⟨_, rfl, _, _, _, _, rfl, rfl, hq, at_of (j := 0) rfl rfl, rfl, _, rfl, iteN (by decide +kernel) ?_⟩
          refine ⟨_, rfl, _, _, _, _, rfl, rfl, hq, at_of (j := 0) rfl rfl, rfl, _, rfl, iteN (by decide +kernel) ?_⟩
          exact ⟨_, rfl, M, dx, _, rfl, mc9.m, mF_no mN_go_on, _, rfl, M, W, L, dx, _, st1, _, _, _, _, rfl, mc9, htk9, hone, fin⟩
        | done w1 =>
          obtain ⟨t1, rfl, hq⟩ := id htk9
          refine ⟨_, rfl, _, _, _, _, rfl, rfl, hq, at_of (j := 0) rfl rfl, rfl, _, rfl, iteN (by decide +kernel) ?_⟩
          refine ⟨_, rfl, _, _, _, _, rfl, rfl, hq, at_of (j := 0) rfl rfl, rfl, _, rfl, iteN (by decide +kernel) ?_⟩
          exact ⟨_, rfl, M, dx, _, rfl, mc9.m, mF_no mN_go_on, _, rfl, M, W, L, dx, _, st1, _, _, _, _, rfl, mc9, htk9, hone, fin⟩
      · have hwy : st.why ≠ .none := fun h => hw (by rw [h]; rfl)
        obtain rfl := mRun_end hr7 (.inr hwy)
        exact k _ _ _ _ _ k8 mc8
    · have hwk : st.work = [] := by
        cases h : wv with
        | nil => rw [h] at lw; exact List.length_eq_zero_iff.mp lw.symm
        | cons a b => rw [h] at hne; exact absurd rfl hne
      obtain rfl := mRun_end hr7 (.inl hwk)
      exact k _ _ _ _ _ k8 mc8
end
end Lw
set_option Elab.async false
set_option linter.all false
set_option maxRecDepth 100000
set_option maxHeartbeats 4000000
namespace Lw
open PySem PySem.Spec PyProof.Rows L2 RZ NdefX LamX
/-! ### what stays when tables may grow -/
section
variable {K : PySem.W.Frag} {CF : Addr} {H H' : Hp}
theorem ExtN.seq {a : Addr} {xs : List V} (s : ExtN H H') (h : SqL K H a xs) : SqL K H' a xs := by
  rcases h with (h | ⟨o, h⟩) | h
  · exact .inl (.inl (s _ _ h (fun _ z => nomatch z)))
  · exact .inl (.inr ⟨o, s _ _ h (fun _ z => nomatch z)⟩)
  · exact .inr h
mutual
theorem Dp.ext (s : ExtN H H') : ∀ (d : PyData) (v : V), Dp K H v d → Dp K H' v d
  | .none, _, h => by cases h; exact .non
  | .bool b, _, h => by cases h; exact .bl b
  | .int i, _, h => by cases h; exact .int i
  | .str x, _, h => by cases h; exact .str x
  | .list ds, _, h => by cases h with | lst q a => exact .lst (ExtN.seq s q) (DpAll.ext s ds _ a)
  | .tuple ds, _, h => by cases h with | tup q a => exact .tup ((ExtN.dp s).seqT q) (DpAll.ext s ds _ a)
  | .dict _, _, h => by cases h
theorem DpAll.ext (s : ExtN H H') : ∀ (ds : List PyData) (vs : List V), DpAll K H vs ds → DpAll K H' vs ds
  | [], _, h => by cases h; exact .nil
  | d :: ds, _, h => by cases h with | cons q a => exact .cons (Dp.ext s d _ q) (DpAll.ext s ds _ a)
end
mutual
theorem ThAt.ext (s : ExtN H H') : ∀ {v : V} {t : Th}, ThAt K CF H v t → ThAt K CF H' v t
  | _, _, .int i => .int i
  | _, _, .two q a b => .two ((ExtN.dp s).seqT q) (ThAt.ext s a) (ThAt.ext s b)
  | _, _, .fn h d k e r => .fn (s _ _ h (fun _ z => nomatch z)) (Dp.ext s _ _ d) k (s _ _ e (fun _ z => nomatch z)) (EnvAt.ext s r)
  | _, _, .code d k => .code (Dp.ext s _ _ d) k
theorem EnvAt.ext (s : ExtN H H') : ∀ {kvs : List (Key × V)} {env : En}, EnvAt K CF H kvs env → EnvAt K CF H' kvs env
  | _, _, .nil => .nil
  | _, _, .cons a r => .cons (ThAt.ext s a) (EnvAt.ext s r)
end
end
/-! ### shown -/
inductive Sh where
  | num (n : Int) | two (a b : Sh) | fn | quote (e : Ex)
def Sh.d : Sh → PyData
  | .num n => .tuple [.str "num", .int n]
  | .two a b => .tuple [.str "two", a.d, b.d]
  | .fn => .tuple [.str "function"]
  | .quote e => .tuple [.str "quote", e.d]
def shown : Th → Kd → Option Sh
  | .int n, .num => some (.num n)
  | .two a b, .two x y => match shown a x with
    | none => none
    | some p => match shown b y with
      | none => none
      | some q => some (.two p q)
  | _, .to _ _ => some .fn
  | .code e, .code _ => match ren 41 0 [] e with
    | none => none
    | some (e', _) => some (.quote e')
  | _, _ => none
theorem shown_two {a b : Th} {x y : Kd} {d : Sh} (h : shown (.two a b) (.two x y) = some d) : ∃ p q, shown a x = some p ∧ shown b y = some q ∧ d = .two p q := by
  rw [shown] at h
  cases h1 : shown a x with
  | none => rw [h1] at h; cases h
  | some p =>
    rw [h1] at h
    dsimp only at h
    cases h2 : shown b y with
    | none => rw [h2] at h; cases h
    | some q =>
      rw [h2] at h
      cases h
      exact ⟨p, q, rfl, rfl, rfl⟩
theorem shown_code {t : Th} {x : Kd} {d : Sh} (h : shown t (.code x) = some d) : ∃ e e' m', t = .code e ∧ ren 41 0 [] e = some (e', m') ∧ d = .quote e' := by
  cases t with
  | code e =>
    rw [shown] at h
    split at h
    · cases h
    · rename_i e' m' h1
      cases h
      exact ⟨e, e', m', rfl, h1, rfl⟩
  | int n => cases h
  | two a b => cases h
  | fn e env => cases h
def spShown (K : PySem.W.Frag) (CF : Addr) (T : List NTab) (n : Nat) : Sp := fun vs H Q _ => ∃ (v kv : V) (t : Th) (k : Kd) (d : Sh), vs = [v, kv] ∧ ThAt K CF H v t ∧ Dp K H kv k.d ∧ k.dep < n ∧ k.dep ≤ 64 ∧ shown t k = some d ∧ TabsN T H ∧ ∀ H' v', ExtN H H' → TabsN T H' → Dp K H' v' d.d → Q v' H'
section
variable {P : Program} {w : World} {K : PySem.W.Frag} {mg : Str → Option Value} {base : Heap} {dF dK dL dB CF CM : Addr}
theorem sc_shown : FnScope ["worth", "kind"] ["worth", "kind"] (defScope s_shown) := ⟨rfl, rfl, rfl, by decide +kernel, rfl, by decide +kernel, by decide +kernel⟩
theorem ok_shown (a : At0 K mg "shown" "shown" s_shown ["worth", "kind"]) (C : Cst K w mg dF dK dL dB) {T : List NTab} (GR : Dfn P w K mg base "renumbered" 43 ["e"] (spRenum K T)) : ∀ n, Dfn P w K mg base "shown" (43 + n) ["worth", "kind"] (spShown K CF T n)
  | 0 => (Dfn.never a fun vs H Q E ⟨v, kv, t, k, d, _, _, _, h, _⟩ => absurd h (Nat.not_lt_zero _)).mono (Nat.zero_le _)
  | n + 1 => .of a fun f fd F => by
    have G := ok_shown a C GR n
    refine F.ok sc_shown (fun vs H Q E h => ?_) (fun cdv A outer s H vs Q E hr h => ?_)
    · obtain ⟨v, kv, t, k, d, rfl, _⟩ := h
      rfl
    · obtain ⟨v, kv, t, kd, d, rfl, ht, hk, hn, h64, hs, hT, k⟩ := h
      have hr43 : Room 43 _ := hr.mono (show 43 ≤ 43 + n by omega)
      refine ⟨_, (pss_cons (ps_if (pt_cmpR (op_eqD hr.units) (pv 1) (pe_gv C.NUM) (nomark _)) (pss_one (ps_ret (pe_tup (pa_cons (pe_str) (pa_cons (pv 0) (pa_nil)))))) pss_nil) (pss_cons (ps_if (pt_cmpR op_eq (pe_ix ix_tup (pv 1) pe_int (fun _ _ => rfl)) (pe_gv C.TWO) (nomark _)) (pss_one (ps_ret (pe_tup (pa_cons (pe_gv C.TWO) (pa_cons (pe_callD G hr (by rfl) (pa_cons (pe_ix ix_tup (pv 0) pe_int (fun _ _ => rfl)) (pa_cons (pe_ix ix_tup (pv 1) pe_int (fun _ _ => rfl)) (pa_nil)))) (pa_cons (pe_callD G hr (by rfl) (pa_cons (pe_ix ix_tup (pv 0) pe_int (fun _ _ => rfl)) (pa_cons (pe_ix ix_tup (pv 1) pe_int (fun _ _ => rfl)) (pa_nil)))) (pa_nil))))))) pss_nil) (pss_one (ps_ret (pe_ifExp (pt_cmpR op_eq (pe_ix ix_tup (pv 1) pe_int (fun _ _ => rfl)) pe_str (nomark _)) (pe_tup (pa_cons (pe_str) (pa_nil))) (pe_tup (pa_cons (pe_str) (pa_cons (pe_callD GR hr43 (by rfl) (pa_cons (pv 0) (pa_nil))) (pa_nil))))))))), ?_⟩
      refine ⟨_, rfl, kd.d, _, hk, .str _, Kd.shaped h64, num_shaped, _, rfl, ?_⟩
      rw [show PyData.eqv kd.d (.str "num") = decide (kd = .num) from Kd.eqv kd .num]
      refine ite2 (fun hc => ?_) (fun hc => ?_)
      · obtain rfl := of_decide_eq_true hc
        cases ht with
        | int i =>
          cases hs
          refine ⟨_, rfl, by show 2 ≤ sizeLine; decide, fun p hp => ?_⟩
          have s1 := Same.new (o := .tup [.str ("num" : Str), .int i]) hp
          exact k _ _ (ExtN.of s1) (TabsN.ext hT s1) (.tup (SqT.of upd_same) (.cons (.str _) (.cons (.int _) .nil)))
        | two q a b => cases hs
        | fn h d o e r => cases hs
        | code d o => cases hs
      have e : kd ≠ .num := fun z => hc (decide_eq_true z)
      obtain ⟨p, vs, rfl, hq, ha⟩ := kd_of hk e
      refine ⟨_, rfl, _, _, _, _, rfl, rfl, hq, at_of (j := 0) rfl rfl, rfl, _, rfl, ite2 (fun hc2 => ?_) (fun hc2 => ?_)⟩
      · have hw : kd.w = "two" := by simpa using hc2
        cases kd with
        | num => exact absurd rfl e
        | to a b => exact absurd hw (by show ¬ (("to" : Str) = "two"); decide +kernel)
        | code a => exact absurd hw (by show ¬ (("code" : Str) = "two"); decide +kernel)
        | two x y =>
          obtain ⟨kx, ky, rfl, hx, hy⟩ := dp2 ha
          have d1 : x.dep < (Kd.two x y).dep := Kd.args_dep (by simp [Kd.args])
          have d2 : y.dep < (Kd.two x y).dep := Kd.args_dep (by simp [Kd.args])
          cases ht with
          | int i => cases hs
          | fn h d o e r => cases hs
          | code d o => cases hs
          | two q hta htb =>
            rename_i p2 va vb ta tb
            obtain ⟨sa, sb, h1, h2, rfl⟩ := shown_two hs
            refine ⟨_, rfl, _, _, _, _, rfl, rfl, q, at_of (j := 0) rfl rfl, _, rfl, _, _, _, _, rfl, rfl, hq, at_of (j := 1) rfl rfl, va, kx, ta, x, sa, rfl, hta, hx, by omega, by omega, h1, hT, fun H1 v1 e1 T1 hd1 => ?_⟩
            refine ⟨_, rfl, _, _, _, _, rfl, rfl, (ExtN.dp e1).seqT q, at_of (j := 1) rfl rfl, _, rfl, _, _, _, _, rfl, rfl, (ExtN.dp e1).seqT hq, at_of (j := 2) rfl rfl, vb, ky, tb, y, sb, rfl, ThAt.ext e1 htb, Dp.ext e1 _ _ hy, by omega, by omega, h2, T1, fun H2 v2 e2 T2 hd2 => ?_⟩
            refine ⟨by show 3 ≤ sizeLine; decide, fun p' hp' => ?_⟩
            have s3 := Same.new (o := .tup [.str ("two" : Str), v1, v2]) hp'
            exact k _ _ ((e1.trans e2).trans (ExtN.of s3)) (TabsN.ext T2 s3) (.tup (SqT.of upd_same) (.cons (.str _) (.cons (Dp.ext (e2.trans (ExtN.of s3)) _ _ hd1) (.cons (Dp.same s3 _ _ hd2) .nil))))
      · refine ⟨_, rfl, _, _, _, _, rfl, rfl, hq, at_of (j := 0) rfl rfl, rfl, _, rfl, ite2 (fun hc3 => ?_) (fun hc3 => ?_)⟩
        · have hw : kd.w = "to" := by simpa using hc3
          cases kd with
          | num => exact absurd rfl e
          | code a => exact absurd hw (by show ¬ (("code" : Str) = "to"); decide +kernel)
          | two a b => exact absurd hw (by show ¬ (("two" : Str) = "to"); decide +kernel)
          | to a b =>
            have hdf : d = .fn := by cases t <;> cases hs <;> rfl
            subst hdf
            refine ⟨by show 1 ≤ sizeLine; decide, fun p' hp' => ?_⟩
            have s3 := Same.new (o := .tup [.str ("function" : Str)]) hp'
            exact k _ _ (ExtN.of s3) (TabsN.ext hT s3) (.tup (SqT.of upd_same) (.cons (.str _) .nil))
        · cases kd with
          | num => exact absurd rfl e
          | to a b => exact absurd rfl hc3
          | two a b => exact absurd rfl hc2
          | code a =>
            obtain ⟨ex, e', m', rfl, hren, rfl⟩ := shown_code hs
            cases ht with
            | code hd ok =>
              refine ⟨_, rfl, v, ex, e', m', rfl, hd, ok, hren, hT, fun H1 v1 e1 T1 hd1 => ?_⟩
              refine ⟨by show 2 ≤ sizeLine; decide, fun p' hp' => ?_⟩
              have s3 := Same.new (o := .tup [.str ("quote" : Str), v1]) hp'
              exact k _ _ (e1.trans (ExtN.of s3)) (TabsN.ext T1 s3) (.tup (SqT.of upd_same) (.cons (.str _) (.cons (Dp.same s3 _ _ hd1) .nil)))
end
end Lw
set_option Elab.async false
set_option linter.all false
set_option maxRecDepth 100000
set_option maxHeartbeats 4000000
namespace Lw
open PySem PySem.Spec PyProof.Rows L2 RZ NdefX LamX
/-! ### a def with keyword-only defaults, called without them -/
structure DfnK (P : Program) (w : World) (K : PySem.W.Frag) (mg : Str → Option Value) (base : Heap) (x : Str) (k : Nat) (ps : List Str) (dvs : List V) (sp : Sp) : Prop where
  ex : ∃ f fd, FnOk P w K mg base CX0 k f fd ps sp ∧ mg x = some (.ref f) ∧ PySem.W.keepIn K (.ref f) = true ∧ ∃ ds, Vals dvs ds ∧ Binds K fd ps ds
structure AtK (K : PySem.W.Frag) (mg : Str → Option Value) (x qual : Str) (st : Stmt) (ps : List Str) (dvs : List V) : Prop where
  ex : ∃ f fd kws, FunD K x qual (defArgs st) (defBody st) (defScope st) [] kws f fd ∧ mg x = some (.ref f) ∧ ∃ ds, Vals dvs ds ∧ Binds K fd ps ds
theorem DfnK.of {P : Program} {w : World} {K : PySem.W.Frag} {mg : Str → Option Value} {base : Heap} {x qual : Str} {k : Nat} {st : Stmt} {ps : List Str} {dvs : List V} {sp : Sp} (a : AtK K mg x qual st ps dvs)
    (h : ∀ f fd kws, FunD K x qual (defArgs st) (defBody st) (defScope st) [] kws f fd → FnOk P w K mg base CX0 k f fd ps sp) : DfnK P w K mg base x k ps dvs sp := by
  obtain ⟨f, fd, kws, F, m, d⟩ := a.ex
  exact ⟨f, fd, h f fd kws F, m, F.kp, d⟩
theorem pe_callDK {X : Cx} {x : Str} {k : Nat} {ps : List Str} {dvs : List V} {sp : Sp} {e : Expr} {es : List Expr} {t : TA} {p pos : Pos} (D : DfnK X.prog X.w X.K X.mg X.base x k ps dvs sp) (hr : Room k X.A) (hg : Gl X x) (ha : PA X (e :: es) t)
    (hdb : (x == ("__debug__" : Str)) = false := by decide) (he : starEach (e :: es) X.env = (false, eval e X.env) :: starEach es X.env := by rfl) (hpl : (backTo pos (starEach es X.env)).any (·.1) = false := by rfl) :
    PE X (.Call (.Name x p) (e :: es) [] pos) (tCall sp dvs E0 t) := by
  obtain ⟨f, fd, F, m, kp, ds, hd, b⟩ := D.ex
  exact pe_call F hr hg m kp b hd pass0 ha hdb he hpl
structure RunC (mg : Str → Option Value) : Prop where
  END : GV mg "END" (.str "end")
  GREATEST : GV mg "GREATEST" (.int 5000)
/-! ### outcomes -/
inductive Oc where
  | still | great | fin (s : Sh)
def Oc.d : Oc → PyData
  | .still => .tuple [.str "still"]
  | .great => .tuple [.str "great"]
  | .fin s => .tuple [.str "end", s.d]
def outc (n : Nat) (e : Ex) (k : Kd) (most : Nat) : Option Oc :=
  match mRun n (mStart e most) with
  | none => none
  | some st => match st.why with
    | .still => some .still
    | .great => some .great
    | .none => match st.things with
      | [] => none
      | t :: _ => match shown t k with
        | none => none
        | some s => some (.fin s)
def spNeedMost : Sp := fun vs H Q _ => ∃ m : Int, vs = [.int m] ∧ 0 ≤ m ∧ m ≤ 5000 ∧ Q .non H
def spOutcome (K : PySem.W.Frag) (T : List NTab) : Sp := fun vs H Q _ => ∃ (v kv : V) (e : Ex) (k : Kd) (most n : Nat) (o : Oc), vs = [v, kv, .int (most : Nat)] ∧ Dp K H v e.d ∧ e.ok = true ∧ Dp K H kv k.d ∧ k.dep ≤ 60 ∧ outc n e k most = some o ∧ TabsN T H ∧ ∀ H' v', ExtN H H' → TabsN T H' → Dp K H' v' o.d → Q v' H'
def spRan (K : PySem.W.Frag) (T : List NTab) : Sp := fun vs H Q _ => ∃ (v : V) (e : Ex) (k : Kd) (rows : List PyData) (most n : Nat) (o : Oc), vs = [v, .int (most : Nat)] ∧ Dp K H v e.d ∧ Let e k rows ∧ k.dep ≤ 60 ∧ most ≤ 5000 ∧ outc n e k most = some o ∧ TabsN T H ∧ ∀ H' v', ExtN H H' → TabsN T H' → Dp K H' v' o.d → Q v' H'
/-- the levels told -/
inductive Levs (most : Nat) : Kd → List Ex → Oc → List Ex → Oc → Prop
  | stop {k : Kd} {found : List Ex} {last : Oc} : (∀ a, k = .code a → ∀ s, last ≠ .fin s) → Levs most k found last found last
  | go {a : Kd} {found found' : List Ex} {e : Ex} {last' last2 : Oc} {n : Nat} : e.ok = true → outc n e a most = some last' → Levs most a (found ++ [e]) last' found' last2 → Levs most (.code a) found (.fin (.quote e)) found' last2
theorem Levs.len {most : Nat} {k : Kd} {f f' : List Ex} {l l' : Oc} (h : Levs most k f l f' l') : f.length ≤ f'.length := by
  induction h with
  | stop _ => exact Nat.le_refl _
  | go _ _ _ ih =>
    rw [List.length_append] at ih
    omega
def spLevels (K : PySem.W.Frag) (T : List NTab) : Sp := fun vs H Q _ => ∃ (v : V) (e : Ex) (k : Kd) (rows : List PyData) (most n : Nat) (o o2 : Oc) (found : List Ex), vs = [v, .int (most : Nat)] ∧ Dp K H v e.d ∧ Let e k rows ∧ k.dep ≤ 60 ∧ most ≤ 5000 ∧ outc n e k most = some o ∧ Levs most k [e] o found o2 ∧ found.length ≤ 1000 ∧ TabsN T H ∧
  ∀ H' v', ExtN H H' → TabsN T H' → Dp K H' v' (.tuple [.list (found.map Ex.d), o2.d]) → Q v' H'
section
variable {P : Program} {w : World} {K : PySem.W.Frag} {mg : Str → Option Value} {base : Heap} {dF dK dL dB CF CM : Addr} {T : List NTab}
theorem sc_need_most : FnScope ["most"] ["most"] (defScope s_need_most) := ⟨rfl, rfl, rfl, by decide +kernel, rfl, by decide +kernel, by decide +kernel⟩
theorem ok_need_most {f : Addr} {fd : FuncData} (F : Fun K "need_most" "need_most" s_need_most f fd) (R : RunC mg) (GN : Dfn P w K mg base "is_number" 1 ["thing", "low", "high"] (spIsNumber K)) : FnOk P w K mg base CX0 2 f fd ["most"] spNeedMost := by
  refine F.ok sc_need_most (fun vs H Q E h => ?_) (fun cdv A outer s H vs Q E hr h => ?_)
  · obtain ⟨m, rfl, _⟩ := h
    rfl
  · obtain ⟨m, rfl, h0, h1, k⟩ := h
    refine ⟨_, (pss_one (ps_if (pt_not (pt_val (pe_callD GN hr (by rfl) (pa_cons (pv 0) (pa_cons (pe_int) (pa_cons (pe_gv R.GREATEST) (pa_nil))))))) (pss_one (ps_never)) pss_nil)), ?_⟩
    refine ⟨_, rfl, _, .int m, 0, 5000, rfl, .int m, ?_⟩
    rw [isNum, decide_eq_true h0, decide_eq_true h1]
    exact ⟨_, rfl, iteF k⟩
theorem sc_outcome : FnScope ["program", "kind", "most", "machine"] ["program", "kind", "most"] (defScope s_outcome) := ⟨rfl, rfl, rfl, by decide +kernel, rfl, by decide +kernel, by decide +kernel⟩
theorem ok_outcome {f : Addr} {fd : FuncData} (F : Fun K "outcome" "outcome" s_outcome f fd) (cM : McC K mg CM CF) (R : RunC mg) (GM : CDfn P w K mg base "Machine" CM 42 ["self", "program", "most"] (spMInit K CF CM)) (GS : Dfn P w K mg base "shown" 108 ["worth", "kind"] (spShown K CF T 65)) :
    FnOk P w K mg base CX0 109 f fd ["program", "kind", "most"] (spOutcome K T) := by
  refine F.ok sc_outcome (fun vs H Q E h => ?_) (fun cdv A outer s H vs Q E hr h => ?_)
  · obtain ⟨v, kv, e, k, most, n, o, rfl, _⟩ := h
    rfl
  · obtain ⟨v, kv, e, kd, most, n, o, rfl, hd, hok, hk, h60, ho, hT, k⟩ := h
    refine ⟨_, (pss_cons (ps_set (i := 3) sc_outcome.nd rfl (Or.inl rfl) (pe_makeD GM (hr.mono (by decide)) (by rfl) (pa_cons (pv 0) (pa_cons (pv 2) (pa_nil))))) (pss_cons (ps_if (pt_cmpR op_ne (pe_fld (pv 3) rfl) pe_str (nomark _)) (pss_one (ps_ret (pe_tup (pa_cons (pe_fld (pv 3) rfl) (pa_nil))))) pss_nil) (pss_one (ps_ret (pe_tup (pa_cons (pe_gv R.END) (pa_cons (pe_callD GS hr (by rfl) (pa_cons (pe_ix ix_list (pe_fld (pv 3) rfl) (pe_un un_neg pe_int) (fun _ _ => rfl)) (pa_cons (pv 1) (pa_nil)))) (pa_nil)))))))), ?_⟩
    unfold outc at ho
    cases hr' : mRun n (mStart e most) with
    | none => rw [hr'] at ho; cases ho
    | some st =>
    rw [hr'] at ho
    dsimp only at ho
    refine ⟨_, rfl, _, rfl, ?_⟩
    intro x dx nx nd ne
    have sA : Same H (upd (upd H dx (.own x)) x (.ins CM dx [])) := Same.over (Same.new nd) nx
    refine ⟨x, dx, v, e, most, n, st, rfl, upd_same, Dp.same sA _ _ hd, hok, hr', fun H1 W L wv lv kp mc => ⟨rfl, ?_⟩⟩
    have s1 : Same H H1 := Same.made nx nd kp
    refine ⟨_, rfl, x, CM, dx, _, _, rfl, mc.m, cM.cl, cM.ny, mF_why, rfl, _, rfl, ?_⟩
    have bad : ∀ y : Wy, st.why = y → y ≠ .none → o.d = .tuple [.str y.s] → ite ((!decide (V.str st.why.s = V.str ("" : Str))) = true) (tRet (tTup (tCons (tFld K (tVar 3) "why") tNil)) { nx := fun _ H' => Q .non H', rt := Q } [some v, some kv, some (.int (most : Nat)), some (.ref x)] H1)
        (tRet (tTup (tCons (tC (.str "end")) (tCons (tCall (spShown K CF T 65) [] E0 (tCons (tOp (rIxL K) (tFld K (tVar 3) "things") (tUn (rU fun i => .int (-i)) (tC (.int 1)))) (tCons (tVar 1) tNil))) tNil))) { nx := fun _ H' => Q .non H', rt := Q } [some v, some kv, some (.int (most : Nat)), some (.ref x)] H1) := by
      intro y hy hne hod
      have hc : (!decide (V.str st.why.s = V.str ("" : Str))) = true := by
        rw [hy]
        cases y with
        | none => exact absurd rfl hne
        | still => decide +kernel
        | great => decide +kernel
      rw [if_pos hc]
      refine ⟨_, rfl, x, CM, dx, _, _, rfl, mc.m, cM.cl, cM.ny, mF_why, by show 1 ≤ sizeLine; decide, fun p hp => ?_⟩
      have s2 := Same.new (o := .tup [.str st.why.s]) hp
      refine k _ _ (ExtN.of (s1.trans s2)) (TabsN.ext hT (s1.trans s2)) ?_
      rw [hod, ← hy]
      exact .tup (SqT.of upd_same) (.cons (.str _) .nil)
    cases hy : st.why with
    | still =>
      rw [hy] at ho
      cases ho
      rw [← hy]
      exact bad .still hy (by decide) rfl
    | great =>
      rw [hy] at ho
      cases ho
      rw [← hy]
      exact bad .great hy (by decide) rfl
    | none =>
      rw [hy] at ho
      dsimp only at ho
      refine iteN (by decide +kernel) ?_
      cases hth : st.things with
      | nil => rw [hth] at ho; cases ho
      | cons t ts =>
        rw [hth] at ho
        dsimp only at ho
        cases hs : shown t kd with
        | none => rw [hs] at ho; cases ho
        | some sh =>
          rw [hs] at ho
          cases ho
          have hp := mc.ts
          rw [hth] at hp
          obtain ⟨l', v', rfl, hv', _⟩ := rev_cons hp
          refine ⟨_, rfl, x, CM, dx, _, _, rfl, mc.m, cM.cl, cM.nt, mF_things, _, rfl, L, _, _, v', rfl, rfl, SqL.of mc.l, atI_last _ _, _, rfl, v', kv, t, kd, sh, rfl, hv', Dp.same s1 _ _ hk, by omega, by omega, hs, TabsN.ext hT s1, fun H2 v2 e2 T2 hd2 => ?_⟩
          refine ⟨by show 2 ≤ sizeLine; decide, fun p hp => ?_⟩
          have s3 := Same.new (o := .tup [.str ("end" : Str), v2]) hp
          exact k _ _ ((ExtN.of s1).trans (e2.trans (ExtN.of s3))) (TabsN.ext T2 s3) (.tup (SqT.of upd_same) (.cons (.str _) (.cons (Dp.same s3 _ _ hd2) .nil)))
end
end Lw
set_option Elab.async false
set_option linter.all false
set_option maxRecDepth 100000
set_option maxHeartbeats 4000000
namespace Lw
open PySem PySem.Spec PyProof.Rows L2 RZ NdefX LamX
/-! ### the top's facts, by names -/
theorem fun_of {K : PySem.W.Frag} {x qual : Str} {st : Stmt} {f : Addr} {fd : FuncData} {kws : List (Str × V)} (F : FunD K x qual (defArgs st) (defBody st) (defScope st) [] kws f fd) : Fun K x qual st f fd := by
  obtain ⟨oc, od, dV, kV, doc, pm, an, cdv, ct, osl, e, lk, hcd, hD, _⟩ := F.ex
  rcases hD with ⟨_, rfl⟩ | ⟨z, _⟩
  · exact ⟨⟨oc, od, kV, doc, pm, an, cdv, ct, osl, e, lk, hcd⟩, F.kp⟩
  · exact absurd rfl z
theorem funT_of {K : PySem.W.Frag} {x qual : Str} {st : Stmt} {p : Str × Option Str} {fd : FuncData} (F : Fun K x qual st (He.fAd K p) fd) : FunT K x qual st (He.fAd K p) fd (He.codeOf K p) := by
  obtain ⟨oc, od, kV, doc, pm, an, cdv, ct, osl, e, lk, hcd⟩ := F.ex
  obtain ⟨c, rfl⟩ := He.codeIn_ref hcd
  have e2 : He.codeOf K p = c := He.codeOf_eq lk (by rw [e])
  rw [e2]
  exact ⟨oc, od, kV, doc, pm, an, ct, osl, e, lk, hcd⟩
section
variable {K : PySem.W.Frag} {w : World} {h : Heap} {mg : Str → Option Value}
theorem gv_ref (X : K.In h) (G : h.Ns mainGlobals mg) {x : Str} (c : (He.Fa.glo x).ok K = true) : GV mg x (.ref (He.ga K x)) := ⟨_, He.glo_ok X G c, rfl⟩
theorem gv_int (X : K.In h) (G : h.Ns mainGlobals mg) {x : Str} {i : Int} (c : (He.Fa.int x i).ok K = true) : GV mg x (.int i) := by
  obtain ⟨t, e⟩ := He.int_ok X G c
  exact ⟨_, e, t, rfl⟩
theorem gv_str (X : K.In h) (G : h.Ns mainGlobals mg) {x z : Str} (c : (He.Fa.str x z).ok K = true) : GV mg x (.str z) := by
  obtain ⟨t, e⟩ := He.str_ok X G c
  exact ⟨_, e, t, rfl⟩
end
theorem key_no {P : Params} {z : Str} : ∀ {l : List DictEntry} {ks : List Str}, l.map He.keyOf = He.keysIn P ks → z ∉ ks → l.find? (fun e => Value.isStrOf z e.key) = none
  | [], _, _, _ => rfl
  | e :: r, [], h, _ => by cases h
  | e :: r, k :: ks, h, hz => by
    have h1 : He.keyOf e :: r.map He.keyOf = some (k, PyData.keyHash P k) :: He.keysIn P ks := h
    injection h1 with h2 h3
    have ih := key_no (l := r) (ks := ks) h3 (fun q => hz (List.mem_cons_of_mem _ q))
    rw [List.find?_cons]
    unfold He.keyOf at h2
    split at h2
    · rename_i x t q
      have h5 := congrArg (fun o : Option (Str × Int) => o.map (·.1)) h2
      have h6 : x = k := Option.some.inj h5
      have h4 : Value.isStrOf z e.key = false := by
        rw [q]
        have hne : x ≠ z := fun h => hz (by rw [← h, h6]; exact List.mem_cons_self)
        exact beq_eq_false_iff_ne.mpr hne
      rw [h4]
      exact ih
    · cases h2
theorem look_mem2 {β : Type} {z : Str} {d : β} : ∀ {kvs : List (Str × β)}, kvs.lookup z = some d → (z, d) ∈ kvs
  | [], h => by cases h
  | (k, e) :: r, h => by
    rw [List.lookup_cons] at h
    cases hb : z == k with
    | true =>
      rw [hb] at h
      cases h
      rw [beq_iff_eq.mp hb]
      exact List.mem_cons_self
    | false =>
      rw [hb] at h
      exact List.mem_cons_of_mem _ (look_mem2 h)
theorem look_no2 {β : Type} {z : Str} : ∀ {kvs : List (Str × β)}, kvs.lookup z = none → z ∉ kvs.map (·.1)
  | [], _ => by simp
  | (k, e) :: r, h => by
    rw [List.lookup_cons] at h
    cases hb : z == k with
    | true =>
      rw [hb] at h
      cases h
    | false =>
      rw [hb] at h
      intro hm
      rcases List.mem_cons.mp hm with e2 | hm
      · have e3 : z = k := e2
        rw [e3, beq_self_eq_true] at hb
        cases hb
      · exact look_no2 h hm
theorem kdc_of {K : PySem.W.Frag} {w : World} {a : Addr} {kvs : List (Str × He.Dv)} {ks : List Str} (hk : He.dicW K a = some (He.keysIn w.params ks)) (D : ∃ es n, KDict K w a es n) (hv : He.valsB K a kvs = true) (hks : kvs.map (·.1) = ks) : KDc K w a (fun z => (kvs.lookup z).map (He.Dv.v K)) := by
  obtain ⟨es, n, d⟩ := D
  refine ⟨es, n, d, fun z => ⟨_, rfl, ?_⟩⟩
  cases hl : kvs.lookup z with
  | some dv =>
    have hm := look_mem2 hl
    obtain ⟨u, e1, e2⟩ := He.valsB_ok hv hm
    rw [PySem.W.find_K d.at_ e1]
    exact e2
  | none =>
    have hz : z ∉ ks := by
      rw [← hks]
      exact look_no2 hl
    have e1 : es.toList.map He.keyOf = He.keysIn w.params ks := by
      unfold He.dicW at hk
      rw [d.at_] at hk
      have h1 : (match decide ("dict" = "dict") && ((#[] : Array (Option Value)).isEmpty && !(a == sysModules)) with
        | true => some (es.toList.map He.keyOf)
        | false => none) = some (He.keysIn w.params ks) := hk
      rw [d.low] at h1
      exact Option.some.inj h1
    rw [findBy_list, key_no e1 hz]
    exact trivial
def dG (x : Str) (st : Stmt) : He.DefD := ⟨(x, none), x, x, defArgs st, defBody st, defScope st, [], []⟩
def dM (C m q : Str) (st : Stmt) : He.DefD := ⟨(C, some m), m, q, defArgs st, defBody st, defScope st, [], []⟩
section
variable {K : PySem.W.Frag} {w : World} {h : Heap} {mg : Str → Option Value} {fa : List He.Fa} {fn : List He.DefD}
theorem at0_of (X : K.In h) (G : h.Ns mainGlobals mg) (c : He.SaysD fa fn K) {x : Str} {st : Stmt} {ps : List Str} (hd : dG x st ∈ fn) (hg : He.Fa.glo x ∈ fa)
    (hb : ∀ (kV doc pm : Value) (an : Option Addr) (cdv ct : Value) (us : List Value), us.length = ps.length → bindArgs (PySem.W.fnOf x x (defArgs st) (defBody st) (defScope st) .none kV doc pm an cdv ct) ⟨us, []⟩ = pure (ps.zip us)) : At0 K mg x x st ps := by
  obtain ⟨fd, F⟩ := c.defs hd
  have F2 : Fun K x x st (He.ga K x) fd := fun_of F
  exact ⟨⟨_, fd, F2, He.glo_ok X G (c.facts hg), F2.binds hb⟩⟩
theorem mat_of (c : He.SaysD fa fn K) {C m q : Str} {st : Stmt} {ps : List Str} (hd : dM C m q st ∈ fn) (hg : He.Fa.meth C m ∈ fa)
    (hb : ∀ (kV doc pm : Value) (an : Option Addr) (cdv ct : Value) (us : List Value), us.length = ps.length → bindArgs (PySem.W.fnOf m q (defArgs st) (defBody st) (defScope st) .none kV doc pm an cdv ct) ⟨us, []⟩ = pure (ps.zip us)) : MAt K (He.ga K C) m q st ps := by
  obtain ⟨fd, F⟩ := c.defs hd
  have F2 : Fun K m q st (He.ma K (He.ga K C) m) fd := fun_of F
  exact ⟨⟨_, fd, F2, He.meth_ok (c.facts hg), F2.binds hb⟩⟩
theorem cat_of (X : K.In h) (G : h.Ns mainGlobals mg) (c : He.SaysD fa fn K) {C q : Str} {st : Stmt} {ps : List Str} (hd : dM C "__init__" q st ∈ fn) (hg : He.Fa.glo C ∈ fa) (hm : He.Fa.mkr C ∈ fa)
    (hb : ∀ (kV doc pm : Value) (an : Option Addr) (cdv ct : Value) (us : List Value), us.length = ps.length → bindArgs (PySem.W.fnOf "__init__" q (defArgs st) (defBody st) (defScope st) .none kV doc pm an cdv ct) ⟨us, []⟩ = pure (ps.zip us)) : CAt K mg C (He.ga K C) q st ps := by
  obtain ⟨fd, F⟩ := c.defs hd
  have F2 : Fun K "__init__" q st (He.ma K (He.ga K C) "__init__") fd := fun_of F
  exact ⟨He.glo_ok X G (c.facts hg), ⟨_, fd, F2, He.mkr_ok (c.facts hm), F2.binds hb⟩⟩
theorem atT_of (X : K.In h) (G : h.Ns mainGlobals mg) (c : He.SaysD fa fn K) {x : Str} {st : Stmt} {ps : List Str} (hd : dG x st ∈ fn) (hg : He.Fa.glo x ∈ fa)
    (hb : ∀ (kV doc pm : Value) (an : Option Addr) (cdv ct : Value) (us : List Value), us.length = ps.length → bindArgs (PySem.W.fnOf x x (defArgs st) (defBody st) (defScope st) .none kV doc pm an cdv ct) ⟨us, []⟩ = pure (ps.zip us)) : AtT K mg x x st ps (He.codeOf K (x, none)) := by
  obtain ⟨fd, F⟩ := c.defs hd
  have F2 : Fun K x x st (He.fAd K (x, none)) fd := fun_of F
  exact ⟨⟨_, fd, funT_of F2, He.glo_ok X G (c.facts hg), F2.kp, F2.binds hb⟩⟩
/-- is_kind's default -/
def dD (x : Str) (st : Stmt) (dv : List He.Dv) : He.DefD := ⟨(x, none), x, x, defArgs st, defBody st, defScope st, dv, []⟩
theorem atD_of (X : K.In h) (G : h.Ns mainGlobals mg) (c : He.SaysD fa fn K) {x : Str} {st : Stmt} {p1 p2 : Str} {i : Int} (hd : dD x st [.int i] ∈ fn) (hg : He.Fa.glo x ∈ fa)
    (hb1 : ∀ (T : Addr) (kV doc pm : Value) (an : Option Addr) (cdv ct : Value) (us its : List Value), us.length = 1 → its.length = 1 → ∃ k, bindArgs (PySem.W.fnOf x x (defArgs st) (defBody st) (defScope st) (.ref T) kV doc pm an cdv ct) ⟨us, []⟩ = seqItems? (.ref T) >>= k ∧ k (some its.toArray) = pure ([p1, p2].zip (us ++ its.drop 0)))
    (hb2 : ∀ (T : Addr) (kV doc pm : Value) (an : Option Addr) (cdv ct : Value) (us its : List Value), us.length = 2 → its.length = 1 → ∃ k, bindArgs (PySem.W.fnOf x x (defArgs st) (defBody st) (defScope st) (.ref T) kV doc pm an cdv ct) ⟨us, []⟩ = seqItems? (.ref T) >>= k ∧ k (some its.toArray) = pure ([p1, p2].zip (us ++ its.drop 1))) : AtD K mg x x st [p1, p2] [.int i] := by
  obtain ⟨fd, F⟩ := c.defs hd
  have F2 : FunD K x x (defArgs st) (defBody st) (defScope st) [.int i] [] (He.ga K x) fd := F
  obtain ⟨ds, v1, b1⟩ := F2.binds1 (ps := [p1, p2]) 1 0 (by simp) rfl hb1
  obtain ⟨ds2, v2, b2⟩ := F2.binds1 (ps := [p1, p2]) 2 1 (by simp) rfl hb2
  cases v2
  exact ⟨⟨_, fd, _, F2, He.glo_ok X G (c.facts hg), b2, ds, v1, b1⟩⟩
def dK (x : Str) (st : Stmt) (kw : List (Str × He.Dv)) : He.DefD := ⟨(x, none), x, x, defArgs st, defBody st, defScope st, [], kw⟩
theorem atK_of (X : K.In h) (G : h.Ns mainGlobals mg) (c : He.SaysD fa fn K) {x : Str} {st : Stmt} {p1 p2 : Str} {i : Int} (hd : dK x st [(p2, .int i)] ∈ fn) (hg : He.Fa.glo x ∈ fa)
    (hb : ∀ (D : Addr) (doc pm : Value) (an : Option Addr) (cdv ct : Value) (us ks : List Value), us.length = 1 → ks.length = 1 → KwChain D (([(p2, V.int i)].map (·.1)).zip ks) (bindArgs (PySem.W.fnOf x x (defArgs st) (defBody st) (defScope st) .none (.ref D) doc pm an cdv ct) ⟨us, []⟩) ([p1, p2].zip (us ++ ks))) : AtK K mg x x st [p1, p2] [.int i] := by
  obtain ⟨fd, F⟩ := c.defs hd
  have F2 : FunD K x x (defArgs st) (defBody st) (defScope st) [] [(p2, V.int i)] (He.ga K x) fd := F
  obtain ⟨ds, v1, b1⟩ := F2.binds0 (ps := [p1, p2]) 1 (by simp) rfl hb
  exact ⟨⟨_, fd, _, F2, He.glo_ok X G (c.facts hg), ds, v1, b1⟩⟩
end
def dvS (l : List (Str × Str)) : List (Str × He.Dv) := l.map fun q => (q.1, .str q.2)
def dvI (l : List (Str × Int)) : List (Str × He.Dv) := l.map fun q => (q.1, .int q.2)
theorem dvS_look (z : Str) (K : PySem.W.Frag) : ∀ l : List (Str × Str), ((dvS l).lookup z).map (He.Dv.v K) = (l.lookup z).map V.str
  | [] => rfl
  | (k, v) :: r => by
    show (((k, He.Dv.str v) :: dvS r).lookup z).map _ = _
    rw [List.lookup_cons, List.lookup_cons]
    cases z == k with
    | true => rfl
    | false => exact dvS_look z K r
theorem dvI_look (z : Str) (K : PySem.W.Frag) : ∀ l : List (Str × Int), ((dvI l).lookup z).map (He.Dv.v K) = (l.lookup z).map V.int
  | [] => rfl
  | (k, v) :: r => by
    show (((k, He.Dv.int v) :: dvI r).lookup z).map _ = _
    rw [List.lookup_cons, List.lookup_cons]
    cases z == k with
    | true => rfl
    | false => exact dvI_look z K r
theorem dicQ_of {K : PySem.W.Frag} {w : World} {fa : List He.Fa} {fn : List He.DefD} {ts : List He.Tab} {t : He.Tab} {i : Nat} (c : He.SaysT fa fn ts w K) (ht : ts[i]? = some t) {kvs : List (Str × He.Dv)} (hv : He.valsB K (t.1 K) kvs = true) (hk : kvs.map (·.1) = t.2) : KDc K w (t.1 K) (fun z => (kvs.lookup z).map (He.Dv.v K)) := by
  have e : ts.map (fun t => He.dicW K (t.1 K)) = ts.map fun t => some (He.keysIn w.params t.2) := congrArg (fun z : He.AlT => z.2) c
  have e2 : (ts.map fun t => He.dicW K (t.1 K))[i]? = (ts.map fun t => some (He.keysIn w.params t.2))[i]? := by rw [e]
  rw [List.getElem?_map, List.getElem?_map, ht] at e2
  exact kdc_of (Option.some.inj e2) (c.tab i ht) hv hk
end Lw
set_option Elab.async false
set_option linter.all false
set_option maxRecDepth 100000
set_option maxHeartbeats 4000000
namespace Lw
open PySem PySem.Spec PyProof.Rows L2 RZ NdefX LamX
/-! the facts of this top, by names: printed by gfacts.py -/
def fnQ0 : List He.DefD := [dG "is_number" s_is_number, dD "is_kind" s_is_kind [.int 5], dG "has_code" s_has_code, dG "is_data" s_is_data, dG "is_head" s_is_head, dG "parts_of" s_parts_of, dG "binders_of" s_binders_of, dG "need_program" s_need_program, dG "size_of" s_size_of, dG "is_great" s_is_great, dG "rebuilt" s_rebuilt, dG "renumbered" s_renumbered, dM "Name" "__init__" "Name.__init__" s_Name_init, dG "with_name" s_with_name, dM "Check" "__init__" "Check.__init__" s_Check_init]
def fnQ1 : List He.DefD := [dM "Check" "must" "Check.must" s_Check_must, dM "Check" "look" "Check.look" s_Check_look, dM "Check" "named" "Check.named" s_Check_named, dM "Check" "inner" "Check.inner" s_Check_inner, dM "Check" "kind_of" "Check.kind_of" s_Check_kind_of, dG "kind_of" s_kind_of, dM "Function" "__init__" "Function.__init__" s_Function_init, dG "with_names" s_with_names, dG "reckoned" s_reckoned, dG "written_out" s_written_out, dM "Machine" "__init__" "Machine.__init__" s_Machine_init, dM "Machine" "take" "Machine.take" s_Machine_take, dM "Machine" "worth" "Machine.worth" s_Machine_worth, dM "Machine" "code" "Machine.code" s_Machine_code, dM "Machine" "go_on" "Machine.go_on" s_Machine_go_on]
def fnQ2 : List He.DefD := [dM "Machine" "done" "Machine.done" s_Machine_done, dM "Machine" "call" "Machine.call" s_Machine_call, dG "shown" s_shown, dG "need_most" s_need_most, dG "outcome" s_outcome, dG "need_code" s_need_code, dK "made" s_made [("most", .int 500)], dK "levels" s_levels [("most", .int 500)], dG "_law_taken" s_law_taken, dG "_law_alike" s_law_alike, dG "_law_parts" s_law_parts, dG "_law_many" s_law_many, dG "_law_sum_of" s_law_sum_of, dG "_law_come_to" s_law_come_to, dG "_law_folded" s_law_folded]
def fnQ3 : List He.DefD := [dG "_law_makers" s_law_makers, dG "law" s_law]
def fnQ : List He.DefD := fnQ0 ++ (fnQ1 ++ (fnQ2 ++ (fnQ3)))
def faQ0 : List He.Fa := [.glo "LaterError", .glo "BadProgram", .glo "BadKind", .glo "BadMost", .glo "NotCode", .glo "KINDS", .glo "BOTH", .glo "FORMS", .glo "is_number", .glo "is_kind", .glo "has_code", .glo "is_data", .glo "is_head", .glo "parts_of", .glo "binders_of", .glo "need_program", .glo "size_of", .glo "is_great", .glo "rebuilt", .glo "renumbered", .glo "LATER", .glo "Name", .glo "with_name", .glo "Check", .glo "kind_of", .glo "Function", .glo "with_names", .glo "reckoned", .glo "written_out", .glo "Machine"]
def faQ1 : List He.Fa := [.glo "shown", .glo "need_most", .glo "outcome", .glo "need_code", .glo "made", .glo "levels", .glo "_law_taken", .glo "_law_alike", .glo "_law_parts", .glo "_law_many", .glo "_law_sum_of", .glo "_law_come_to", .glo "_law_folded", .glo "_law_makers", .glo "law", .free "ValueError", .free "all", .free "any", .free "bool", .free "dict", .free "int", .free "isinstance", .free "len", .free "list", .free "max", .free "range", .free "str", .free "sum", .free "tuple", .free "zip"]
def faQ2 : List He.Fa := [.str "NUM" "num", .str "TO" "to", .str "TWO" "two", .str "CODE" "code", .int "LIMIT" 1000, .int "MOST_IN_KIND" 5, .int "MOST_PARTS" 400, .int "MOST_WITHIN" 40, .int "MOST_LEVEL" 3, .cls "Name", .noat "Name" "level", .noat "Name" "kind", .noat "Name" "runs", .mkr "Name", .cls "Check", .noat "Check" "found", .noat "Check" "kind", .mkr "Check", .meth "Check" "must", .meth "Check" "look", .meth "Check" "named", .meth "Check" "inner", .meth "Check" "kind_of", .str "STILL" "still", .str "GREAT" "great", .cls "Function", .noat "Function" "e", .noat "Function" "bound", .mkr "Function", .cls "Machine"]
def faQ3 : List He.Fa := [.noat "Machine" "left", .noat "Machine" "met", .noat "Machine" "work", .noat "Machine" "things", .noat "Machine" "why", .mkr "Machine", .meth "Machine" "take", .meth "Machine" "worth", .meth "Machine" "code", .meth "Machine" "go_on", .meth "Machine" "done", .meth "Machine" "call", .int "MOST" 500, .int "GREATEST" 5000, .str "END" "end"]
def faQ : List He.Fa := faQ0 ++ (faQ1 ++ (faQ2 ++ (faQ3)))
def tb_KINDS : List (Str × He.Dv) := [("to", .int 2), ("two", .int 2), ("code", .int 1)]
def tb_FORMS : List (Str × He.Dv) := [("num", .str "n"), ("name", .str "n"), ("plus", .str "ee"), ("times", .str "ee"), ("less", .str "ee"), ("if", .str "eee"), ("let", .str "nee"), ("fun", .str "nke"), ("rec", .str "nnkke"), ("call", .str "ee"), ("two", .str "ee"), ("first", .str "e"), ("second", .str "e"), ("quote", .str "e"), ("now", .str "e"), ("run", .str "e"), ("carry", .str "e")]
def tb_LATER : List (Str × He.Dv) := [("quote", .int 1), ("now", .int (-1)), ("carry", .int (-1))]
def tsQ : List He.Tab := [(fun K => He.ga K "KINDS", tb_KINDS.map (·.1)), (fun K => He.ga K "FORMS", tb_FORMS.map (·.1)), (fun K => He.ga K "LATER", tb_LATER.map (·.1))]
def tfQ : List He.Defn := [("renumbered", none)]
def exQ (K : PySem.W.Frag) : Bool := He.valsB K (He.ga K "KINDS") tb_KINDS && (He.valsB K (He.ga K "FORMS") tb_FORMS && (He.valsB K (He.ga K "LATER") tb_LATER && (He.tupB K "BOTH" [.str "plus", .str "times", .str "less"] && (!decide (He.ga K "Name" = He.ga K "Check") && (!decide (He.ga K "Name" = He.ga K "Function") && (!decide (He.ga K "Name" = He.ga K "Machine") && (!decide (He.ga K "Check" = He.ga K "Function") && (!decide (He.ga K "Check" = He.ga K "Machine") && (!decide (He.ga K "Function" = He.ga K "Machine"))))))))))
section
variable {K : PySem.W.Frag} {w : World} {h : Heap} {mg : Str → Option Value}
theorem m_is_number : (dG "is_number" s_is_number : He.DefD) ∈ fnQ := List.mem_of_getElem? (i := 0) rfl
theorem m_is_kind : (dD "is_kind" s_is_kind [.int 5] : He.DefD) ∈ fnQ := List.mem_of_getElem? (i := 1) rfl
theorem m_has_code : (dG "has_code" s_has_code : He.DefD) ∈ fnQ := List.mem_of_getElem? (i := 2) rfl
theorem m_is_data : (dG "is_data" s_is_data : He.DefD) ∈ fnQ := List.mem_of_getElem? (i := 3) rfl
theorem m_is_head : (dG "is_head" s_is_head : He.DefD) ∈ fnQ := List.mem_of_getElem? (i := 4) rfl
theorem m_parts_of : (dG "parts_of" s_parts_of : He.DefD) ∈ fnQ := List.mem_of_getElem? (i := 5) rfl
theorem m_binders_of : (dG "binders_of" s_binders_of : He.DefD) ∈ fnQ := List.mem_of_getElem? (i := 6) rfl
theorem m_need_program : (dG "need_program" s_need_program : He.DefD) ∈ fnQ := List.mem_of_getElem? (i := 7) rfl
theorem m_size_of : (dG "size_of" s_size_of : He.DefD) ∈ fnQ := List.mem_of_getElem? (i := 8) rfl
theorem m_is_great : (dG "is_great" s_is_great : He.DefD) ∈ fnQ := List.mem_of_getElem? (i := 9) rfl
theorem m_rebuilt : (dG "rebuilt" s_rebuilt : He.DefD) ∈ fnQ := List.mem_of_getElem? (i := 10) rfl
theorem m_renumbered : (dG "renumbered" s_renumbered : He.DefD) ∈ fnQ := List.mem_of_getElem? (i := 11) rfl
theorem m_Name_init : (dM "Name" "__init__" "Name.__init__" s_Name_init : He.DefD) ∈ fnQ := List.mem_of_getElem? (i := 12) rfl
theorem m_with_name : (dG "with_name" s_with_name : He.DefD) ∈ fnQ := List.mem_of_getElem? (i := 13) rfl
theorem m_Check_init : (dM "Check" "__init__" "Check.__init__" s_Check_init : He.DefD) ∈ fnQ := List.mem_of_getElem? (i := 14) rfl
theorem m_Check_must : (dM "Check" "must" "Check.must" s_Check_must : He.DefD) ∈ fnQ := List.mem_of_getElem? (i := 15) rfl
theorem m_Check_look : (dM "Check" "look" "Check.look" s_Check_look : He.DefD) ∈ fnQ := List.mem_of_getElem? (i := 16) rfl
theorem m_Check_named : (dM "Check" "named" "Check.named" s_Check_named : He.DefD) ∈ fnQ := List.mem_of_getElem? (i := 17) rfl
theorem m_Check_inner : (dM "Check" "inner" "Check.inner" s_Check_inner : He.DefD) ∈ fnQ := List.mem_of_getElem? (i := 18) rfl
theorem m_Check_kind_of : (dM "Check" "kind_of" "Check.kind_of" s_Check_kind_of : He.DefD) ∈ fnQ := List.mem_of_getElem? (i := 19) rfl
theorem m_kind_of : (dG "kind_of" s_kind_of : He.DefD) ∈ fnQ := List.mem_of_getElem? (i := 20) rfl
theorem m_Function_init : (dM "Function" "__init__" "Function.__init__" s_Function_init : He.DefD) ∈ fnQ := List.mem_of_getElem? (i := 21) rfl
theorem m_with_names : (dG "with_names" s_with_names : He.DefD) ∈ fnQ := List.mem_of_getElem? (i := 22) rfl
theorem m_reckoned : (dG "reckoned" s_reckoned : He.DefD) ∈ fnQ := List.mem_of_getElem? (i := 23) rfl
theorem m_written_out : (dG "written_out" s_written_out : He.DefD) ∈ fnQ := List.mem_of_getElem? (i := 24) rfl
theorem m_Machine_init : (dM "Machine" "__init__" "Machine.__init__" s_Machine_init : He.DefD) ∈ fnQ := List.mem_of_getElem? (i := 25) rfl
theorem m_Machine_take : (dM "Machine" "take" "Machine.take" s_Machine_take : He.DefD) ∈ fnQ := List.mem_of_getElem? (i := 26) rfl
theorem m_Machine_worth : (dM "Machine" "worth" "Machine.worth" s_Machine_worth : He.DefD) ∈ fnQ := List.mem_of_getElem? (i := 27) rfl
theorem m_Machine_code : (dM "Machine" "code" "Machine.code" s_Machine_code : He.DefD) ∈ fnQ := List.mem_of_getElem? (i := 28) rfl
theorem m_Machine_go_on : (dM "Machine" "go_on" "Machine.go_on" s_Machine_go_on : He.DefD) ∈ fnQ := List.mem_of_getElem? (i := 29) rfl
theorem m_Machine_done : (dM "Machine" "done" "Machine.done" s_Machine_done : He.DefD) ∈ fnQ := List.mem_of_getElem? (i := 30) rfl
theorem m_Machine_call : (dM "Machine" "call" "Machine.call" s_Machine_call : He.DefD) ∈ fnQ := List.mem_of_getElem? (i := 31) rfl
theorem m_shown : (dG "shown" s_shown : He.DefD) ∈ fnQ := List.mem_of_getElem? (i := 32) rfl
theorem m_need_most : (dG "need_most" s_need_most : He.DefD) ∈ fnQ := List.mem_of_getElem? (i := 33) rfl
theorem m_outcome : (dG "outcome" s_outcome : He.DefD) ∈ fnQ := List.mem_of_getElem? (i := 34) rfl
theorem m_need_code : (dG "need_code" s_need_code : He.DefD) ∈ fnQ := List.mem_of_getElem? (i := 35) rfl
theorem m_made : (dK "made" s_made [("most", .int 500)] : He.DefD) ∈ fnQ := List.mem_of_getElem? (i := 36) rfl
theorem m_levels : (dK "levels" s_levels [("most", .int 500)] : He.DefD) ∈ fnQ := List.mem_of_getElem? (i := 37) rfl
theorem m_law_taken : (dG "_law_taken" s_law_taken : He.DefD) ∈ fnQ := List.mem_of_getElem? (i := 38) rfl
theorem m_law_alike : (dG "_law_alike" s_law_alike : He.DefD) ∈ fnQ := List.mem_of_getElem? (i := 39) rfl
theorem m_law_parts : (dG "_law_parts" s_law_parts : He.DefD) ∈ fnQ := List.mem_of_getElem? (i := 40) rfl
theorem m_law_many : (dG "_law_many" s_law_many : He.DefD) ∈ fnQ := List.mem_of_getElem? (i := 41) rfl
theorem m_law_sum_of : (dG "_law_sum_of" s_law_sum_of : He.DefD) ∈ fnQ := List.mem_of_getElem? (i := 42) rfl
theorem m_law_come_to : (dG "_law_come_to" s_law_come_to : He.DefD) ∈ fnQ := List.mem_of_getElem? (i := 43) rfl
theorem m_law_folded : (dG "_law_folded" s_law_folded : He.DefD) ∈ fnQ := List.mem_of_getElem? (i := 44) rfl
theorem m_law_makers : (dG "_law_makers" s_law_makers : He.DefD) ∈ fnQ := List.mem_of_getElem? (i := 45) rfl
theorem m_law : (dG "law" s_law : He.DefD) ∈ fnQ := List.mem_of_getElem? (i := 46) rfl
theorem i_fg_LaterError : (He.Fa.glo "LaterError" : He.Fa) ∈ faQ := List.mem_of_getElem? (i := 0) rfl
theorem i_fg_BadProgram : (He.Fa.glo "BadProgram" : He.Fa) ∈ faQ := List.mem_of_getElem? (i := 1) rfl
theorem i_fg_BadKind : (He.Fa.glo "BadKind" : He.Fa) ∈ faQ := List.mem_of_getElem? (i := 2) rfl
theorem i_fg_BadMost : (He.Fa.glo "BadMost" : He.Fa) ∈ faQ := List.mem_of_getElem? (i := 3) rfl
theorem i_fg_NotCode : (He.Fa.glo "NotCode" : He.Fa) ∈ faQ := List.mem_of_getElem? (i := 4) rfl
theorem i_fg_KINDS : (He.Fa.glo "KINDS" : He.Fa) ∈ faQ := List.mem_of_getElem? (i := 5) rfl
theorem i_fg_BOTH : (He.Fa.glo "BOTH" : He.Fa) ∈ faQ := List.mem_of_getElem? (i := 6) rfl
theorem i_fg_FORMS : (He.Fa.glo "FORMS" : He.Fa) ∈ faQ := List.mem_of_getElem? (i := 7) rfl
theorem i_fg_is_number : (He.Fa.glo "is_number" : He.Fa) ∈ faQ := List.mem_of_getElem? (i := 8) rfl
theorem i_fg_is_kind : (He.Fa.glo "is_kind" : He.Fa) ∈ faQ := List.mem_of_getElem? (i := 9) rfl
theorem i_fg_has_code : (He.Fa.glo "has_code" : He.Fa) ∈ faQ := List.mem_of_getElem? (i := 10) rfl
theorem i_fg_is_data : (He.Fa.glo "is_data" : He.Fa) ∈ faQ := List.mem_of_getElem? (i := 11) rfl
theorem i_fg_is_head : (He.Fa.glo "is_head" : He.Fa) ∈ faQ := List.mem_of_getElem? (i := 12) rfl
theorem i_fg_parts_of : (He.Fa.glo "parts_of" : He.Fa) ∈ faQ := List.mem_of_getElem? (i := 13) rfl
theorem i_fg_binders_of : (He.Fa.glo "binders_of" : He.Fa) ∈ faQ := List.mem_of_getElem? (i := 14) rfl
theorem i_fg_need_program : (He.Fa.glo "need_program" : He.Fa) ∈ faQ := List.mem_of_getElem? (i := 15) rfl
theorem i_fg_size_of : (He.Fa.glo "size_of" : He.Fa) ∈ faQ := List.mem_of_getElem? (i := 16) rfl
theorem i_fg_is_great : (He.Fa.glo "is_great" : He.Fa) ∈ faQ := List.mem_of_getElem? (i := 17) rfl
theorem i_fg_rebuilt : (He.Fa.glo "rebuilt" : He.Fa) ∈ faQ := List.mem_of_getElem? (i := 18) rfl
theorem i_fg_renumbered : (He.Fa.glo "renumbered" : He.Fa) ∈ faQ := List.mem_of_getElem? (i := 19) rfl
theorem i_fg_LATER : (He.Fa.glo "LATER" : He.Fa) ∈ faQ := List.mem_of_getElem? (i := 20) rfl
theorem i_fg_Name : (He.Fa.glo "Name" : He.Fa) ∈ faQ := List.mem_of_getElem? (i := 21) rfl
theorem i_fg_with_name : (He.Fa.glo "with_name" : He.Fa) ∈ faQ := List.mem_of_getElem? (i := 22) rfl
theorem i_fg_Check : (He.Fa.glo "Check" : He.Fa) ∈ faQ := List.mem_of_getElem? (i := 23) rfl
theorem i_fg_kind_of : (He.Fa.glo "kind_of" : He.Fa) ∈ faQ := List.mem_of_getElem? (i := 24) rfl
theorem i_fg_Function : (He.Fa.glo "Function" : He.Fa) ∈ faQ := List.mem_of_getElem? (i := 25) rfl
theorem i_fg_with_names : (He.Fa.glo "with_names" : He.Fa) ∈ faQ := List.mem_of_getElem? (i := 26) rfl
theorem i_fg_reckoned : (He.Fa.glo "reckoned" : He.Fa) ∈ faQ := List.mem_of_getElem? (i := 27) rfl
theorem i_fg_written_out : (He.Fa.glo "written_out" : He.Fa) ∈ faQ := List.mem_of_getElem? (i := 28) rfl
theorem i_fg_Machine : (He.Fa.glo "Machine" : He.Fa) ∈ faQ := List.mem_of_getElem? (i := 29) rfl
theorem i_fg_shown : (He.Fa.glo "shown" : He.Fa) ∈ faQ := List.mem_of_getElem? (i := 30) rfl
theorem i_fg_need_most : (He.Fa.glo "need_most" : He.Fa) ∈ faQ := List.mem_of_getElem? (i := 31) rfl
theorem i_fg_outcome : (He.Fa.glo "outcome" : He.Fa) ∈ faQ := List.mem_of_getElem? (i := 32) rfl
theorem i_fg_need_code : (He.Fa.glo "need_code" : He.Fa) ∈ faQ := List.mem_of_getElem? (i := 33) rfl
theorem i_fg_made : (He.Fa.glo "made" : He.Fa) ∈ faQ := List.mem_of_getElem? (i := 34) rfl
theorem i_fg_levels : (He.Fa.glo "levels" : He.Fa) ∈ faQ := List.mem_of_getElem? (i := 35) rfl
theorem i_fg_law_taken : (He.Fa.glo "_law_taken" : He.Fa) ∈ faQ := List.mem_of_getElem? (i := 36) rfl
theorem i_fg_law_alike : (He.Fa.glo "_law_alike" : He.Fa) ∈ faQ := List.mem_of_getElem? (i := 37) rfl
theorem i_fg_law_parts : (He.Fa.glo "_law_parts" : He.Fa) ∈ faQ := List.mem_of_getElem? (i := 38) rfl
theorem i_fg_law_many : (He.Fa.glo "_law_many" : He.Fa) ∈ faQ := List.mem_of_getElem? (i := 39) rfl
theorem i_fg_law_sum_of : (He.Fa.glo "_law_sum_of" : He.Fa) ∈ faQ := List.mem_of_getElem? (i := 40) rfl
theorem i_fg_law_come_to : (He.Fa.glo "_law_come_to" : He.Fa) ∈ faQ := List.mem_of_getElem? (i := 41) rfl
theorem i_fg_law_folded : (He.Fa.glo "_law_folded" : He.Fa) ∈ faQ := List.mem_of_getElem? (i := 42) rfl
theorem i_fg_law_makers : (He.Fa.glo "_law_makers" : He.Fa) ∈ faQ := List.mem_of_getElem? (i := 43) rfl
theorem i_fg_law : (He.Fa.glo "law" : He.Fa) ∈ faQ := List.mem_of_getElem? (i := 44) rfl
theorem i_fr_ValueError : (He.Fa.free "ValueError" : He.Fa) ∈ faQ := List.mem_of_getElem? (i := 45) rfl
theorem i_fr_all : (He.Fa.free "all" : He.Fa) ∈ faQ := List.mem_of_getElem? (i := 46) rfl
theorem i_fr_any : (He.Fa.free "any" : He.Fa) ∈ faQ := List.mem_of_getElem? (i := 47) rfl
theorem i_fr_bool : (He.Fa.free "bool" : He.Fa) ∈ faQ := List.mem_of_getElem? (i := 48) rfl
theorem i_fr_dict : (He.Fa.free "dict" : He.Fa) ∈ faQ := List.mem_of_getElem? (i := 49) rfl
theorem i_fr_int : (He.Fa.free "int" : He.Fa) ∈ faQ := List.mem_of_getElem? (i := 50) rfl
theorem i_fr_isinstance : (He.Fa.free "isinstance" : He.Fa) ∈ faQ := List.mem_of_getElem? (i := 51) rfl
theorem i_fr_len : (He.Fa.free "len" : He.Fa) ∈ faQ := List.mem_of_getElem? (i := 52) rfl
theorem i_fr_list : (He.Fa.free "list" : He.Fa) ∈ faQ := List.mem_of_getElem? (i := 53) rfl
theorem i_fr_max : (He.Fa.free "max" : He.Fa) ∈ faQ := List.mem_of_getElem? (i := 54) rfl
theorem i_fr_range : (He.Fa.free "range" : He.Fa) ∈ faQ := List.mem_of_getElem? (i := 55) rfl
theorem i_fr_str : (He.Fa.free "str" : He.Fa) ∈ faQ := List.mem_of_getElem? (i := 56) rfl
theorem i_fr_sum : (He.Fa.free "sum" : He.Fa) ∈ faQ := List.mem_of_getElem? (i := 57) rfl
theorem i_fr_tuple : (He.Fa.free "tuple" : He.Fa) ∈ faQ := List.mem_of_getElem? (i := 58) rfl
theorem i_fr_zip : (He.Fa.free "zip" : He.Fa) ∈ faQ := List.mem_of_getElem? (i := 59) rfl
theorem i_gv_NUM : (He.Fa.str "NUM" "num" : He.Fa) ∈ faQ := List.mem_of_getElem? (i := 60) rfl
theorem i_gv_TO : (He.Fa.str "TO" "to" : He.Fa) ∈ faQ := List.mem_of_getElem? (i := 61) rfl
theorem i_gv_TWO : (He.Fa.str "TWO" "two" : He.Fa) ∈ faQ := List.mem_of_getElem? (i := 62) rfl
theorem i_gv_CODE : (He.Fa.str "CODE" "code" : He.Fa) ∈ faQ := List.mem_of_getElem? (i := 63) rfl
theorem i_gv_LIMIT : (He.Fa.int "LIMIT" 1000 : He.Fa) ∈ faQ := List.mem_of_getElem? (i := 64) rfl
theorem i_gv_MOST_IN_KIND : (He.Fa.int "MOST_IN_KIND" 5 : He.Fa) ∈ faQ := List.mem_of_getElem? (i := 65) rfl
theorem i_gv_MOST_PARTS : (He.Fa.int "MOST_PARTS" 400 : He.Fa) ∈ faQ := List.mem_of_getElem? (i := 66) rfl
theorem i_gv_MOST_WITHIN : (He.Fa.int "MOST_WITHIN" 40 : He.Fa) ∈ faQ := List.mem_of_getElem? (i := 67) rfl
theorem i_gv_MOST_LEVEL : (He.Fa.int "MOST_LEVEL" 3 : He.Fa) ∈ faQ := List.mem_of_getElem? (i := 68) rfl
theorem i_cls_Name : (He.Fa.cls "Name" : He.Fa) ∈ faQ := List.mem_of_getElem? (i := 69) rfl
theorem i_noat_Name_level : (He.Fa.noat "Name" "level" : He.Fa) ∈ faQ := List.mem_of_getElem? (i := 70) rfl
theorem i_noat_Name_kind : (He.Fa.noat "Name" "kind" : He.Fa) ∈ faQ := List.mem_of_getElem? (i := 71) rfl
theorem i_noat_Name_runs : (He.Fa.noat "Name" "runs" : He.Fa) ∈ faQ := List.mem_of_getElem? (i := 72) rfl
theorem i_mkr_Name : (He.Fa.mkr "Name" : He.Fa) ∈ faQ := List.mem_of_getElem? (i := 73) rfl
theorem i_cls_Check : (He.Fa.cls "Check" : He.Fa) ∈ faQ := List.mem_of_getElem? (i := 74) rfl
theorem i_noat_Check_found : (He.Fa.noat "Check" "found" : He.Fa) ∈ faQ := List.mem_of_getElem? (i := 75) rfl
theorem i_noat_Check_kind : (He.Fa.noat "Check" "kind" : He.Fa) ∈ faQ := List.mem_of_getElem? (i := 76) rfl
theorem i_mkr_Check : (He.Fa.mkr "Check" : He.Fa) ∈ faQ := List.mem_of_getElem? (i := 77) rfl
theorem i_meth_Check_must : (He.Fa.meth "Check" "must" : He.Fa) ∈ faQ := List.mem_of_getElem? (i := 78) rfl
theorem i_meth_Check_look : (He.Fa.meth "Check" "look" : He.Fa) ∈ faQ := List.mem_of_getElem? (i := 79) rfl
theorem i_meth_Check_named : (He.Fa.meth "Check" "named" : He.Fa) ∈ faQ := List.mem_of_getElem? (i := 80) rfl
theorem i_meth_Check_inner : (He.Fa.meth "Check" "inner" : He.Fa) ∈ faQ := List.mem_of_getElem? (i := 81) rfl
theorem i_meth_Check_kind_of : (He.Fa.meth "Check" "kind_of" : He.Fa) ∈ faQ := List.mem_of_getElem? (i := 82) rfl
theorem i_gv_STILL : (He.Fa.str "STILL" "still" : He.Fa) ∈ faQ := List.mem_of_getElem? (i := 83) rfl
theorem i_gv_GREAT : (He.Fa.str "GREAT" "great" : He.Fa) ∈ faQ := List.mem_of_getElem? (i := 84) rfl
theorem i_cls_Function : (He.Fa.cls "Function" : He.Fa) ∈ faQ := List.mem_of_getElem? (i := 85) rfl
theorem i_noat_Function_e : (He.Fa.noat "Function" "e" : He.Fa) ∈ faQ := List.mem_of_getElem? (i := 86) rfl
theorem i_noat_Function_bound : (He.Fa.noat "Function" "bound" : He.Fa) ∈ faQ := List.mem_of_getElem? (i := 87) rfl
theorem i_mkr_Function : (He.Fa.mkr "Function" : He.Fa) ∈ faQ := List.mem_of_getElem? (i := 88) rfl
theorem i_cls_Machine : (He.Fa.cls "Machine" : He.Fa) ∈ faQ := List.mem_of_getElem? (i := 89) rfl
theorem i_noat_Machine_left : (He.Fa.noat "Machine" "left" : He.Fa) ∈ faQ := List.mem_of_getElem? (i := 90) rfl
theorem i_noat_Machine_met : (He.Fa.noat "Machine" "met" : He.Fa) ∈ faQ := List.mem_of_getElem? (i := 91) rfl
theorem i_noat_Machine_work : (He.Fa.noat "Machine" "work" : He.Fa) ∈ faQ := List.mem_of_getElem? (i := 92) rfl
theorem i_noat_Machine_things : (He.Fa.noat "Machine" "things" : He.Fa) ∈ faQ := List.mem_of_getElem? (i := 93) rfl
theorem i_noat_Machine_why : (He.Fa.noat "Machine" "why" : He.Fa) ∈ faQ := List.mem_of_getElem? (i := 94) rfl
theorem i_mkr_Machine : (He.Fa.mkr "Machine" : He.Fa) ∈ faQ := List.mem_of_getElem? (i := 95) rfl
theorem i_meth_Machine_take : (He.Fa.meth "Machine" "take" : He.Fa) ∈ faQ := List.mem_of_getElem? (i := 96) rfl
theorem i_meth_Machine_worth : (He.Fa.meth "Machine" "worth" : He.Fa) ∈ faQ := List.mem_of_getElem? (i := 97) rfl
theorem i_meth_Machine_code : (He.Fa.meth "Machine" "code" : He.Fa) ∈ faQ := List.mem_of_getElem? (i := 98) rfl
theorem i_meth_Machine_go_on : (He.Fa.meth "Machine" "go_on" : He.Fa) ∈ faQ := List.mem_of_getElem? (i := 99) rfl
theorem i_meth_Machine_done : (He.Fa.meth "Machine" "done" : He.Fa) ∈ faQ := List.mem_of_getElem? (i := 100) rfl
theorem i_meth_Machine_call : (He.Fa.meth "Machine" "call" : He.Fa) ∈ faQ := List.mem_of_getElem? (i := 101) rfl
theorem i_gv_MOST : (He.Fa.int "MOST" 500 : He.Fa) ∈ faQ := List.mem_of_getElem? (i := 102) rfl
theorem i_gv_GREATEST : (He.Fa.int "GREATEST" 5000 : He.Fa) ∈ faQ := List.mem_of_getElem? (i := 103) rfl
theorem i_gv_END : (He.Fa.str "END" "end" : He.Fa) ∈ faQ := List.mem_of_getElem? (i := 104) rfl
variable (X : K.In h) (G : h.Ns mainGlobals mg) (c : He.SaysX faQ fnQ tsQ tfQ exQ w h K)
include X G c
theorem fg_LaterError : mg "LaterError" = some (.ref (He.ga K "LaterError")) := He.glo_ok X G (c.t.d.facts i_fg_LaterError)
theorem fg_BadProgram : mg "BadProgram" = some (.ref (He.ga K "BadProgram")) := He.glo_ok X G (c.t.d.facts i_fg_BadProgram)
theorem fg_BadKind : mg "BadKind" = some (.ref (He.ga K "BadKind")) := He.glo_ok X G (c.t.d.facts i_fg_BadKind)
theorem fg_BadMost : mg "BadMost" = some (.ref (He.ga K "BadMost")) := He.glo_ok X G (c.t.d.facts i_fg_BadMost)
theorem fg_NotCode : mg "NotCode" = some (.ref (He.ga K "NotCode")) := He.glo_ok X G (c.t.d.facts i_fg_NotCode)
theorem fg_KINDS : mg "KINDS" = some (.ref (He.ga K "KINDS")) := He.glo_ok X G (c.t.d.facts i_fg_KINDS)
theorem fg_BOTH : mg "BOTH" = some (.ref (He.ga K "BOTH")) := He.glo_ok X G (c.t.d.facts i_fg_BOTH)
theorem fg_FORMS : mg "FORMS" = some (.ref (He.ga K "FORMS")) := He.glo_ok X G (c.t.d.facts i_fg_FORMS)
theorem fg_is_number : mg "is_number" = some (.ref (He.ga K "is_number")) := He.glo_ok X G (c.t.d.facts i_fg_is_number)
theorem fg_is_kind : mg "is_kind" = some (.ref (He.ga K "is_kind")) := He.glo_ok X G (c.t.d.facts i_fg_is_kind)
theorem fg_has_code : mg "has_code" = some (.ref (He.ga K "has_code")) := He.glo_ok X G (c.t.d.facts i_fg_has_code)
theorem fg_is_data : mg "is_data" = some (.ref (He.ga K "is_data")) := He.glo_ok X G (c.t.d.facts i_fg_is_data)
theorem fg_is_head : mg "is_head" = some (.ref (He.ga K "is_head")) := He.glo_ok X G (c.t.d.facts i_fg_is_head)
theorem fg_parts_of : mg "parts_of" = some (.ref (He.ga K "parts_of")) := He.glo_ok X G (c.t.d.facts i_fg_parts_of)
theorem fg_binders_of : mg "binders_of" = some (.ref (He.ga K "binders_of")) := He.glo_ok X G (c.t.d.facts i_fg_binders_of)
theorem fg_need_program : mg "need_program" = some (.ref (He.ga K "need_program")) := He.glo_ok X G (c.t.d.facts i_fg_need_program)
theorem fg_size_of : mg "size_of" = some (.ref (He.ga K "size_of")) := He.glo_ok X G (c.t.d.facts i_fg_size_of)
theorem fg_is_great : mg "is_great" = some (.ref (He.ga K "is_great")) := He.glo_ok X G (c.t.d.facts i_fg_is_great)
theorem fg_rebuilt : mg "rebuilt" = some (.ref (He.ga K "rebuilt")) := He.glo_ok X G (c.t.d.facts i_fg_rebuilt)
theorem fg_renumbered : mg "renumbered" = some (.ref (He.ga K "renumbered")) := He.glo_ok X G (c.t.d.facts i_fg_renumbered)
theorem fg_LATER : mg "LATER" = some (.ref (He.ga K "LATER")) := He.glo_ok X G (c.t.d.facts i_fg_LATER)
theorem fg_Name : mg "Name" = some (.ref (He.ga K "Name")) := He.glo_ok X G (c.t.d.facts i_fg_Name)
theorem fg_with_name : mg "with_name" = some (.ref (He.ga K "with_name")) := He.glo_ok X G (c.t.d.facts i_fg_with_name)
theorem fg_Check : mg "Check" = some (.ref (He.ga K "Check")) := He.glo_ok X G (c.t.d.facts i_fg_Check)
theorem fg_kind_of : mg "kind_of" = some (.ref (He.ga K "kind_of")) := He.glo_ok X G (c.t.d.facts i_fg_kind_of)
theorem fg_Function : mg "Function" = some (.ref (He.ga K "Function")) := He.glo_ok X G (c.t.d.facts i_fg_Function)
theorem fg_with_names : mg "with_names" = some (.ref (He.ga K "with_names")) := He.glo_ok X G (c.t.d.facts i_fg_with_names)
theorem fg_reckoned : mg "reckoned" = some (.ref (He.ga K "reckoned")) := He.glo_ok X G (c.t.d.facts i_fg_reckoned)
theorem fg_written_out : mg "written_out" = some (.ref (He.ga K "written_out")) := He.glo_ok X G (c.t.d.facts i_fg_written_out)
theorem fg_Machine : mg "Machine" = some (.ref (He.ga K "Machine")) := He.glo_ok X G (c.t.d.facts i_fg_Machine)
theorem fg_shown : mg "shown" = some (.ref (He.ga K "shown")) := He.glo_ok X G (c.t.d.facts i_fg_shown)
theorem fg_need_most : mg "need_most" = some (.ref (He.ga K "need_most")) := He.glo_ok X G (c.t.d.facts i_fg_need_most)
theorem fg_outcome : mg "outcome" = some (.ref (He.ga K "outcome")) := He.glo_ok X G (c.t.d.facts i_fg_outcome)
theorem fg_need_code : mg "need_code" = some (.ref (He.ga K "need_code")) := He.glo_ok X G (c.t.d.facts i_fg_need_code)
theorem fg_made : mg "made" = some (.ref (He.ga K "made")) := He.glo_ok X G (c.t.d.facts i_fg_made)
theorem fg_levels : mg "levels" = some (.ref (He.ga K "levels")) := He.glo_ok X G (c.t.d.facts i_fg_levels)
theorem fg_law_taken : mg "_law_taken" = some (.ref (He.ga K "_law_taken")) := He.glo_ok X G (c.t.d.facts i_fg_law_taken)
theorem fg_law_alike : mg "_law_alike" = some (.ref (He.ga K "_law_alike")) := He.glo_ok X G (c.t.d.facts i_fg_law_alike)
theorem fg_law_parts : mg "_law_parts" = some (.ref (He.ga K "_law_parts")) := He.glo_ok X G (c.t.d.facts i_fg_law_parts)
theorem fg_law_many : mg "_law_many" = some (.ref (He.ga K "_law_many")) := He.glo_ok X G (c.t.d.facts i_fg_law_many)
theorem fg_law_sum_of : mg "_law_sum_of" = some (.ref (He.ga K "_law_sum_of")) := He.glo_ok X G (c.t.d.facts i_fg_law_sum_of)
theorem fg_law_come_to : mg "_law_come_to" = some (.ref (He.ga K "_law_come_to")) := He.glo_ok X G (c.t.d.facts i_fg_law_come_to)
theorem fg_law_folded : mg "_law_folded" = some (.ref (He.ga K "_law_folded")) := He.glo_ok X G (c.t.d.facts i_fg_law_folded)
theorem fg_law_makers : mg "_law_makers" = some (.ref (He.ga K "_law_makers")) := He.glo_ok X G (c.t.d.facts i_fg_law_makers)
theorem fg_law : mg "law" = some (.ref (He.ga K "law")) := He.glo_ok X G (c.t.d.facts i_fg_law)
theorem fr_ValueError : mg "ValueError" = none := He.free_ok X G (c.t.d.facts i_fr_ValueError)
theorem fr_all : mg "all" = none := He.free_ok X G (c.t.d.facts i_fr_all)
theorem fr_any : mg "any" = none := He.free_ok X G (c.t.d.facts i_fr_any)
theorem fr_bool : mg "bool" = none := He.free_ok X G (c.t.d.facts i_fr_bool)
theorem fr_dict : mg "dict" = none := He.free_ok X G (c.t.d.facts i_fr_dict)
theorem fr_int : mg "int" = none := He.free_ok X G (c.t.d.facts i_fr_int)
theorem fr_isinstance : mg "isinstance" = none := He.free_ok X G (c.t.d.facts i_fr_isinstance)
theorem fr_len : mg "len" = none := He.free_ok X G (c.t.d.facts i_fr_len)
theorem fr_list : mg "list" = none := He.free_ok X G (c.t.d.facts i_fr_list)
theorem fr_max : mg "max" = none := He.free_ok X G (c.t.d.facts i_fr_max)
theorem fr_range : mg "range" = none := He.free_ok X G (c.t.d.facts i_fr_range)
theorem fr_str : mg "str" = none := He.free_ok X G (c.t.d.facts i_fr_str)
theorem fr_sum : mg "sum" = none := He.free_ok X G (c.t.d.facts i_fr_sum)
theorem fr_tuple : mg "tuple" = none := He.free_ok X G (c.t.d.facts i_fr_tuple)
theorem fr_zip : mg "zip" = none := He.free_ok X G (c.t.d.facts i_fr_zip)
theorem gv_NUM : GV mg "NUM" (.str "num") := gv_str X G (c.t.d.facts i_gv_NUM)
theorem gv_TO : GV mg "TO" (.str "to") := gv_str X G (c.t.d.facts i_gv_TO)
theorem gv_TWO : GV mg "TWO" (.str "two") := gv_str X G (c.t.d.facts i_gv_TWO)
theorem gv_CODE : GV mg "CODE" (.str "code") := gv_str X G (c.t.d.facts i_gv_CODE)
theorem gv_LIMIT : GV mg "LIMIT" (.int 1000) := gv_int X G (c.t.d.facts i_gv_LIMIT)
theorem gv_MOST_IN_KIND : GV mg "MOST_IN_KIND" (.int 5) := gv_int X G (c.t.d.facts i_gv_MOST_IN_KIND)
theorem gv_MOST_PARTS : GV mg "MOST_PARTS" (.int 400) := gv_int X G (c.t.d.facts i_gv_MOST_PARTS)
theorem gv_MOST_WITHIN : GV mg "MOST_WITHIN" (.int 40) := gv_int X G (c.t.d.facts i_gv_MOST_WITHIN)
theorem gv_MOST_LEVEL : GV mg "MOST_LEVEL" (.int 3) := gv_int X G (c.t.d.facts i_gv_MOST_LEVEL)
theorem gv_STILL : GV mg "STILL" (.str "still") := gv_str X G (c.t.d.facts i_gv_STILL)
theorem gv_GREAT : GV mg "GREAT" (.str "great") := gv_str X G (c.t.d.facts i_gv_GREAT)
theorem gv_MOST : GV mg "MOST" (.int 500) := gv_int X G (c.t.d.facts i_gv_MOST)
theorem gv_GREATEST : GV mg "GREATEST" (.int 5000) := gv_int X G (c.t.d.facts i_gv_GREATEST)
theorem gv_END : GV mg "END" (.str "end") := gv_str X G (c.t.d.facts i_gv_END)
theorem gv_KINDS : GV mg "KINDS" (.ref (He.ga K "KINDS")) := gv_ref X G (c.t.d.facts i_fg_KINDS)
theorem gv_FORMS : GV mg "FORMS" (.ref (He.ga K "FORMS")) := gv_ref X G (c.t.d.facts i_fg_FORMS)
theorem gv_LATER : GV mg "LATER" (.ref (He.ga K "LATER")) := gv_ref X G (c.t.d.facts i_fg_LATER)
theorem gv_BOTH : GV mg "BOTH" (.ref (He.ga K "BOTH")) := gv_ref X G (c.t.d.facts i_fg_BOTH)
theorem kdc_KINDS : KDc K w (He.ga K "KINDS") (fun z => (tb_KINDS.lookup z).map (He.Dv.v K)) := by
  have ex := c.more
  exact dicQ_of (i := 0) c.t rfl (He.ba ex).1 rfl
theorem kdc_FORMS : KDc K w (He.ga K "FORMS") (fun z => (tb_FORMS.lookup z).map (He.Dv.v K)) := by
  have ex := c.more
  have ex := (He.ba ex).2
  exact dicQ_of (i := 1) c.t rfl (He.ba ex).1 rfl
theorem kdc_LATER : KDc K w (He.ga K "LATER") (fun z => (tb_LATER.lookup z).map (He.Dv.v K)) := by
  have ex := c.more
  have ex := (He.ba ex).2
  have ex := (He.ba ex).2
  exact dicQ_of (i := 2) c.t rfl (He.ba ex).1 rfl
theorem tup_BOTH : ∀ H, SqT K H (He.ga K "BOTH") (([.str "plus", .str "times", .str "less"] : List He.Dv).map (He.Dv.v K)) := by
  have ex := c.more
  have ex := (He.ba ex).2
  have ex := (He.ba ex).2
  have ex := (He.ba ex).2
  exact fun H => He.tupB_ok (He.ba ex).1 H
theorem ne_Name_Check : He.ga K "Name" ≠ He.ga K "Check" := by
  have ex := c.more
  have ex := (He.ba ex).2
  have ex := (He.ba ex).2
  have ex := (He.ba ex).2
  have ex := (He.ba ex).2
  have ex := (He.ba ex).1
  intro e
  rw [e] at ex
  simp at ex
theorem ne_Name_Function : He.ga K "Name" ≠ He.ga K "Function" := by
  have ex := c.more
  have ex := (He.ba ex).2
  have ex := (He.ba ex).2
  have ex := (He.ba ex).2
  have ex := (He.ba ex).2
  have ex := (He.ba ex).2
  have ex := (He.ba ex).1
  intro e
  rw [e] at ex
  simp at ex
theorem ne_Name_Machine : He.ga K "Name" ≠ He.ga K "Machine" := by
  have ex := c.more
  have ex := (He.ba ex).2
  have ex := (He.ba ex).2
  have ex := (He.ba ex).2
  have ex := (He.ba ex).2
  have ex := (He.ba ex).2
  have ex := (He.ba ex).2
  have ex := (He.ba ex).1
  intro e
  rw [e] at ex
  simp at ex
theorem ne_Check_Function : He.ga K "Check" ≠ He.ga K "Function" := by
  have ex := c.more
  have ex := (He.ba ex).2
  have ex := (He.ba ex).2
  have ex := (He.ba ex).2
  have ex := (He.ba ex).2
  have ex := (He.ba ex).2
  have ex := (He.ba ex).2
  have ex := (He.ba ex).2
  have ex := (He.ba ex).1
  intro e
  rw [e] at ex
  simp at ex
theorem ne_Check_Machine : He.ga K "Check" ≠ He.ga K "Machine" := by
  have ex := c.more
  have ex := (He.ba ex).2
  have ex := (He.ba ex).2
  have ex := (He.ba ex).2
  have ex := (He.ba ex).2
  have ex := (He.ba ex).2
  have ex := (He.ba ex).2
  have ex := (He.ba ex).2
  have ex := (He.ba ex).2
  have ex := (He.ba ex).1
  intro e
  rw [e] at ex
  simp at ex
theorem ne_Function_Machine : He.ga K "Function" ≠ He.ga K "Machine" := by
  have ex := c.more
  have ex := (He.ba ex).2
  have ex := (He.ba ex).2
  have ex := (He.ba ex).2
  have ex := (He.ba ex).2
  have ex := (He.ba ex).2
  have ex := (He.ba ex).2
  have ex := (He.ba ex).2
  have ex := (He.ba ex).2
  have ex := (He.ba ex).2
  intro e
  rw [e] at ex
  simp at ex
theorem cls_Name : Cls K (He.ga K "Name") := He.cls_ok (c.t.d.facts i_cls_Name)
theorem noat_Name_level : NoAttr K (He.ga K "Name") "level" := He.noat_ok (c.t.d.facts i_noat_Name_level)
theorem noat_Name_kind : NoAttr K (He.ga K "Name") "kind" := He.noat_ok (c.t.d.facts i_noat_Name_kind)
theorem noat_Name_runs : NoAttr K (He.ga K "Name") "runs" := He.noat_ok (c.t.d.facts i_noat_Name_runs)
theorem cls_Check : Cls K (He.ga K "Check") := He.cls_ok (c.t.d.facts i_cls_Check)
theorem noat_Check_found : NoAttr K (He.ga K "Check") "found" := He.noat_ok (c.t.d.facts i_noat_Check_found)
theorem noat_Check_kind : NoAttr K (He.ga K "Check") "kind" := He.noat_ok (c.t.d.facts i_noat_Check_kind)
theorem cls_Function : Cls K (He.ga K "Function") := He.cls_ok (c.t.d.facts i_cls_Function)
theorem noat_Function_e : NoAttr K (He.ga K "Function") "e" := He.noat_ok (c.t.d.facts i_noat_Function_e)
theorem noat_Function_bound : NoAttr K (He.ga K "Function") "bound" := He.noat_ok (c.t.d.facts i_noat_Function_bound)
theorem cls_Machine : Cls K (He.ga K "Machine") := He.cls_ok (c.t.d.facts i_cls_Machine)
theorem noat_Machine_left : NoAttr K (He.ga K "Machine") "left" := He.noat_ok (c.t.d.facts i_noat_Machine_left)
theorem noat_Machine_met : NoAttr K (He.ga K "Machine") "met" := He.noat_ok (c.t.d.facts i_noat_Machine_met)
theorem noat_Machine_work : NoAttr K (He.ga K "Machine") "work" := He.noat_ok (c.t.d.facts i_noat_Machine_work)
theorem noat_Machine_things : NoAttr K (He.ga K "Machine") "things" := He.noat_ok (c.t.d.facts i_noat_Machine_things)
theorem noat_Machine_why : NoAttr K (He.ga K "Machine") "why" := He.noat_ok (c.t.d.facts i_noat_Machine_why)
theorem at_is_number : At0 K mg "is_number" "is_number" s_is_number ["thing", "low", "high"] := at0_of X G c.t.d m_is_number i_fg_is_number (fun _ _ _ _ _ _ us hl => match us, hl with | [_, _, _], _ => rfl)
theorem at_is_kind : AtD K mg "is_kind" "is_kind" s_is_kind ["thing", "deep"] [.int 5] := atD_of X G c.t.d m_is_kind i_fg_is_kind (fun T kV doc pm an cdv ct us its hu hi => match us, its, hu, hi with | [u], [k], _, _ => ⟨_, rfl, rfl⟩) (fun T kV doc pm an cdv ct us its hu hi => match us, its, hu, hi with | [u, v], [k], _, _ => ⟨_, rfl, rfl⟩)
theorem at_has_code : At0 K mg "has_code" "has_code" s_has_code ["kind"] := at0_of X G c.t.d m_has_code i_fg_has_code (fun _ _ _ _ _ _ us hl => match us, hl with | [_], _ => rfl)
theorem at_is_data : At0 K mg "is_data" "is_data" s_is_data ["kind"] := at0_of X G c.t.d m_is_data i_fg_is_data (fun _ _ _ _ _ _ us hl => match us, hl with | [_], _ => rfl)
theorem at_is_head : At0 K mg "is_head" "is_head" s_is_head ["thing"] := at0_of X G c.t.d m_is_head i_fg_is_head (fun _ _ _ _ _ _ us hl => match us, hl with | [_], _ => rfl)
theorem at_parts_of : At0 K mg "parts_of" "parts_of" s_parts_of ["e"] := at0_of X G c.t.d m_parts_of i_fg_parts_of (fun _ _ _ _ _ _ us hl => match us, hl with | [_], _ => rfl)
theorem at_binders_of : At0 K mg "binders_of" "binders_of" s_binders_of ["e"] := at0_of X G c.t.d m_binders_of i_fg_binders_of (fun _ _ _ _ _ _ us hl => match us, hl with | [_], _ => rfl)
theorem at_need_program : At0 K mg "need_program" "need_program" s_need_program ["program"] := at0_of X G c.t.d m_need_program i_fg_need_program (fun _ _ _ _ _ _ us hl => match us, hl with | [_], _ => rfl)
theorem at_size_of : At0 K mg "size_of" "size_of" s_size_of ["e"] := at0_of X G c.t.d m_size_of i_fg_size_of (fun _ _ _ _ _ _ us hl => match us, hl with | [_], _ => rfl)
theorem at_is_great : At0 K mg "is_great" "is_great" s_is_great ["e"] := at0_of X G c.t.d m_is_great i_fg_is_great (fun _ _ _ _ _ _ us hl => match us, hl with | [_], _ => rfl)
theorem at_rebuilt : At0 K mg "rebuilt" "rebuilt" s_rebuilt ["e", "numbers", "parts"] := at0_of X G c.t.d m_rebuilt i_fg_rebuilt (fun _ _ _ _ _ _ us hl => match us, hl with | [_, _, _], _ => rfl)
theorem at_renumbered : At0 K mg "renumbered" "renumbered" s_renumbered ["e"] := at0_of X G c.t.d m_renumbered i_fg_renumbered (fun _ _ _ _ _ _ us hl => match us, hl with | [_], _ => rfl)
theorem atT_renumbered : AtT K mg "renumbered" "renumbered" s_renumbered ["e"] (He.codeOf K ("renumbered", none)) := atT_of X G c.t.d m_renumbered i_fg_renumbered (fun _ _ _ _ _ _ us hl => match us, hl with | [_], _ => rfl)
theorem at_Name_init : CAt K mg "Name" (He.ga K "Name") "Name.__init__" s_Name_init ["self", "level", "kind", "runs"] := cat_of X G c.t.d m_Name_init i_fg_Name i_mkr_Name (fun _ _ _ _ _ _ us hl => match us, hl with | [_, _, _, _], _ => rfl)
theorem at_with_name : At0 K mg "with_name" "with_name" s_with_name ["names", "number", "name"] := at0_of X G c.t.d m_with_name i_fg_with_name (fun _ _ _ _ _ _ us hl => match us, hl with | [_, _, _], _ => rfl)
theorem at_Check_init : CAt K mg "Check" (He.ga K "Check") "Check.__init__" s_Check_init ["self", "program"] := cat_of X G c.t.d m_Check_init i_fg_Check i_mkr_Check (fun _ _ _ _ _ _ us hl => match us, hl with | [_, _], _ => rfl)
theorem at_Check_must : MAt K (He.ga K "Check") "must" "Check.must" s_Check_must ["self", "good", "place", "why"] := mat_of c.t.d m_Check_must i_meth_Check_must (fun _ _ _ _ _ _ us hl => match us, hl with | [_, _, _, _], _ => rfl)
theorem at_Check_look : MAt K (He.ga K "Check") "look" "Check.look" s_Check_look ["self", "e", "place", "level", "names", "runs"] := mat_of c.t.d m_Check_look i_meth_Check_look (fun _ _ _ _ _ _ us hl => match us, hl with | [_, _, _, _, _, _], _ => rfl)
theorem at_Check_named : MAt K (He.ga K "Check") "named" "Check.named" s_Check_named ["self", "number", "place", "level", "names", "runs"] := mat_of c.t.d m_Check_named i_meth_Check_named (fun _ _ _ _ _ _ us hl => match us, hl with | [_, _, _, _, _, _], _ => rfl)
theorem at_Check_inner : MAt K (He.ga K "Check") "inner" "Check.inner" s_Check_inner ["self", "e", "place", "level", "names", "runs"] := mat_of c.t.d m_Check_inner i_meth_Check_inner (fun _ _ _ _ _ _ us hl => match us, hl with | [_, _, _, _, _, _], _ => rfl)
theorem at_Check_kind_of : MAt K (He.ga K "Check") "kind_of" "Check.kind_of" s_Check_kind_of ["self", "e", "place", "kinds"] := mat_of c.t.d m_Check_kind_of i_meth_Check_kind_of (fun _ _ _ _ _ _ us hl => match us, hl with | [_, _, _, _], _ => rfl)
theorem at_kind_of : At0 K mg "kind_of" "kind_of" s_kind_of ["program"] := at0_of X G c.t.d m_kind_of i_fg_kind_of (fun _ _ _ _ _ _ us hl => match us, hl with | [_], _ => rfl)
theorem at_Function_init : CAt K mg "Function" (He.ga K "Function") "Function.__init__" s_Function_init ["self", "e", "bound"] := cat_of X G c.t.d m_Function_init i_fg_Function i_mkr_Function (fun _ _ _ _ _ _ us hl => match us, hl with | [_, _, _], _ => rfl)
theorem at_with_names : At0 K mg "with_names" "with_names" s_with_names ["names", "some", "things"] := at0_of X G c.t.d m_with_names i_fg_with_names (fun _ _ _ _ _ _ us hl => match us, hl with | [_, _, _], _ => rfl)
theorem at_reckoned : At0 K mg "reckoned" "reckoned" s_reckoned ["word", "one", "other"] := at0_of X G c.t.d m_reckoned i_fg_reckoned (fun _ _ _ _ _ _ us hl => match us, hl with | [_, _, _], _ => rfl)
theorem at_written_out : At0 K mg "written_out" "written_out" s_written_out ["worth"] := at0_of X G c.t.d m_written_out i_fg_written_out (fun _ _ _ _ _ _ us hl => match us, hl with | [_], _ => rfl)
theorem at_Machine_init : CAt K mg "Machine" (He.ga K "Machine") "Machine.__init__" s_Machine_init ["self", "program", "most"] := cat_of X G c.t.d m_Machine_init i_fg_Machine i_mkr_Machine (fun _ _ _ _ _ _ us hl => match us, hl with | [_, _, _], _ => rfl)
theorem at_Machine_take : MAt K (He.ga K "Machine") "take" "Machine.take" s_Machine_take ["self"] := mat_of c.t.d m_Machine_take i_meth_Machine_take (fun _ _ _ _ _ _ us hl => match us, hl with | [_], _ => rfl)
theorem at_Machine_worth : MAt K (He.ga K "Machine") "worth" "Machine.worth" s_Machine_worth ["self", "e", "names"] := mat_of c.t.d m_Machine_worth i_meth_Machine_worth (fun _ _ _ _ _ _ us hl => match us, hl with | [_, _, _], _ => rfl)
theorem at_Machine_code : MAt K (He.ga K "Machine") "code" "Machine.code" s_Machine_code ["self", "e", "names", "level"] := mat_of c.t.d m_Machine_code i_meth_Machine_code (fun _ _ _ _ _ _ us hl => match us, hl with | [_, _, _, _], _ => rfl)
theorem at_Machine_go_on : MAt K (He.ga K "Machine") "go_on" "Machine.go_on" s_Machine_go_on ["self", "task"] := mat_of c.t.d m_Machine_go_on i_meth_Machine_go_on (fun _ _ _ _ _ _ us hl => match us, hl with | [_, _], _ => rfl)
theorem at_Machine_done : MAt K (He.ga K "Machine") "done" "Machine.done" s_Machine_done ["self", "word"] := mat_of c.t.d m_Machine_done i_meth_Machine_done (fun _ _ _ _ _ _ us hl => match us, hl with | [_, _], _ => rfl)
theorem at_Machine_call : MAt K (He.ga K "Machine") "call" "Machine.call" s_Machine_call ["self", "function", "worth"] := mat_of c.t.d m_Machine_call i_meth_Machine_call (fun _ _ _ _ _ _ us hl => match us, hl with | [_, _, _], _ => rfl)
theorem at_shown : At0 K mg "shown" "shown" s_shown ["worth", "kind"] := at0_of X G c.t.d m_shown i_fg_shown (fun _ _ _ _ _ _ us hl => match us, hl with | [_, _], _ => rfl)
theorem at_need_most : At0 K mg "need_most" "need_most" s_need_most ["most"] := at0_of X G c.t.d m_need_most i_fg_need_most (fun _ _ _ _ _ _ us hl => match us, hl with | [_], _ => rfl)
theorem at_outcome : At0 K mg "outcome" "outcome" s_outcome ["program", "kind", "most"] := at0_of X G c.t.d m_outcome i_fg_outcome (fun _ _ _ _ _ _ us hl => match us, hl with | [_, _, _], _ => rfl)
theorem at_need_code : At0 K mg "need_code" "need_code" s_need_code ["program"] := at0_of X G c.t.d m_need_code i_fg_need_code (fun _ _ _ _ _ _ us hl => match us, hl with | [_], _ => rfl)
theorem at_made : AtK K mg "made" "made" s_made ["program", "most"] [.int 500] := atK_of X G c.t.d m_made i_fg_made (fun D doc pm an cdv ct us ks hu hk => match us, ks, hu, hk with | [u], [k], _, _ => ⟨_, _, _, _, _, _, rfl, rfl, rfl⟩)
theorem at_levels : AtK K mg "levels" "levels" s_levels ["program", "most"] [.int 500] := atK_of X G c.t.d m_levels i_fg_levels (fun D doc pm an cdv ct us ks hu hk => match us, ks, hu, hk with | [u], [k], _, _ => ⟨_, _, _, _, _, _, rfl, rfl, rfl⟩)
theorem at_law_taken : At0 K mg "_law_taken" "_law_taken" s_law_taken ["_law_row", "_law_many_here"] := at0_of X G c.t.d m_law_taken i_fg_law_taken (fun _ _ _ _ _ _ us hl => match us, hl with | [_, _], _ => rfl)
theorem at_law_alike : At0 K mg "_law_alike" "_law_alike" s_law_alike ["_law_one", "_law_other"] := at0_of X G c.t.d m_law_alike i_fg_law_alike (fun _ _ _ _ _ _ us hl => match us, hl with | [_, _], _ => rfl)
theorem at_law_parts : At0 K mg "_law_parts" "_law_parts" s_law_parts ["_law_e"] := at0_of X G c.t.d m_law_parts i_fg_law_parts (fun _ _ _ _ _ _ us hl => match us, hl with | [_], _ => rfl)
theorem at_law_many : At0 K mg "_law_many" "_law_many" s_law_many ["_law_e"] := at0_of X G c.t.d m_law_many i_fg_law_many (fun _ _ _ _ _ _ us hl => match us, hl with | [_], _ => rfl)
theorem at_law_sum_of : At0 K mg "_law_sum_of" "_law_sum_of" s_law_sum_of ["_law_row", "_law_deep"] := at0_of X G c.t.d m_law_sum_of i_fg_law_sum_of (fun _ _ _ _ _ _ us hl => match us, hl with | [_, _], _ => rfl)
theorem at_law_come_to : At0 K mg "_law_come_to" "_law_come_to" s_law_come_to ["_law_e", "_law_number"] := at0_of X G c.t.d m_law_come_to i_fg_law_come_to (fun _ _ _ _ _ _ us hl => match us, hl with | [_, _], _ => rfl)
theorem at_law_folded : At0 K mg "_law_folded" "_law_folded" s_law_folded ["_law_e"] := at0_of X G c.t.d m_law_folded i_fg_law_folded (fun _ _ _ _ _ _ us hl => match us, hl with | [_], _ => rfl)
theorem at_law_makers : At0 K mg "_law_makers" "_law_makers" s_law_makers ["_law_inner"] := at0_of X G c.t.d m_law_makers i_fg_law_makers (fun _ _ _ _ _ _ us hl => match us, hl with | [_], _ => rfl)
theorem at_law : At0 K mg "law" "law" s_law ["_law_script"] := at0_of X G c.t.d m_law i_fg_law (fun _ _ _ _ _ _ us hl => match us, hl with | [_], _ => rfl)
end
def looseQ0 : List PySem.Str := ["LaterError", "BadProgram", "BadKind", "BadMost", "NotCode", "NUM", "TO", "TWO", "CODE", "KINDS", "LIMIT", "MOST_IN_KIND", "MOST_PARTS", "MOST_WITHIN", "BOTH"]
def looseQ1 : List PySem.Str := ["FORMS", "is_number", "is_kind", "has_code", "is_data", "is_head", "parts_of", "binders_of", "need_program", "size_of", "is_great", "rebuilt", "renumbered", "MOST_LEVEL", "LATER"]
def looseQ2 : List PySem.Str := ["Name", "with_name", "Check", "kind_of", "STILL", "GREAT", "Function", "with_names", "reckoned", "written_out", "Machine", "shown", "MOST", "GREATEST", "END"]
def looseQ3 : List PySem.Str := ["need_most", "outcome", "need_code", "made", "levels", "_law_taken", "_law_alike", "_law_parts", "_law_many", "_law_sum_of", "_law_come_to", "_law_folded", "_law_makers"]
def looseQ : List PySem.Str := looseQ0 ++ (looseQ1 ++ (looseQ2 ++ (looseQ3)))
end Lw
set_option Elab.async false
set_option linter.all false
set_option maxRecDepth 100000
set_option maxHeartbeats 4000000
namespace Lw
open PySem PySem.Spec PyProof.Rows L2 RZ NdefX LamX
section
variable {K : PySem.W.Frag} {w : World} {h : Heap} {mg : Str → Option Value} (X : K.In h) (G : h.Ns mainGlobals mg) (c : He.SaysX faQ fnQ tsQ tfQ exQ w h K)
include X G c
theorem cst_of : Cst K w mg (He.ga K "FORMS") (He.ga K "KINDS") (He.ga K "LATER") (He.ga K "BOTH") := by
  have F1 := kdc_FORMS X G c
  have F2 := kdc_KINDS X G c
  have F3 := kdc_LATER X G c
  have e1 : (fun z => (tb_FORMS.lookup z).map (He.Dv.v K)) = formG := funext fun z => dvS_look z K formTab
  have e2 : (fun z => (tb_KINDS.lookup z).map (He.Dv.v K)) = kindG := funext fun z => dvI_look z K kindTab
  have e3 : (fun z => (tb_LATER.lookup z).map (He.Dv.v K)) = laterG := funext fun z => dvI_look z K laterTab
  rw [e1] at F1
  rw [e2] at F2
  rw [e3] at F3
  exact ⟨gv_FORMS X G c, F1, gv_KINDS X G c, F2, gv_LATER X G c, F3, gv_BOTH X G c, fun H => tup_BOTH X G c H, gv_NUM X G c, gv_TO X G c, gv_TWO X G c, gv_CODE X G c, gv_LIMIT X G c, gv_MOST_IN_KIND X G c, gv_MOST_PARTS X G c, gv_MOST_WITHIN X G c, gv_MOST_LEVEL X G c,
    fr_zip X G c, fr_len X G c, fr_isinstance X G c, fr_int X G c, fr_bool X G c, fr_str X G c, fr_tuple X G c, fr_list X G c, fr_dict X G c, fr_all X G c, fr_any X G c, fr_max X G c, fr_range X G c⟩
theorem chkAt_of : ChkAt K mg (He.ga K "Name") (He.ga K "Check") where
  is_number := at_is_number X G c
  is_kind := at_is_kind X G c
  has_code := at_has_code X G c
  is_data := at_is_data X G c
  is_head := at_is_head X G c
  parts_of := at_parts_of X G c
  need := at_need_program X G c
  nameI := at_Name_init X G c
  nameC := ⟨cls_Name X G c, noat_Name_level X G c, noat_Name_kind X G c, noat_Name_runs X G c⟩
  with_name := at_with_name X G c
  checkI := at_Check_init X G c
  checkC := ⟨cls_Check X G c, noat_Check_found X G c, noat_Check_kind X G c⟩
  must := at_Check_must X G c
  look := at_Check_look X G c
  named := at_Check_named X G c
  inner := at_Check_inner X G c
  kindBy := at_Check_kind_of X G c
  kind_of := at_kind_of X G c
theorem mcC_of : McC K mg (He.ga K "Machine") (He.ga K "Function") where
  cl := cls_Machine X G c
  nl := noat_Machine_left X G c
  nm := noat_Machine_met X G c
  nw := noat_Machine_work X G c
  nt := noat_Machine_things X G c
  ny := noat_Machine_why X G c
  ne := ne_Function_Machine X G c
  STILL := gv_STILL X G c
  GREAT := gv_GREAT X G c
theorem fnC_of : FnC K (He.ga K "Function") := ⟨cls_Function X G c, noat_Function_e X G c, noat_Function_bound X G c⟩
theorem runC_of : RunC mg := ⟨gv_END X G c, gv_GREATEST X G c⟩
end
/-- the core's promises, of this top -/
structure CoreD (P : Program) (w : World) (K : PySem.W.Frag) (mg : Str → Option Value) (base : Heap) (T : List NTab) : Prop where
  parts : Dfn P w K mg base "parts_of" 1 ["e"] (spParts K)
  kind_of : Dfn P w K mg base "kind_of" 155 ["program"] (spKindOfP K)
  need_most : Dfn P w K mg base "need_most" 2 ["most"] spNeedMost
  outcome : Dfn P w K mg base "outcome" 109 ["program", "kind", "most"] (spOutcome K T)
section
variable {P : Program} {K : PySem.W.Frag} {w : World} {h : Heap} {mg : Str → Option Value} {base : Heap}
theorem coreD_of (X : K.In h) (G : h.Ns mainGlobals mg) (c : He.SaysX faQ fnQ tsQ tfQ exQ w h K) (TB : TabB base mg (He.cT K ("renumbered", none)).1 (He.cT K ("renumbered", none)).2) : CoreD P w K mg base (tabR (He.cT K ("renumbered", none)).2) := by
  have C := cst_of X G c
  have A := chkAt_of X G c
  have cM := mcC_of X G c
  have cF := fnC_of X G c
  have R := runC_of X G c
  have n1 : ∀ base, Dfn P w K mg base "parts_of" 1 ["e"] (spParts K) := fun base => d_parts A C
  have n2 : ∀ base, Dfn P w K mg base "binders_of" 1 ["e"] (spBinders K) := fun base => .of (at_binders_of X G c) fun _ _ F => ok_binders_of F
  have n3 : ∀ base, Dfn P w K mg base "rebuilt" 1 ["e", "numbers", "parts"] (spRebuilt K) := fun base => .of (at_rebuilt X G c) fun _ _ F => ok_rebuilt F C
  have n4 : Dfn P w K mg base "renumbered" 43 ["e"] (spRenum K (tabR (He.cT K ("renumbered", none)).2)) := .ofT (atT_renumbered X G c) fun _ _ F => ok_renumbered F TB C n1 n2 n3
  have n5 : Dfn P w K mg base "size_of" 2 ["e"] (spSizeOf K) := .of (at_size_of X G c) fun _ _ F => ok_size_of F C (n1 base)
  have n6 : Dfn P w K mg base "is_great" 3 ["e"] (spGreat K) := .of (at_is_great X G c) fun _ _ F => ok_is_great F C n5
  have n7 : Dfn P w K mg base "with_names" 1 ["names", "some", "things"] (spWithNames K) := .of (at_with_names X G c) fun _ _ F => ok_with_names F C
  have n8 : Dfn P w K mg base "reckoned" 1 ["word", "one", "other"] spReckoned := .of (at_reckoned X G c) fun _ _ F => ok_reckoned F C
  have n9 : Dfn P w K mg base "written_out" 40 ["worth"] (spWritten K (He.ga K "Function") 40) := ok_written_out (at_written_out X G c) C 40
  have m0 : CDfn P w K mg base "Function" (He.ga K "Function") 1 ["self", "e", "bound"] (spFunctionInit (He.ga K "Function")) := .of (at_Function_init X G c) fun _ _ F => ok_Function_init F cF
  have m1 : MDfn P w K mg base (He.ga K "Machine") "take" 1 ["self"] (spTake (He.ga K "Machine")) := .of (at_Machine_take X G c) fun _ _ F => ok_take F cM
  have m2 : MDfn P w K mg base (He.ga K "Machine") "call" 2 ["self", "function", "worth"] (spMCall K (He.ga K "Function") (He.ga K "Machine")) := .of (at_Machine_call X G c) fun _ _ F => ok_mcall F C cM cF (n2 base) n7
  have m3 : MDfn P w K mg base (He.ga K "Machine") "done" 3 ["self", "word"] (spMDone K (He.ga K "Function") (He.ga K "Machine")) := .of (at_Machine_done X G c) fun _ _ F => ok_mdone F C cM m1 m2 n8
  have m4 : MDfn P w K mg base (He.ga K "Machine") "worth" 3 ["self", "e", "names"] (spMWorth K (He.ga K "Function") (He.ga K "Machine")) := .of (at_Machine_worth X G c) fun _ _ F => ok_mworth F C cM (n1 base) m0
  have m5 : MDfn P w K mg base (He.ga K "Machine") "code" 2 ["self", "e", "names", "level"] (spMCode K (He.ga K "Function") (He.ga K "Machine")) := .of (at_Machine_code X G c) fun _ _ F => ok_mcode F C cM (n1 base) (n2 base) n7
  have m6 : MDfn P w K mg base (He.ga K "Machine") "go_on" 41 ["self", "task"] (spGo K (He.ga K "Function") (He.ga K "Machine")) := .of (at_Machine_go_on X G c) fun _ _ F => ok_go F C cM m1 m3 (n2 base) n7 n6 n9 (n3 base)
  have m7 : CDfn P w K mg base "Machine" (He.ga K "Machine") 42 ["self", "program", "most"] (spMInit K (He.ga K "Function") (He.ga K "Machine")) := .of (at_Machine_init X G c) fun _ _ F => ok_minit F C cM m4 m5 m6
  have r1 := ok_shown (P := P) (base := base) (CF := He.ga K "Function") (at_shown X G c) C n4 65
  have r2 : Dfn P w K mg base "need_most" 2 ["most"] spNeedMost := .of (at_need_most X G c) fun _ _ F => ok_need_most F R (.of A.is_number fun _ _ F => ok_is_number F C)
  have r3 : Dfn P w K mg base "outcome" 109 ["program", "kind", "most"] (spOutcome K (tabR (He.cT K ("renumbered", none)).2)) := .of (at_outcome X G c) fun _ _ F => ok_outcome F cM R m7 r1
  exact ⟨n1 base, d_kind_of A C, r2, r3⟩
end
end Lw
set_option Elab.async false
set_option linter.all false
set_option maxRecDepth 100000
set_option maxHeartbeats 4000000
namespace Lw
open PySem PySem.Spec PyProof.Rows L2 RZ NdefX LamX
/-! ### f(e, k = v): a def with one keyword-only parameter, its value told -/
def gW {α : Type} (us ws : List α) : List α := match us, ws with
  | [u], [w] => [u, w]
  | _, _ => []
structure DfnW (P : Program) (w : World) (K : PySem.W.Frag) (mg : Str → Option Value) (base : Heap) (x kn : Str) (k : Nat) (ps : List Str) (sp : Sp) : Prop where
  ex : ∃ f fd, FnOk P w K mg base CX0 k f fd ps sp ∧ mg x = some (.ref f) ∧ PySem.W.keepIn K (.ref f) = true ∧ KBinds K fd ps [kn] gW gW
structure AtW (K : PySem.W.Frag) (mg : Str → Option Value) (x kn : Str) (st : Stmt) (ps : List Str) : Prop where
  ex : ∃ f fd kws, FunD K x x (defArgs st) (defBody st) (defScope st) [] kws f fd ∧ mg x = some (.ref f) ∧ KBinds K fd ps [kn] gW gW
theorem DfnW.of {P : Program} {w : World} {K : PySem.W.Frag} {mg : Str → Option Value} {base : Heap} {x kn : Str} {k : Nat} {st : Stmt} {ps : List Str} {sp : Sp} (a : AtW K mg x kn st ps)
    (h : ∀ f fd kws, FunD K x x (defArgs st) (defBody st) (defScope st) [] kws f fd → FnOk P w K mg base CX0 k f fd ps sp) : DfnW P w K mg base x kn k ps sp := by
  obtain ⟨f, fd, kws, F, m, d⟩ := a.ex
  exact ⟨f, fd, h f fd kws F, m, F.kp, d⟩
theorem pe_callDKw {X : Cx} {x kn : Str} {k : Nat} {ps : List Str} {sp : Sp} {e ek : Expr} {es : List Expr} {t tk : TA} {p kpos pos : Pos} (D : DfnW X.prog X.w X.K X.mg X.base x kn k ps sp) (hr : Room k X.A) (hg : Gl X x) (ha : PA X (e :: es) t) (hk : PK X [⟨some kn, ek, kpos⟩] tk)
    (hdb : (x == ("__debug__" : Str)) = false := by decide) (he : starEach (e :: es) X.env = (false, eval e X.env) :: starEach es X.env := by rfl)
    (hall : (backToKw pos (keywordEach [⟨some kn, ek, kpos⟩] X.env)).all (·.1.isSome) = true := by rfl) (hks : (backToKw pos (keywordEach [⟨some kn, ek, kpos⟩] X.env)).filterMap (·.1) = [kn] := by rfl)
    (hpl : ((backTo pos (starEach (e :: es) X.env)).any (·.1) || (backToKw pos (keywordEach [⟨some kn, ek, kpos⟩] X.env)).any (·.1.isNone)) = false := by rfl) :
    PE X (.Call (.Name x p) (e :: es) [⟨some kn, ek, kpos⟩] pos) (tCallK sp gW E0 t tk) := by
  obtain ⟨f, fd, F, m, kp, b⟩ := D.ex
  exact pe_callK F hr hg m kp b pass0 ha hk hall hks hdb he hpl
theorem kb_of {K : PySem.W.Frag} {x : Str} {st : Stmt} {kws : List (Str × V)} {f : Addr} {fd : FuncData} {p1 p2 : Str} (F : FunD K x x (defArgs st) (defBody st) (defScope st) [] kws f fd)
    (h : ∀ (kV doc pm : Value) (an : Option Addr) (cdv ct : Value) (u v : Value), bindArgs (PySem.W.fnOf x x (defArgs st) (defBody st) (defScope st) .none kV doc pm an cdv ct) ⟨[u], [(p2, v)]⟩ = pure ([p1, p2].zip [u, v])) : KBinds K fd [p1, p2] [p2] gW gW := by
  obtain ⟨oc, od, dV, kV, doc, pm, an, cdv, ct, osl, rfl, lk, hcd, hD, hK⟩ := F.ex
  rcases hD with ⟨_, rfl⟩ | ⟨e, _⟩
  · refine ⟨fun s us ws X hl => ?_, fun r1 r2 => ?_⟩
    · match us, ws, hl with
      | [u], [v], _ => exact BindsTo.of_looks fun M => (h kV doc pm an cdv ct u v) ▸ PySem.W.Looks.of_pure rfl
      | [], _, hl => cases hl
      | [_], [], hl => cases hl
      | [_], _ :: _ :: _, hl => cases hl
      | _ :: _ :: _, _, hl => cases hl
    · cases r1 with
      | nil => exact .nil
      | cons a r1 =>
        cases r1 with
        | cons _ _ => exact .nil
        | nil =>
          cases r2 with
          | nil => exact .nil
          | cons b r2 =>
            cases r2 with
            | cons _ _ => exact .nil
            | nil => exact .cons a (.cons b .nil)
  · exact absurd rfl e
theorem atW_of {K : PySem.W.Frag} {w : World} {h : Heap} {mg : Str → Option Value} {fa : List He.Fa} {fn : List He.DefD} (X : K.In h) (G : h.Ns mainGlobals mg) (c : He.SaysD fa fn K) {x : Str} {st : Stmt} {p1 p2 : Str} {dv : He.Dv} (hd : dK x st [(p2, dv)] ∈ fn) (hg : He.Fa.glo x ∈ fa)
    (hb : ∀ (kV doc pm : Value) (an : Option Addr) (cdv ct : Value) (u v : Value), bindArgs (PySem.W.fnOf x x (defArgs st) (defBody st) (defScope st) .none kV doc pm an cdv ct) ⟨[u], [(p2, v)]⟩ = pure ([p1, p2].zip [u, v])) : AtW K mg x p2 st [p1, p2] := by
  obtain ⟨fd, F⟩ := c.defs hd
  have F2 : FunD K x x (defArgs st) (defBody st) (defScope st) [] [(p2, dv.v K)] (He.ga K x) fd := F
  exact ⟨⟨_, fd, _, F2, He.glo_ok X G (c.facts hg), kb_of F2 hb⟩⟩
end Lw
set_option Elab.async false
set_option linter.all false
set_option maxRecDepth 100000
set_option maxHeartbeats 4000000
namespace Lw
open PySem PySem.Spec PyProof.Rows L2 RZ NdefX LamX
/-! ### need_code, made -/
def Oc.md : Oc → PyData
  | .fin (.quote e) => .tuple [.str "end", e.d]
  | o => o.d
def spNeedCode (K : PySem.W.Frag) : Sp := fun vs H Q _ => ∃ (v : V) (e : Ex) (a : Kd) (rows : List PyData), vs = [v] ∧ Dp K H v e.d ∧ Let e (.code a) rows ∧ (Kd.code a).dep ≤ 60 ∧ ∀ H' v', Same H H' → Dp K H' v' (Kd.code a).d → Q v' H'
def spMade (K : PySem.W.Frag) (T : List NTab) : Sp := fun vs H Q _ => ∃ (v : V) (e : Ex) (a : Kd) (rows : List PyData) (most n : Nat) (o : Oc), vs = [v, .int (most : Nat)] ∧ Dp K H v e.d ∧ Let e (.code a) rows ∧ (Kd.code a).dep ≤ 60 ∧ most ≤ 5000 ∧ outc n e (.code a) most = some o ∧ TabsN T H ∧ ∀ H' v', ExtN H H' → TabsN T H' → Dp K H' v' o.md → Q v' H'
theorem outc_code {n : Nat} {e : Ex} {a : Kd} {most : Nat} {o : Oc} (h : outc n e (.code a) most = some o) : (∃ e', o = .fin (.quote e')) ∨ o = .still ∨ o = .great := by
  unfold outc at h
  cases hr : mRun n (mStart e most) with
  | none => rw [hr] at h; cases h
  | some st =>
  rw [hr] at h
  dsimp only at h
  cases hy : st.why with
  | still => rw [hy] at h; cases h; exact .inr (.inl rfl)
  | great => rw [hy] at h; cases h; exact .inr (.inr rfl)
  | none =>
    rw [hy] at h
    dsimp only at h
    cases hth : st.things with
    | nil => rw [hth] at h; cases h
    | cons t ts =>
      rw [hth] at h
      dsimp only at h
      cases hs : shown t (.code a) with
      | none => rw [hs] at h; cases h
      | some sh =>
        rw [hs] at h
        cases h
        cases t with
        | code e2 =>
          unfold shown at hs
          split at hs
          · cases hs
          · cases hs
            exact .inl ⟨_, rfl⟩
        | int i => simp [shown] at hs
        | two x y => simp [shown] at hs
        | fn e2 env => simp [shown] at hs
section
variable {P : Program} {w : World} {K : PySem.W.Frag} {mg : Str → Option Value} {base : Heap} {dF dK dL dB CF CM : Addr} {T : List NTab}
theorem sc_need_code : FnScope ["program", "kind"] ["program"] (defScope s_need_code) := ⟨rfl, rfl, rfl, by decide +kernel, rfl, by decide +kernel, by decide +kernel⟩
theorem ok_need_code {f : Addr} {fd : FuncData} (F : Fun K "need_code" "need_code" s_need_code f fd) (C : Cst K w mg dF dK dL dB) (GK : Dfn P w K mg base "kind_of" 155 ["program"] (spKindOfP K)) : FnOk P w K mg base CX0 156 f fd ["program"] (spNeedCode K) := by
  refine F.ok sc_need_code (fun vs H Q E h => ?_) (fun cdv A outer s H vs Q E hr h => ?_)
  · obtain ⟨v, e, a, rows, rfl, _⟩ := h
    rfl
  · obtain ⟨v, e, a, rows, rfl, hd, hl, h60, k⟩ := h
    refine ⟨_, (pss_cons (ps_set (i := 1) sc_need_code.nd rfl (Or.inl rfl) (pe_callD GK hr (by rfl) (pa_cons (pv 0) (pa_nil)))) (pss_cons (ps_if (PW.pt (pw_or (pt_cmpR (op_eqD hr.units) (pv 1) (pe_gv C.NUM) (nomark _)) (pw_or1 (pt_cmpR op_ne (pe_ix ix_tup (pv 1) pe_int (fun _ _ => rfl)) (pe_gv C.CODE) (nomark _))))) (pss_one (ps_never)) pss_nil) (pss_one (ps_ret (pv 1))))), ?_⟩
    refine ⟨_, rfl, v, e, _, rows, rfl, hd, hl, fun H1 kv s1 hk1 => ?_⟩
    refine ⟨_, rfl, (Kd.code a).d, _, hk1, .str _, Kd.shaped (by omega), num_shaped, false, rfl, iteF ?_⟩
    obtain ⟨p, vs, rfl, hq, ha⟩ := kd_of hk1 (by simp)
    refine ⟨_, rfl, _, _, _, _, rfl, rfl, hq, at_of (j := 0) rfl rfl, rfl, _, rfl, iteF ⟨_, rfl, k H1 _ s1 hk1⟩⟩
theorem sc_made : FnScope ["program", "most", "kind", "found"] ["program", "most"] (defScope s_made) := ⟨rfl, rfl, rfl, by decide +kernel, rfl, by decide +kernel, by decide +kernel⟩
theorem ok_made {f : Addr} {fd : FuncData} {kws : List (Str × V)} (F : FunD K "made" "made" (defArgs s_made) (defBody s_made) (defScope s_made) [] kws f fd) (R : RunC mg) (GC : Dfn P w K mg base "need_code" 156 ["program"] (spNeedCode K)) (GN : Dfn P w K mg base "need_most" 2 ["most"] spNeedMost)
    (GO : Dfn P w K mg base "outcome" 109 ["program", "kind", "most"] (spOutcome K T)) : FnOk P w K mg base CX0 157 f fd ["program", "most"] (spMade K T) := by
  refine FunD_ok0 F sc_made (fun vs H Q E h => ?_) (fun cdv A outer s H vs Q E hr h => ?_)
  · obtain ⟨v, e, a, rows, most, n, o, rfl, _⟩ := h
    rfl
  · obtain ⟨v, e, a, rows, most, n, o, rfl, hd, hl, h60, h5, ho, hT, k⟩ := h
    refine ⟨_, (pss_cons (ps_set (i := 2) sc_made.nd rfl (Or.inl rfl) (pe_callD GC hr (by rfl) (pa_cons (pv 0) (pa_nil)))) (pss_cons (ps_expr (pe_callD GN (hr.mono (by decide)) (by rfl) (pa_cons (pv 1) (pa_nil)))) (pss_cons (ps_set (i := 3) sc_made.nd rfl (Or.inl rfl) (pe_callD GO (hr.mono (by decide)) (by rfl) (pa_cons (pv 0) (pa_cons (pv 2) (pa_cons (pv 1) (pa_nil)))))) (pss_one (ps_ret (pe_ifExp (pt_cmpR op_eq (pe_ix ix_tup (pv 3) pe_int (fun _ _ => rfl)) (pe_gv R.END) (nomark _)) (pe_tup (pa_cons (pe_gv R.END) (pa_cons (pe_ix ix_tup (pe_ix ix_tup (pv 3) pe_int (fun _ _ => rfl)) pe_int (fun _ _ => rfl)) (pa_nil)))) (pv 3))))))), ?_⟩
    refine ⟨_, rfl, v, e, a, rows, rfl, hd, hl, h60, fun H1 kv s1 hk1 => ?_⟩
    refine ⟨_, rfl, (most : Nat), rfl, by omega, by omega, ?_⟩
    refine ⟨_, rfl, _, rfl, _, rfl, v, kv, e, _, most, n, o, rfl, Dp.same s1 _ _ hd, Ex.ok_of _ hl.good, hk1, h60, ho, TabsN.ext hT s1, fun H2 v2 e2 T2 hd2 => ?_⟩
    have x2 : ExtN H H2 := (ExtN.of s1).trans e2
    rcases outc_code ho with ⟨e', rfl⟩ | rfl | rfl
    · cases hd2 with
      | tup q hh =>
        cases hh with
        | cons h1 h2 =>
          cases h1
          obtain ⟨sv, rfl, hsv⟩ := dp1 h2
          cases hsv with
          | tup q6 h6 =>
            cases h6 with
            | cons h1 h7 =>
              cases h1
              obtain ⟨ev, rfl, hev⟩ := dp1 h7
              refine ⟨_, rfl, _, _, _, _, rfl, rfl, q, at_of (j := 0) rfl rfl, rfl, _, rfl, iteT ?_⟩
              refine ⟨_, rfl, _, _, _, _, rfl, rfl, q, at_of (j := 1) rfl rfl, _, _, _, _, rfl, rfl, q6, at_of (j := 1) rfl rfl, by show 2 ≤ sizeLine; decide, fun p hp => ?_⟩
              have s3 := Same.new (o := .tup [.str ("end" : Str), ev]) hp
              exact k _ _ (x2.trans (ExtN.of s3)) (TabsN.ext T2 s3) (.tup (SqT.of upd_same) (.cons (.str _) (.cons (Dp.same s3 _ _ hev) .nil)))
    all_goals
      cases hd2 with
      | tup q hh =>
        cases hh with
        | cons h1 h2 =>
          cases h1
          refine ⟨_, rfl, _, _, _, _, rfl, rfl, q, at_of (j := 0) rfl rfl, rfl, _, rfl, iteF ?_⟩
          exact ⟨_, rfl, k _ _ x2 T2 (.tup q (.cons (.str _) h2))⟩
end
end Lw
set_option Elab.async false
set_option linter.all false
set_option maxRecDepth 100000
set_option maxHeartbeats 4000000
namespace Lw
open PySem PySem.Spec PyProof.Rows L2 RZ NdefX LamX
section
variable {P : Program} {w : World} {K : PySem.W.Frag} {mg : Str → Option Value} {base : Heap} {dF dK dL dB CF CM : Addr} {T : List NTab}
abbrev nsLv : List Str := ["program", "most", "kind", "found", "last"]
theorem sc_levels : FnScope nsLv ["program", "most"] (defScope s_levels) := ⟨rfl, rfl, rfl, by decide +kernel, rfl, by decide +kernel, by decide +kernel⟩
theorem ok_levels {f : Addr} {fd : FuncData} {kws : List (Str × V)} (F : FunD K "levels" "levels" (defArgs s_levels) (defBody s_levels) (defScope s_levels) [] kws f fd) (C : Cst K w mg dF dK dL dB) (R : RunC mg) (GK : Dfn P w K mg base "kind_of" 155 ["program"] (spKindOfP K)) (GN : Dfn P w K mg base "need_most" 2 ["most"] spNeedMost)
    (GO : Dfn P w K mg base "outcome" 109 ["program", "kind", "most"] (spOutcome K T)) : FnOk P w K mg base CX0 156 f fd ["program", "most"] (spLevels K T) := by
  refine FunD_ok0 F sc_levels (fun vs H Q E h => ?_) (fun cdv A outer s H vs Q E hr h => ?_)
  · obtain ⟨v, e, k, rows, most, n, o, o2, found, rfl, _⟩ := h
    rfl
  · obtain ⟨v, e, kd, rows, most, n, o, o2, found, rfl, hd, hl, h60, h5, ho, hlv, hfl, hT, k⟩ := h
    have hrO : Room 109 _ := hr.mono (by decide)
    refine ⟨_, (pss_cons (ps_set (i := 2) sc_levels.nd rfl (Or.inl rfl) (pe_callD GK hr (by rfl) (pa_cons (pv 0) (pa_nil)))) (pss_cons (ps_expr (pe_callD GN (hr.mono (by decide)) (by rfl) (pa_cons (pv 1) (pa_nil)))) (pss_cons (ps_set (i := 3) sc_levels.nd rfl (Or.inl rfl) (pe_lst (pa_cons (pv 0) (pa_nil)))) (pss_cons (ps_set (i := 4) sc_levels.nd rfl (Or.inl rfl) (pe_callD GO hrO (by rfl) (pa_cons (pv 0) (pa_cons (pv 2) (pa_cons (pv 1) (pa_nil)))))) (pss_cons (ps_while PassesOwn.never (PW.pt (pw_and (pt_cmpR (op_neD hr.units) (pv 2) (pe_gv C.NUM) (nomark _)) (pw_and (pt_cmpR op_eq (pe_ix ix_tup (pv 2) pe_int (fun _ _ => rfl)) (pe_gv C.CODE) (nomark _)) (pw_and1 (pt_cmpR op_eq (pe_ix ix_tup (pv 4) pe_int (fun _ _ => rfl)) (pe_gv R.END) (nomark _))))))
        (pss_cons (ps_set (i := 2) sc_levels.nd rfl (Or.inl rfl) (pe_ix ix_tup (pv 2) pe_int (fun _ _ => rfl))) (pss_cons (ps_expr (pe_bm PySem.F.plainAttrs_list PySem.F.slot_list_append PySem.F.type_list_append mt_append (pv 3) (pa_cons (pe_ix ix_tup (pe_ix ix_tup (pv 4) pe_int (fun _ _ => rfl)) pe_int (fun _ _ => rfl)) (pa_nil)))) (pss_one (ps_set (i := 4) sc_levels.nd rfl (Or.inl rfl) (pe_callD GO hrO (by rfl) (pa_cons (pe_ix ix_list (pv 3) (pe_un un_neg pe_int) (fun _ _ => rfl)) (pa_cons (pv 2) (pa_cons (pv 1) (pa_nil)))))))))) (pss_one (ps_ret (pe_tup (pa_cons (pv 3) (pa_cons (pv 4) (pa_nil))))))))))), ?_⟩
    refine ⟨_, rfl, v, e, kd, rows, rfl, hd, hl, fun H1 kv s1 hk1 => ?_⟩
    refine ⟨_, rfl, (most : Nat), rfl, by omega, by omega, ?_⟩
    refine ⟨_, rfl, by show 1 ≤ sizeLine; decide, fun L hL => ?_⟩
    have s2 := Same.new (o := .lst [v]) hL
    have s12 := s1.trans s2
    have hLH : H L = none := s1.free hL
    refine ⟨_, rfl, _, rfl, _, rfl, v, kv, e, kd, most, n, o, rfl, Dp.same s12 _ _ hd, Ex.ok_of _ hl.good, Dp.same s2 _ _ hk1, h60, ho, TabsN.ext hT s12, fun H3 v3 e3 T3 hd3 => ?_⟩
    have hL3 : H3 L = some (.lst [v]) := e3 _ _ upd_same (fun _ z => nomatch z)
    have e03 : ExtN H H3 := (ExtN.of s12).trans e3
    have hd03 : Dp K H3 v e.d := Dp.ext e03 _ _ hd
    have hk3 : Dp K H3 kv kd.d := Dp.ext ((ExtN.of s2).trans e3) _ _ hk1
    -- the loop
    refine ⟨fun m σ H' => ∃ (kc : Kd) (fnd : List Ex) (lst : Oc) (kv' lv' : V) (fvs : List V), m = kc.dep ∧ σ = [some v, some (.int (most : Nat)), some kv', some (.ref L), some lv'] ∧ ExtN H H' ∧ TabsN T H' ∧ H' L = some (.lst fvs) ∧ DpAll K H' fvs (fnd.map Ex.d) ∧ Dp K H' kv' kc.d ∧ Dp K H' lv' lst.d ∧
      kc.dep ≤ 60 ∧ fnd.length ≤ found.length ∧ Levs most kc fnd lst found o2, ⟨_, kd, [e], o, kv, v3, [v], rfl, rfl, e03, T3, hL3, .cons hd03 .nil, hk3, hd3, h60, hlv.len, hlv⟩, ?_⟩
    rintro m σ H4 ⟨kc, fnd, lst, kv', lv', fvs, rfl, rfl, e4, T4, hL4, hfv, hkc, hlst, hk60, hfn, hlv4⟩
    have exit : (∀ a, kc = .code a → ∀ s, lst ≠ .fin s) → tRet (tTup (tCons (tVar 3) (tCons (tVar 4) tNil))) { nx := fun _ H' => Q .non H', rt := Q } [some v, some (.int (most : Nat)), some kv', some (.ref L), some lv'] H4 := by
      intro hx
      cases hlv4 with
      | go h1 h2 h3 => exact absurd rfl (hx _ rfl _)
      | stop _ =>
        refine ⟨_, rfl, _, rfl, by show 2 ≤ sizeLine; decide, fun p hp => ?_⟩
        have s5 := Same.new (o := .tup [.ref L, lv']) hp
        exact k _ _ (e4.trans (ExtN.of s5)) (TabsN.ext T4 s5) (.tup (SqT.of upd_same) (.cons (.lst (SqL.of (s5 _ _ hL4)) (DpAll.same s5 _ _ hfv)) (.cons (Dp.same s5 _ _ hlst) .nil)))
    refine ⟨_, rfl, kc.d, _, hkc, .str _, Kd.shaped (by omega), num_shaped, ?_⟩
    by_cases hnum : kc = .num
    · refine ⟨false, congrArg V.bl ?_, iteF ?_⟩
      · rw [hnum]
        rfl
      · exact exit fun a h => by rw [hnum] at h; cases h
    refine ⟨true, congrArg V.bl (neq_num hnum), iteT ?_⟩
    obtain ⟨p, vs, rfl, hq, ha⟩ := kd_of hkc hnum
    refine ⟨_, rfl, _, _, _, _, rfl, rfl, hq, at_of (j := 0) rfl rfl, rfl, _, rfl, ite2 (fun hc => ?_) (fun hc => ?_)⟩
    rotate_left
    · exact exit fun a h => absurd (by rw [h]; rfl) hc
    obtain ⟨a, rfl⟩ : ∃ a, kc = .code a := by
      have hw : kc.w = "code" := by simpa using hc
      cases kc with
      | num => exact absurd rfl hnum
      | to a b => exact absurd hw (by show ¬ (("to" : Str) = "code"); decide +kernel)
      | two a b => exact absurd hw (by show ¬ (("two" : Str) = "code"); decide +kernel)
      | code a => exact ⟨a, rfl⟩
    obtain ⟨ka, rfl, hka⟩ := dp1 ha
    have d1 : a.dep < (Kd.code a).dep := Kd.args_dep (by simp [Kd.args])
    -- the outcome's tuple
    have hlo : ∃ (q : Addr) (w0 : Str) (ws : List V), lv' = .ref q ∧ SqT K H4 q (.str w0 :: ws) ∧ (w0 = "end" ↔ ∃ s, lst = .fin s) ∧ ∀ s, lst = .fin s → DpAll K H4 ws [s.d] := by
      cases lst with
      | still =>
        cases hlst with
        | tup q hh =>
          cases hh with
          | cons h1 h2 =>
            cases h1
            exact ⟨_, _, _, rfl, q, ⟨fun h => absurd h (by decide +kernel), fun ⟨s, h⟩ => nomatch h⟩, fun s h => nomatch h⟩
      | great =>
        cases hlst with
        | tup q hh =>
          cases hh with
          | cons h1 h2 =>
            cases h1
            exact ⟨_, _, _, rfl, q, ⟨fun h => absurd h (by decide +kernel), fun ⟨s, h⟩ => nomatch h⟩, fun s h => nomatch h⟩
      | fin s =>
        cases hlst with
        | tup q hh =>
          cases hh with
          | cons h1 h2 =>
            cases h1
            exact ⟨_, _, _, rfl, q, ⟨fun _ => ⟨s, rfl⟩, fun _ => rfl⟩, fun s' h => by cases h; exact h2⟩
    obtain ⟨q, w0, ws, rfl, hq4, hiff, hws⟩ := hlo
    refine ⟨_, rfl, _, _, _, _, rfl, rfl, hq4, at_of (j := 0) rfl rfl, rfl, _, rfl, ite2 (fun hc2 => ?_) (fun hc2 => ?_)⟩
    rotate_left
    · refine exit fun a' h s hs => hc2 ?_
      rw [hiff.mpr ⟨s, hs⟩]
      rfl
    have hw0 : w0 = "end" := V.str.inj (of_decide_eq_true hc2)
    obtain ⟨s, rfl⟩ := hiff.mp hw0
    cases hlv4 with
    | stop h => exact absurd rfl (h a rfl s)
    | go hok' hout hlv5 =>
      rename_i e' last' n'
      obtain ⟨sv, rfl, hsv⟩ := dp1 (hws _ rfl)
      cases hsv with
      | tup q6 hh =>
        rename_i qa qvs
        cases hh with
        | cons h1 h2 =>
          cases h1
          obtain ⟨ev, rfl, hev⟩ := dp1 h2
          refine ⟨fun σ' H' => ∃ (kc : Kd) (fnd : List Ex) (lst : Oc) (kv' lv' : V) (fvs : List V), kc.dep < (Kd.code a).dep ∧ σ' = [some v, some (.int (most : Nat)), some kv', some (.ref L), some lv'] ∧ ExtN H H' ∧ TabsN T H' ∧ H' L = some (.lst fvs) ∧ DpAll K H' fvs (fnd.map Ex.d) ∧ Dp K H' kv' kc.d ∧ Dp K H' lv' lst.d ∧
            kc.dep ≤ 60 ∧ fnd.length ≤ found.length ∧ Levs most kc fnd lst found o2, ?_, ?_⟩
          · rintro σ' H' ⟨kc, fnd, lst, kv2, lv2, fv2, h1, h2, h3⟩
            exact ⟨kc.dep, h1, kc, fnd, lst, kv2, lv2, fv2, rfl, h2, h3⟩
          · refine ⟨_, rfl, _, _, _, _, rfl, rfl, hq, at_of (j := 1) rfl rfl, ?_⟩
            have lf : fvs.length = fnd.length := by rw [DpAll.length hfv, List.length_map]
            refine ⟨_, rfl, .inl ⟨rfl, _, SqL.of hL4⟩, _, rfl, _, _, _, _, rfl, rfl, hq4, at_of (j := 1) rfl rfl, _, _, _, _, rfl, rfl, q6, at_of (j := 1) rfl rfl, L, fvs, _, rfl, rfl, hL4, Nat.lt_of_le_of_lt (show fvs.length ≤ 1000 by omega) (by decide), ?_⟩
            have ts5 : TSame H4 (upd H4 L (.lst (fvs ++ [ev]))) := TSame.mut hL4 trivial
            have hL5 : upd H4 L (.lst (fvs ++ [ev])) L = some (.lst (fvs ++ [ev])) := upd_same
            have x5 : ExtN H (upd H4 L (.lst (fvs ++ [ev]))) := fun b o hb nt => by
              rw [upd_ne (ne_of_none hb hLH)]
              exact e4 b o hb nt
            have T5 : TabsN T (upd H4 L (.lst (fvs ++ [ev]))) := TabsN.chg T4 Chg.upd hL4
            generalize upd H4 L (.lst (fvs ++ [ev])) = H5 at ts5 hL5 x5 T5
            have hfv5 : DpAll K H5 (fvs ++ [ev]) ((fnd ++ [e']).map Ex.d) := by
              rw [List.map_append]
              refine DpAll.append (DpAll.tsame ts5 _ _ ?_ hfv) (.cons (Dp.tsame ts5 _ _ (Ex.flat _) hev) .nil)
              rw [← Ex.dL_eq]
              exact Ex.flatL _
            refine ⟨_, rfl, _, rfl, L, _, _, ev, rfl, rfl, SqL.of hL5, atI_last _ _, _, rfl, _, rfl, ev, ka, e', a, most, n', last', rfl, Dp.tsame ts5 _ _ (Ex.flat _) hev, hok', Dp.tsame ts5 _ _ (Kd.flat _) hka, by omega, hout, T5, fun H6 v6 e6 T6 hd6 => ?_⟩
            exact ⟨a, fnd ++ [e'], last', ka, v6, fvs ++ [ev], d1, rfl, x5.trans e6, T6, e6 _ _ hL5 (fun _ z => nomatch z), DpAll.ext e6 _ _ hfv5, Dp.ext e6 _ _ (Dp.tsame ts5 _ _ (Kd.flat _) hka), hd6, by omega, hlv5.len, hlv5⟩
end
end Lw
set_option Elab.async false
set_option linter.all false
set_option maxRecDepth 100000
set_option maxHeartbeats 4000000
namespace Lw
open PySem PySem.Spec PyProof.Rows L2 RZ
/-! ### expressions by their words -/
def xNum (n : Int) : Ex := .node .num [n] [] []
def xName (n : Int) : Ex := .node .name [n] [] []
def xPlus (a b : Ex) : Ex := .node .plus [] [] [a, b]
def xTimes (a b : Ex) : Ex := .node .times [] [] [a, b]
def xLess (a b : Ex) : Ex := .node .less [] [] [a, b]
def xIf (a b c : Ex) : Ex := .node .ite [] [] [a, b, c]
def xLet (n : Int) (a b : Ex) : Ex := .node .lt [n] [] [a, b]
def xFun (n : Int) (k : Kd) (a : Ex) : Ex := .node .fn [n] [k] [a]
def xRec (f n : Int) (k l : Kd) (a : Ex) : Ex := .node .rc [f, n] [k, l] [a]
def xCall (a b : Ex) : Ex := .node .call [] [] [a, b]
def xTwo (a b : Ex) : Ex := .node .two [] [] [a, b]
def xFst (a : Ex) : Ex := .node .fst [] [] [a]
def xSnd (a : Ex) : Ex := .node .snd [] [] [a]
def xQuote (a : Ex) : Ex := .node .quote [] [] [a]
def xNow (a : Ex) : Ex := .node .now [] [] [a]
def xRun (a : Ex) : Ex := .node .run [] [] [a]
def xCarry (a : Ex) : Ex := .node .carry [] [] [a]
end Lw
set_option Elab.async false
set_option linter.all false
set_option maxRecDepth 100000
set_option maxHeartbeats 4000000
namespace Lw
open PySem PySem.Spec PyProof.Rows L2 RZ
/-! ### what the machine does with an expression, at one go -/
def Steps (a b : Mc) : Prop := ∃ n, ∀ k, mRun (n + k) a = mRun k b
theorem Steps.refl (a : Mc) : Steps a a := ⟨0, fun k => by rw [Nat.zero_add]⟩
theorem Steps.trans {a b c : Mc} (h1 : Steps a b) (h2 : Steps b c) : Steps a c := by
  obtain ⟨n, f⟩ := h1
  obtain ⟨m, g⟩ := h2
  exact ⟨n + m, fun k => by rw [Nat.add_assoc, f, g]⟩
theorem Steps.one {l m : Nat} {tk : Tk} {W : List Tk} {S : List Th} {b : Mc} (h : mOne tk ⟨l, m, W, S, .none⟩ = some b) : Steps ⟨l, m, tk :: W, S, .none⟩ b := by
  refine ⟨1, fun k => ?_⟩
  rw [Nat.add_comm, mRun]
  show (match mOne tk ⟨l, m, W, S, .none⟩ with | none => none | some st' => mRun k st') = _
  rw [h]
theorem Steps.halt {a b : Mc} (h : Steps a b) (hb : b.work = [] ∨ b.why ≠ .none) : ∃ n, mRun n a = some b := by
  obtain ⟨n, f⟩ := h
  refine ⟨n + 1, (f 1).trans ?_⟩
  rw [mRun]
  split
  · rename_i h1 h2
    rcases hb with hb | hb
    · rw [hb] at h2; cases h2
    · exact absurd h1 hb
  · rfl
/-- how something comes out: a thing with the calls left and the names met; ended; nothing is said -/
inductive Re (α : Type) where
  | ok (x : α) (l m : Nat) | bad (y : Wy) | stuck
def Re.bind {α β : Type} (r : Re α) (f : α → Nat → Nat → Re β) : Re β := match r with
  | .ok x l m => f x l m
  | .bad y => .bad y
  | .stuck => .stuck
def Post (W : List Tk) (S : List Th) : Re Th → Mc → Prop
  | .ok t l m, b => b = ⟨l, m, W, t :: S, .none⟩
  | .bad y, b => b.why = y ∧ y ≠ .none
  | .stuck, _ => True
def Leads (a : Mc) (P : Mc → Prop) : Prop := ∃ b, Steps a b ∧ P b
def RT (d : Nat) (tk : Tk) (l m : Nat) (r : Re Th) : Prop := ∀ W S, W.length + d ≤ 100000 → S.length + d ≤ 100000 → Leads ⟨l, m, tk :: W, S, .none⟩ (Post W S r)
theorem RT.mono {d d' : Nat} {tk : Tk} {l m : Nat} {r : Re Th} (h : RT d tk l m r) (hd : d ≤ d') : RT d' tk l m r := fun W S h1 h2 => h W S (by omega) (by omega)
theorem leads_end {a : Mc} {P : Mc → Prop} (h : P a) : Leads a P := ⟨a, Steps.refl a, h⟩
theorem leads_one {l m : Nat} {tk : Tk} {W : List Tk} {S : List Th} {b : Mc} {P : Mc → Prop} (h : mOne tk ⟨l, m, W, S, .none⟩ = some b) (h2 : Leads b P) : Leads ⟨l, m, tk :: W, S, .none⟩ P := by
  obtain ⟨c, q, p⟩ := h2
  exact ⟨c, (Steps.one h).trans q, p⟩
theorem leads_bind {d : Nat} {tk : Tk} {l m : Nat} {r : Re Th} {f : Th → Nat → Nat → Re Th} {R W : List Tk} {S S' : List Th} (h1 : RT d tk l m r) (hw : R.length + d ≤ 100000) (hs : S'.length + d ≤ 100000)
    (h2 : ∀ t l' m', r = .ok t l' m' → Leads ⟨l', m', R, t :: S', .none⟩ (Post W S (f t l' m'))) : Leads ⟨l, m, tk :: R, S', .none⟩ (Post W S (r.bind f)) := by
  obtain ⟨b, q, p⟩ := h1 R S' hw hs
  cases r with
  | ok t l' m' =>
    obtain rfl : b = _ := p
    obtain ⟨c, q2, p2⟩ := h2 t l' m' rfl
    exact ⟨c, q.trans q2, p2⟩
  | bad y => exact ⟨b, q, p⟩
  | stuck => exact ⟨b, q, trivial⟩
theorem leads_stuck {a : Mc} {W : List Tk} {S : List Th} : Leads a (Post W S .stuck) := leads_end trivial
def Re.code (r : Re Ex) : Re Th := r.bind fun c l m => .ok (.code c) l m
/-! ### the evaluator -/
abbrev EvW := Ex → En → Nat → Nat → Re Th
abbrev EvC := Ex → En → Int → Nat → Nat → Re Ex
def fin1 (w : Wd) (t : Th) (l m : Nat) : Re Th := match t with
  | .two a b => if w = .fst then .ok a l m else if w = .snd then .ok b l m else .stuck
  | _ => .stuck
def evCall (rw : EvW) (f v : Th) (l m : Nat) : Re Th :=
  if l = 0 then .bad .still
  else match f with
    | .fn g env => match g.es with
      | [b] => if env.length ≤ 100000 ∧ (g.w = .fn ∨ g.w = .rc) then rw b (putAll env (bindsI g.w g.ns) (if g.w = .rc then [f, v] else [v])) (l - 1) m else .stuck
      | _ => .stuck
    | _ => .stuck
def fin2 (rw : EvW) (w : Wd) (x y : Th) (l m : Nat) : Re Th :=
  if w = .plus ∨ w = .times ∨ w = .less then match x, y with
    | .int a, .int b => match reck w a b with
      | some r => .ok (.int r) l m
      | none => .stuck
    | _, _ => .stuck
  else if w = .two then .ok (.two x y) l m
  else if w = .call then evCall rw x y l m
  else .stuck
def evW (rw : EvW) (rc : EvC) (e : Ex) (env : En) (l m : Nat) : Re Th :=
  if e.w = .num then match e.ns with | [n] => .ok (.int n) l m | _ => .stuck
  else if e.w = .name then match e.ns with
    | [x] => match look env x with
      | some t => .ok t l m
      | none => .stuck
    | _ => .stuck
  else if e.w = .fn ∨ e.w = .rc then .ok (.fn e env) l m
  else if e.w = .lt then match e.es with
    | [a, b] => (rw a env l m).bind fun t l1 m1 => if env.length ≤ 100000 then rw b (putAll env (bindsI e.w e.ns) [t]) l1 m1 else .stuck
    | _ => .stuck
  else if e.w = .ite then match e.es with
    | [a, b, c] => (rw a env l m).bind fun t l1 m1 => match t with
      | .int n => rw (if n = 0 then c else b) env l1 m1
      | _ => .stuck
    | _ => .stuck
  else if e.w = .quote then match e.es with
    | [a] => (rc a env 1 l m).code.bind fun t l1 m1 => match t with
      | .code c => if c.size ≤ 1000000 then (if great c = true then .bad .great else .ok (.code c) l1 m1) else .stuck
      | _ => .stuck
    | _ => .stuck
  else if e.w = .run then match e.es with
    | [a] => (rw a env l m).bind fun t l1 m1 => match t with
      | .code c => rw c [] l1 m1
      | _ => .stuck
    | _ => .stuck
  else match e.es with
    | [a] => (rw a env l m).bind fun t l1 m1 => fin1 e.w t l1 m1
    | [a, b] => (rw a env l m).bind fun x l1 m1 => (rw b env l1 m1).bind fun y l2 m2 => fin2 rw e.w x y l2 m2
    | _ => .stuck
def evL (rc : EvC) (lv : Int) : List (Ex × En) → Nat → Nat → Re (List Ex)
  | [], l, m => .ok [] l m
  | (p, env) :: r, l, m => (rc p env lv l m).bind fun c l1 m1 => (evL rc lv r l1 m1).bind fun cs l2 m2 => .ok (c :: cs) l2 m2
def evC (rw : EvW) (rc : EvC) (e : Ex) (env : En) (lv : Int) (l m : Nat) : Re Ex :=
  if env.length ≤ 100000 ∧ e.es.length ≤ 3 then
    if e.w = .name then match e.ns with
      | [x] => match look env x with
        | some (.int k) => .ok (.node .name [k] [] []) l m
        | _ => .stuck
      | _ => .stuck
    else if e.w = .now ∧ lv = 1 then match e.es with
      | [a] => (rw a env l m).bind fun t l1 m1 => match t with
        | .code c => .ok c l1 m1
        | _ => .stuck
      | _ => .stuck
    else if e.w = .carry ∧ lv = 1 then match e.es with
      | [a] => (rw a env l m).bind fun t l1 m1 => match written 40 t with
        | some c => .ok c l1 m1
        | none => .stuck
      | _ => .stuck
    else
      let b := bindsI e.w e.ns
      let nm := nums m b.length
      let env2 := putAll env b (nm.map Th.int)
      let ps := (if e.w = .lt then (e.es.take 1).map (fun p => (p, env)) else []) ++ ((e.es.drop (if e.w = .lt then 1 else 0)).map fun p => (p, env2))
      (evL rc (lv + e.w.later) ps l (m + b.length)).bind fun cs l1 m1 => .ok (.node e.w (if e.w.binds then nm else e.ns) e.ks cs) l1 m1
  else .stuck
def ev : Nat → EvW × EvC
  | 0 => (fun _ _ _ _ => .stuck, fun _ _ _ _ _ => .stuck)
  | n + 1 => (evW (ev n).1 (ev n).2, evC (ev n).1 (ev n).2)
end Lw
set_option Elab.async false
set_option linter.all false
set_option maxRecDepth 100000
set_option maxHeartbeats 4000000
namespace Lw
open PySem PySem.Spec PyProof.Rows L2 RZ
/-! ### the evaluator tells what the machine does -/
theorem Re.bind_bind {α β γ : Type} (r : Re α) (f : α → Nat → Nat → Re β) (g : β → Nat → Nat → Re γ) : (r.bind f).bind g = r.bind fun x l m => (f x l m).bind g := by cases r <;> rfl
theorem Re.code_bind {β : Type} (r : Re Ex) (g : Th → Nat → Nat → Re β) : r.code.bind g = r.bind fun c l m => g (.code c) l m := by cases r <;> rfl
section
variable {rw : EvW} {rc : EvC} {d : Nat}
theorem lead1 {l m l2 m2 : Nat} {tk : Tk} {W W' : List Tk} {S S' : List Th} {y : Wy} {r : Re Th} (h : mOne tk ⟨l, m, W, S, .none⟩ = some ⟨l2, m2, W', S', y⟩) (h2 : Leads ⟨l2, m2, W', S', y⟩ (Post W S r)) : Leads ⟨l, m, tk :: W, S, .none⟩ (Post W S r) := leads_one h h2
theorem evCall_ok (hw : ∀ e env l m, RT d (.worth e env) l m (rw e env l m)) {x y : Th} {l m : Nat} {W : List Tk} {S : List Th} (h1 : W.length + d + 5 ≤ 100000) (h2 : S.length + d + 5 ≤ 100000) :
    Leads ⟨l, m, .done .call :: W, y :: x :: S, .none⟩ (Post W S (evCall rw x y l m)) := by
  have hc : W.length ≤ 100000 ∧ (y :: x :: S).length ≤ 100000 := ⟨by omega, by simp only [List.length_cons]; omega⟩
  unfold evCall
  by_cases hl : l = 0
  · rw [if_pos hl]
    refine leads_one (b := ⟨l, m, W, S, .still⟩) ?_ (leads_end ⟨rfl, by decide⟩)
    show (if W.length ≤ 100000 ∧ (y :: x :: S).length ≤ 100000 then mDone .call ⟨l, m, W, y :: x :: S, .none⟩ else none) = _
    rw [if_pos hc]
    show mCall x y ⟨l, m, W, S, .none⟩ = _
    unfold mCall
    exact if_pos hl
  · rw [if_neg hl]
    cases x with
    | fn g env =>
      dsimp only
      cases hg : g.es with
      | nil => exact leads_stuck
      | cons b r =>
        cases r with
        | cons _ _ => exact leads_stuck
        | nil =>
          dsimp only
          by_cases hq : env.length ≤ 100000 ∧ (g.w = .fn ∨ g.w = .rc)
          · rw [if_pos hq]
            refine leads_one (b := ⟨l - 1, m, .worth b (putAll env (bindsI g.w g.ns) (if g.w = .rc then [.fn g env, y] else [y])) :: W, S, .none⟩) ?_ (hw _ _ _ _ W S (by omega) (by omega))
            show (if W.length ≤ 100000 ∧ (y :: Th.fn g env :: S).length ≤ 100000 then mDone .call ⟨l, m, W, y :: .fn g env :: S, .none⟩ else none) = _
            rw [if_pos hc]
            show mCall (.fn g env) y ⟨l, m, W, S, .none⟩ = _
            unfold mCall
            rw [if_neg (show ¬ (Mc.left ⟨l, m, W, S, .none⟩) = 0 from hl)]
            show (match g.es with | [b] => _ | _ => _) = _
            rw [hg]
            dsimp only
            rw [if_pos ⟨hq.1, hc.1, hq.2⟩]
          · rw [if_neg hq]
            exact leads_stuck
    | int n => exact leads_stuck
    | two a b => exact leads_stuck
    | code c => exact leads_stuck
theorem done1 {w : Wd} {t : Th} {l m : Nat} {W : List Tk} {S : List Th} (h1 : W.length + 5 ≤ 100000) (h2 : S.length + 5 ≤ 100000) : Leads ⟨l, m, .done w :: W, t :: S, .none⟩ (Post W S (fin1 w t l m)) := by
  unfold fin1
  have hc : W.length ≤ 100000 ∧ (t :: S).length ≤ 100000 := ⟨by omega, by simp only [List.length_cons]; omega⟩
  cases t with
  | two a b =>
    dsimp only
    by_cases hf : w = .fst
    · rw [if_pos hf]
      refine leads_one (b := ⟨l, m, W, a :: S, .none⟩) ?_ (leads_end rfl)
      show (if W.length ≤ 100000 ∧ (Th.two a b :: S).length ≤ 100000 then mDone w ⟨l, m, W, .two a b :: S, .none⟩ else none) = _
      rw [if_pos hc]
      unfold mDone
      rw [if_pos hf]
    · rw [if_neg hf]
      by_cases hs : w = .snd
      · rw [if_pos hs]
        refine leads_one (b := ⟨l, m, W, b :: S, .none⟩) ?_ (leads_end rfl)
        show (if W.length ≤ 100000 ∧ (Th.two a b :: S).length ≤ 100000 then mDone w ⟨l, m, W, .two a b :: S, .none⟩ else none) = _
        rw [if_pos hc]
        unfold mDone
        rw [if_neg hf, if_pos hs]
      · rw [if_neg hs]
        exact leads_stuck
  | int n => exact leads_stuck
  | fn g env => exact leads_stuck
  | code c => exact leads_stuck
theorem done2 (hw : ∀ e env l m, RT d (.worth e env) l m (rw e env l m)) {w : Wd} {x y : Th} {l m : Nat} {W : List Tk} {S : List Th} (hn : w ≠ .fst ∧ w ≠ .snd) (h1 : W.length + d + 5 ≤ 100000) (h2 : S.length + d + 5 ≤ 100000) :
    Leads ⟨l, m, .done w :: W, y :: x :: S, .none⟩ (Post W S (fin2 rw w x y l m)) := by
  have hc : W.length ≤ 100000 ∧ (y :: x :: S).length ≤ 100000 := ⟨by omega, by simp only [List.length_cons]; omega⟩
  unfold fin2
  have key : ∀ b, mDone w ⟨l, m, W, y :: x :: S, .none⟩ = some b → mOne (.done w) ⟨l, m, W, y :: x :: S, .none⟩ = some b := by
    intro b hb
    show (if W.length ≤ 100000 ∧ (y :: x :: S).length ≤ 100000 then mDone w ⟨l, m, W, y :: x :: S, .none⟩ else none) = _
    rw [if_pos hc, hb]
  by_cases h3 : w = .plus ∨ w = .times ∨ w = .less
  · rw [if_pos h3]
    cases x with
    | int a =>
      cases y with
      | int b =>
        dsimp only
        cases hr : reck w a b with
        | none => exact leads_stuck
        | some r =>
          refine leads_one (b := ⟨l, m, W, .int r :: S, .none⟩) (key _ ?_) (leads_end rfl)
          unfold mDone
          rw [if_neg hn.1, if_neg hn.2]
          dsimp only
          rw [if_pos h3, hr]
          rfl
      | two a b => exact leads_stuck
      | fn g env => exact leads_stuck
      | code c => exact leads_stuck
    | two a b => exact leads_stuck
    | fn g env => exact leads_stuck
    | code c => exact leads_stuck
  · rw [if_neg h3]
    by_cases h4 : w = .two
    · rw [if_pos h4]
      refine leads_one (b := ⟨l, m, W, .two x y :: S, .none⟩) (key _ ?_) (leads_end rfl)
      unfold mDone
      rw [if_neg hn.1, if_neg hn.2]
      dsimp only
      rw [if_neg h3, if_pos h4]
    · rw [if_neg h4]
      by_cases h5 : w = .call
      · rw [if_pos h5]
        subst h5
        exact evCall_ok hw h1 h2
      · rw [if_neg h5]
        exact leads_stuck
theorem evW_ok (hw : ∀ e env l m, RT d (.worth e env) l m (rw e env l m)) (hc : ∀ e env lv l m, RT d (.code e env lv) l m (rc e env lv l m).code) (e : Ex) (env : En) (l m : Nat) : RT (d + 10) (.worth e env) l m (evW rw rc e env l m) := by
  intro W S h1 h2
  have hcs : W.length ≤ 100000 ∧ S.length ≤ 100000 := ⟨by omega, by omega⟩
  have key : ∀ {f : Mc → Option Mc} {b : Mc}, (∀ st : Mc, st.work.length ≤ 100000 ∧ st.things.length ≤ 100000 → mWorth e env st = f st) → f ⟨l, m, W, S, .none⟩ = some b → mOne (.worth e env) ⟨l, m, W, S, .none⟩ = some b := fun hf hb => (hf _ hcs).trans hb
  unfold evW
  by_cases a1 : e.w = .num
  · rw [if_pos a1]
    split
    · rename_i n hn
      refine leads_one (b := ⟨l, m, W, .int n :: S, .none⟩) (key (f := fun st => some { st with things := .int n :: st.things }) (fun st hst => ?_) rfl) (leads_end rfl)
      unfold mWorth
      rw [if_pos hst, if_pos a1, hn]
    · exact leads_stuck
  rw [if_neg a1]
  by_cases a2 : e.w = .name
  · rw [if_pos a2]
    split
    · rename_i x hx
      cases hl : look env x with
      | none => exact leads_stuck
      | some t =>
        refine leads_one (b := ⟨l, m, W, t :: S, .none⟩) (key (f := fun st => some { st with things := t :: st.things }) (fun st hst => ?_) rfl) (leads_end rfl)
        unfold mWorth
        rw [if_pos hst, if_neg a1, if_pos a2, hx]
        dsimp only
        rw [hl]
        rfl
    · exact leads_stuck
  rw [if_neg a2]
  by_cases a3 : e.w = .fn ∨ e.w = .rc
  · rw [if_pos a3]
    refine leads_one (b := ⟨l, m, W, .fn e env :: S, .none⟩) (key (f := fun st => some { st with things := .fn e env :: st.things }) (fun st hst => ?_) rfl) (leads_end rfl)
    unfold mWorth
    rw [if_pos hst, if_neg a1, if_neg a2, if_pos a3]
  rw [if_neg a3]
  by_cases a4 : e.w = .lt
  · rw [if_pos a4]
    split
    · rename_i a b hes
      refine leads_one (b := ⟨l, m, .worth a env :: .bind e env :: W, S, .none⟩) (key (f := fun st => some { st with work := .worth a env :: .bind e env :: st.work }) (fun st hst => ?_) rfl) ?_
      · unfold mWorth
        rw [if_pos hst, if_neg a1, if_neg a2, if_neg a3, if_pos a4, hes]
      refine leads_bind (hw a env l m) (by simp only [List.length_cons]; omega) (by omega) fun t l1 m1 _ => ?_
      split
      · rename_i hen
        refine leads_one (b := ⟨l1, m1, .worth b (putAll env (bindsI e.w e.ns) [t]) :: W, S, .none⟩) ?_ (hw _ _ _ _ W S (by omega) (by omega))
        show (if W.length ≤ 100000 ∧ (t :: S).length ≤ 100000 then (match t :: S, e.es with | t :: ts, [_, b] => if e.w = .lt ∧ env.length ≤ 100000 then some (⟨l1, m1, .worth b (putAll env (bindsI e.w e.ns) [t]) :: W, ts, .none⟩ : Mc) else none | _, _ => none) else none) = _
        rw [if_pos ⟨hcs.1, by simp only [List.length_cons]; omega⟩, hes]
        dsimp only
        rw [if_pos ⟨a4, hen⟩]
      · exact leads_stuck
    · exact leads_stuck
  rw [if_neg a4]
  by_cases a5 : e.w = .ite
  · rw [if_pos a5]
    split
    · rename_i a b c hes
      refine leads_one (b := ⟨l, m, .worth a env :: .choose e env :: W, S, .none⟩) (key (f := fun st => some { st with work := .worth a env :: .choose e env :: st.work }) (fun st hst => ?_) rfl) ?_
      · unfold mWorth
        rw [if_pos hst, if_neg a1, if_neg a2, if_neg a3, if_neg a4, if_pos a5, hes]
      refine leads_bind (hw a env l m) (by simp only [List.length_cons]; omega) (by omega) fun t l1 m1 _ => ?_
      cases t with
      | int n =>
        refine leads_one (b := ⟨l1, m1, .worth (if n = 0 then c else b) env :: W, S, .none⟩) ?_ (hw _ _ _ _ W S (by omega) (by omega))
        show (if W.length ≤ 100000 ∧ (Th.int n :: S).length ≤ 100000 then (match Th.int n :: S, e.es with | .int n :: ts, [_, a, b] => if e.w = .ite then some (⟨l1, m1, .worth (if n = 0 then b else a) env :: W, ts, .none⟩ : Mc) else none | _, _ => none) else none) = _
        rw [if_pos ⟨hcs.1, by simp only [List.length_cons]; omega⟩, hes]
        dsimp only
        rw [if_pos a5]
      | two a b => exact leads_stuck
      | fn g env => exact leads_stuck
      | code c => exact leads_stuck
    · exact leads_stuck
  rw [if_neg a5]
  by_cases a6 : e.w = .quote
  · rw [if_pos a6]
    split
    · rename_i a hes
      refine leads_one (b := ⟨l, m, .code a env 1 :: .shut :: W, S, .none⟩) (key (f := fun st => some { st with work := .code a env 1 :: .shut :: st.work }) (fun st hst => ?_) rfl) ?_
      · unfold mWorth
        rw [if_pos hst, if_neg a1, if_neg a2, if_neg a3, if_neg a4, if_neg a5, if_pos a6, hes]
      refine leads_bind (hc a env 1 l m) (by simp only [List.length_cons]; omega) (by omega) fun t l1 m1 _ => ?_
      cases t with
      | code c =>
        dsimp only
        by_cases hsz : c.size ≤ 1000000
        · rw [if_pos hsz]
          have hone : mOne .shut ⟨l1, m1, W, .code c :: S, .none⟩ = some ⟨l1, m1, W, .code c :: S, if great c = true then .great else .none⟩ := by
            show (if W.length ≤ 100000 ∧ (Th.code c :: S).length ≤ 100000 then (if c.size ≤ 1000000 then some (⟨l1, m1, W, .code c :: S, if great c = true then .great else .none⟩ : Mc) else none) else none) = _
            rw [if_pos ⟨hcs.1, by simp only [List.length_cons]; omega⟩, if_pos hsz]
          refine leads_one hone (leads_end ?_)
          by_cases hg : great c = true
          · rw [if_pos hg, if_pos hg]
            exact ⟨rfl, by decide⟩
          · rw [if_neg hg, if_neg hg]
            rfl
        · rw [if_neg hsz]
          exact leads_stuck
      | int n => exact leads_stuck
      | two a b => exact leads_stuck
      | fn g env => exact leads_stuck
    · exact leads_stuck
  rw [if_neg a6]
  by_cases a7 : e.w = .run
  · rw [if_pos a7]
    split
    · rename_i a hes
      refine leads_one (b := ⟨l, m, .worth a env :: .opn :: W, S, .none⟩) (key (f := fun st => some { st with work := .worth a env :: .opn :: st.work }) (fun st hst => ?_) rfl) ?_
      · unfold mWorth
        rw [if_pos hst, if_neg a1, if_neg a2, if_neg a3, if_neg a4, if_neg a5, if_neg a6, if_pos a7, hes]
      refine leads_bind (hw a env l m) (by simp only [List.length_cons]; omega) (by omega) fun t l1 m1 _ => ?_
      cases t with
      | code c =>
        refine leads_one (b := ⟨l1, m1, .worth c [] :: W, S, .none⟩) ?_ (hw _ _ _ _ W S (by omega) (by omega))
        show (if W.length ≤ 100000 ∧ (Th.code c :: S).length ≤ 100000 then some (⟨l1, m1, .worth c [] :: W, S, .none⟩ : Mc) else none) = _
        rw [if_pos ⟨hcs.1, by simp only [List.length_cons]; omega⟩]
      | int n => exact leads_stuck
      | two a b => exact leads_stuck
      | fn g env => exact leads_stuck
    · exact leads_stuck
  rw [if_neg a7]
  have start : ∀ R, e.es.map (fun p => Tk.worth p env) ++ Tk.done e.w :: W = R → ∀ {P : Mc → Prop}, Leads ⟨l, m, R, S, .none⟩ P → Leads ⟨l, m, .worth e env :: W, S, .none⟩ P := by
    intro R hR P hP
    refine leads_one (b := ⟨l, m, R, S, .none⟩) (key (f := fun st => some { st with work := e.es.map (fun p => Tk.worth p env) ++ Tk.done e.w :: st.work }) (fun st hst => ?_) (by rw [← hR])) hP
    unfold mWorth
    rw [if_pos hst, if_neg a1, if_neg a2, if_neg a3, if_neg a4, if_neg a5, if_neg a6, if_neg a7]
  split
  · rename_i a hes
    refine start (.worth a env :: .done e.w :: W) (by rw [hes]; rfl) ?_
    exact leads_bind (hw a env l m) (by simp only [List.length_cons]; omega) (by omega) fun t l1 m1 _ => done1 (by omega) (by omega)
  · rename_i a b hes
    by_cases hn : e.w ≠ .fst ∧ e.w ≠ .snd
    · refine start (.worth a env :: .worth b env :: .done e.w :: W) (by rw [hes]; rfl) ?_
      refine leads_bind (hw a env l m) (by simp only [List.length_cons]; omega) (by omega) fun x l1 m1 _ => ?_
      exact leads_bind (hw b env l1 m1) (by simp only [List.length_cons]; omega) (by simp only [List.length_cons]; omega) fun y l2 m2 _ => done2 hw hn (by omega) (by omega)
    · have hst : ∀ x y l m, fin2 rw e.w x y l m = .stuck := by
        intro x y l m
        unfold fin2
        have hw' : e.w = .fst ∨ e.w = .snd := by
          by_cases q : e.w = .fst
          · exact .inl q
          · exact .inr (Classical.byContradiction fun z => hn ⟨q, z⟩)
        rcases hw' with h | h <;> rw [h] <;> rfl
      refine start (.worth a env :: .worth b env :: .done e.w :: W) (by rw [hes]; rfl) ?_
      refine leads_bind (hw a env l m) (by simp only [List.length_cons]; omega) (by omega) fun x l1 m1 _ => ?_
      refine leads_bind (hw b env l1 m1) (by simp only [List.length_cons]; omega) (by simp only [List.length_cons]; omega) fun y l2 m2 _ => ?_
      rw [hst]
      exact leads_stuck
  · exact leads_stuck
end
end Lw
set_option Elab.async false
set_option linter.all false
set_option maxRecDepth 100000
set_option maxHeartbeats 4000000
namespace Lw
open PySem PySem.Spec PyProof.Rows L2 RZ
theorem takeCodes_map : ∀ (es : List Ex) (S : List Th), takeCodes es.length (es.map Th.code ++ S) = some (es, S)
  | [], S => rfl
  | e :: es, S => by
    show (match takeCodes es.length (es.map Th.code ++ S) with | none => none | some (es', r) => some (e :: es', r)) = _
    rw [takeCodes_map es S]
theorem code_bindT {α : Type} (r : Re α) (g : α → Nat → Nat → Re Ex) : (r.bind g).code = r.bind fun t l m => (g t l m).code := by cases r <;> rfl
section
variable {rw : EvW} {rc : EvC} {d : Nat}
theorem evL_len {lv : Int} : ∀ {ps : List (Ex × En)} {l m l' m' : Nat} {cs : List Ex}, evL rc lv ps l m = .ok cs l' m' → cs.length = ps.length
  | [], l, m, l', m', cs, h => by
    rw [evL] at h
    cases h
    rfl
  | (p, env) :: r, l, m, l', m', cs, h => by
    rw [evL] at h
    cases h1 : rc p env lv l m with
    | bad y => rw [h1] at h; cases h
    | stuck => rw [h1] at h; cases h
    | ok c l1 m1 =>
      rw [h1] at h
      have h2 : (evL rc lv r l1 m1).bind (fun cs l2 m2 => Re.ok (c :: cs) l2 m2) = .ok cs l' m' := h
      cases h3 : evL rc lv r l1 m1 with
      | bad y => rw [h3] at h2; cases h2
      | stuck => rw [h3] at h2; cases h2
      | ok cs' l2 m2 =>
        rw [h3] at h2
        have h4 : Re.ok (c :: cs') l2 m2 = Re.ok cs l' m' := h2
        cases h4
        rw [List.length_cons, List.length_cons, evL_len h3]
theorem evL_ok (hc : ∀ e env lv l m, RT d (.code e env lv) l m (rc e env lv l m).code) {lv : Int} {W S0 : List _} {f : List Ex → Nat → Nat → Re Th} : ∀ (ps : List (Ex × En)) (l m : Nat) (R : List Tk) (S : List Th), R.length + ps.length + d ≤ 100000 → S.length + ps.length + d ≤ 100000 →
    (∀ cs l' m', evL rc lv ps l m = .ok cs l' m' → Leads ⟨l', m', R, (cs.map Th.code).reverse ++ S, .none⟩ (Post W S0 (f cs l' m'))) → Leads ⟨l, m, ps.map (fun p => Tk.code p.1 p.2 lv) ++ R, S, .none⟩ (Post W S0 ((evL rc lv ps l m).bind f))
  | [], l, m, R, S, _, _, k => by
    exact k [] l m rfl
  | (p, env) :: r, l, m, R, S, h1, h2, k => by
    rw [List.length_cons] at h1 h2
    have q := hc p env lv l m (r.map (fun p => Tk.code p.1 p.2 lv) ++ R) S (by rw [List.length_append, List.length_map]; omega) (by omega)
    obtain ⟨b, st, pb⟩ := q
    rw [evL]
    cases h3 : rc p env lv l m with
    | bad y => rw [h3] at pb; exact ⟨b, st, pb⟩
    | stuck => exact ⟨b, st, trivial⟩
    | ok c l1 m1 =>
      rw [h3] at pb
      obtain rfl : b = _ := pb
      have ih := evL_ok (f := fun cs l2 m2 => f (c :: cs) l2 m2) hc (W := W) (S0 := S0) r l1 m1 R (.code c :: S) (by omega) (by rw [List.length_cons]; omega) fun cs l' m' hcs => by
        have := k (c :: cs) l' m' (by
          rw [evL, h3]
          show (evL rc lv r l1 m1).bind (fun cs l2 m2 => Re.ok (c :: cs) l2 m2) = _
          rw [hcs]
          rfl)
        rw [List.map_cons, List.reverse_cons, List.append_assoc] at this
        exact this
      obtain ⟨b2, st2, pb2⟩ := ih
      refine ⟨b2, st.trans st2, ?_⟩
      show Post W S0 (((evL rc lv r l1 m1).bind fun cs l2 m2 => Re.ok (c :: cs) l2 m2).bind f) b2
      rw [Re.bind_bind]
      exact pb2
theorem evC_ok (hw : ∀ e env l m, RT d (.worth e env) l m (rw e env l m)) (hc : ∀ e env lv l m, RT d (.code e env lv) l m (rc e env lv l m).code) (e : Ex) (env : En) (lv : Int) (l m : Nat) : RT (d + 10) (.code e env lv) l m (evC rw rc e env lv l m).code := by
  intro W S h1 h2
  unfold evC
  by_cases a0 : env.length ≤ 100000 ∧ e.es.length ≤ 3
  rotate_left
  · rw [if_neg a0]
    exact leads_stuck
  rw [if_pos a0]
  have hcs : W.length ≤ 100000 ∧ S.length ≤ 100000 ∧ env.length ≤ 100000 := ⟨by omega, by omega, a0.1⟩
  have key : ∀ {f : Mc → Option Mc} {b : Mc}, (∀ st : Mc, st.work.length ≤ 100000 ∧ st.things.length ≤ 100000 ∧ env.length ≤ 100000 → mCode e env lv st = f st) → f ⟨l, m, W, S, .none⟩ = some b → mOne (.code e env lv) ⟨l, m, W, S, .none⟩ = some b := fun hf hb => (hf _ hcs).trans hb
  by_cases a1 : e.w = .name
  · rw [if_pos a1]
    split
    · rename_i x hx
      cases hl : look env x with
      | none => exact leads_stuck
      | some t =>
        cases t with
        | int k =>
          refine leads_one (b := ⟨l, m, W, .code (.node .name [k] [] []) :: S, .none⟩) (key (f := fun st => some { st with things := .code (.node .name [k] [] []) :: st.things }) (fun st hst => ?_) rfl) (leads_end rfl)
          unfold mCode
          rw [if_pos hst, if_pos a1, hx]
          dsimp only
          rw [hl]
        | two a b => exact leads_stuck
        | fn g en => exact leads_stuck
        | code c => exact leads_stuck
    · exact leads_stuck
  rw [if_neg a1]
  by_cases a2 : e.w = .now ∧ lv = 1
  · rw [if_pos a2]
    split
    · rename_i a hes
      refine leads_one (b := ⟨l, m, .worth a env :: W, S, .none⟩) (key (f := fun st => some { st with work := .worth a env :: st.work }) (fun st hst => ?_) rfl) ?_
      · unfold mCode
        rw [if_pos hst, if_neg a1, if_pos a2, hes]
      rw [code_bindT]
      refine leads_bind (hw a env l m) (by omega) (by omega) fun t l1 m1 _ => ?_
      cases t with
      | code c => exact leads_end rfl
      | int n => exact leads_end trivial
      | two a b => exact leads_end trivial
      | fn g en => exact leads_end trivial
    · exact leads_stuck
  rw [if_neg a2]
  by_cases a3 : e.w = .carry ∧ lv = 1
  · rw [if_pos a3]
    split
    · rename_i a hes
      refine leads_one (b := ⟨l, m, .worth a env :: .laid :: W, S, .none⟩) (key (f := fun st => some { st with work := .worth a env :: .laid :: st.work }) (fun st hst => ?_) rfl) ?_
      · unfold mCode
        rw [if_pos hst, if_neg a1, if_neg a2, if_pos a3, hes]
      rw [code_bindT]
      refine leads_bind (hw a env l m) (by rw [List.length_cons]; omega) (by omega) fun t l1 m1 _ => ?_
      cases hw4 : written 40 t with
      | none => exact leads_stuck
      | some c =>
        refine leads_one (b := ⟨l1, m1, W, .code c :: S, .none⟩) ?_ (leads_end rfl)
        show (if W.length ≤ 100000 ∧ (t :: S).length ≤ 100000 then (match written 40 t with | some e => some (⟨l1, m1, W, .code e :: S, .none⟩ : Mc) | none => none) else none) = _
        rw [if_pos ⟨hcs.1, by rw [List.length_cons]; omega⟩, hw4]
    · exact leads_stuck
  rw [if_neg a3]
  -- the parts
  dsimp only
  generalize hps : (if e.w = .lt then (e.es.take 1).map (fun p => (p, env)) else []) ++ ((e.es.drop (if e.w = .lt then 1 else 0)).map fun p => (p, putAll env (bindsI e.w e.ns) ((nums m (bindsI e.w e.ns).length).map Th.int))) = ps
  have hlen : ps.length = e.es.length := by
    rw [← hps, List.length_append, List.length_map, List.length_drop]
    by_cases h : e.w = .lt
    · rw [if_pos h, if_pos h, List.length_map, List.length_take]
      have : e.es.length = 0 ∨ 1 ≤ e.es.length := by omega
      rcases this with h | h <;> omega
    · rw [if_neg h, if_neg h, List.length_nil]
      omega
  refine leads_one (b := ⟨l, m + (bindsI e.w e.ns).length, ps.map (fun p => Tk.code p.1 p.2 (lv + e.w.later)) ++ (.made e (nums m (bindsI e.w e.ns).length) e.es.length :: W), S, .none⟩) ?_ ?_
  · show mCode e env lv ⟨l, m, W, S, .none⟩ = _
    unfold mCode
    rw [if_pos hcs, if_neg a1, if_neg a2, if_neg a3]
    dsimp only
    have e1 : ps.map (fun p => Tk.code p.1 p.2 (lv + e.w.later)) = (if e.w = .lt then (e.es.take 1).map (fun p => Tk.code p env (lv + e.w.later)) else []) ++ (e.es.drop (if e.w = .lt then 1 else 0)).map (fun p => Tk.code p (putAll env (bindsI e.w e.ns) ((nums m (bindsI e.w e.ns).length).map Th.int)) (lv + e.w.later)) := by
      rw [← hps, List.map_append, List.map_map]
      congr 1
      by_cases h : e.w = .lt
      · rw [if_pos h, if_pos h, List.map_map]
        rfl
      · rw [if_neg h, if_neg h]
        rfl
    rw [e1, List.append_assoc]
  have ecode : ∀ (r : Re (List Ex)) (g : List Ex → Nat → Nat → Re Ex), (r.bind g).code = r.bind fun cs l m => (g cs l m).code := fun r g => by
    unfold Re.code
    rw [Re.bind_bind]
  rw [ecode]
  refine evL_ok hc ps l _ _ S (by rw [List.length_cons]; omega) (by omega) fun cs l1 m1 hcs' => ?_
  have lc := evL_len hcs'
  refine leads_one (b := ⟨l1, m1, W, .code (.node e.w (if e.w.binds then nums m (bindsI e.w e.ns).length else e.ns) e.ks cs) :: S, .none⟩) ?_ (leads_end rfl)
  have ht : takeCodes e.es.length ((cs.map Th.code).reverse ++ S) = some (cs.reverse, S) := by
    rw [← List.map_reverse, ← hlen, ← lc, ← List.length_reverse]
    exact takeCodes_map cs.reverse S
  show (if W.length ≤ 100000 ∧ ((cs.map Th.code).reverse ++ S).length ≤ 100000 then (match takeCodes e.es.length ((cs.map Th.code).reverse ++ S) with
      | some (es, ts) => if e.w ≠ .name ∧ e.es.length = e.es.length ∧ (e.w.binds = true → (nums m (bindsI e.w e.ns).length).length = e.ns.length) then some (⟨l1, m1, W, .code (.node e.w (if e.w.binds then nums m (bindsI e.w e.ns).length else e.ns) e.ks es.reverse) :: ts, .none⟩ : Mc) else none
      | none => none) else none) = _
  rw [if_pos ⟨hcs.1, by rw [List.length_append, List.length_reverse, List.length_map]; omega⟩, ht]
  dsimp only
  rw [if_pos ⟨a1, rfl, fun hb => by rw [nums_len]; unfold bindsI; rw [if_pos hb]⟩, List.reverse_reverse]
end
theorem ev_ok : ∀ n, (∀ e env l m, RT (10 * n) (.worth e env) l m ((ev n).1 e env l m)) ∧ (∀ e env lv l m, RT (10 * n) (.code e env lv) l m ((ev n).2 e env lv l m).code)
  | 0 => ⟨fun _ _ _ _ _ _ _ _ => leads_stuck, fun _ _ _ _ _ _ _ _ _ => leads_stuck⟩
  | n + 1 => by
    obtain ⟨h1, h2⟩ := ev_ok n
    have e : 10 * (n + 1) = 10 * n + 10 := by omega
    rw [e]
    exact ⟨fun e env l m => evW_ok h1 h2 e env l m, fun e env lv l m => evC_ok h1 h2 e env lv l m⟩
/-- how a program comes out, by the evaluator -/
def evOut (n : Nat) (e : Ex) (k : Kd) (most : Nat) : Option Oc :=
  match (ev n).1 e [] most 0 with
  | .ok t _ _ => (shown t k).map Oc.fin
  | .bad .still => some .still
  | .bad .great => some .great
  | _ => none
theorem evOut_ok {n : Nat} (hn : n ≤ 10000) {e : Ex} {k : Kd} {most : Nat} {o : Oc} (h : evOut n e k most = some o) : ∃ n', outc n' e k most = some o := by
  obtain ⟨b, st, pb⟩ := (ev_ok n).1 e [] most 0 [] [] (by simp; omega) (by simp; omega)
  unfold evOut at h
  cases hr : (ev n).1 e [] most 0 with
  | stuck => rw [hr] at h; cases h
  | ok t l m =>
    rw [hr] at h pb
    obtain rfl : b = _ := pb
    obtain ⟨n', q⟩ := st.halt (.inl rfl)
    refine ⟨n', ?_⟩
    unfold outc
    rw [show mRun n' (mStart e most) = _ from q]
    dsimp only at h ⊢
    cases hs : shown t k with
    | none => rw [hs] at h; cases h
    | some s => rw [hs] at h; cases h; rfl
  | bad y =>
    rw [hr] at h pb
    obtain ⟨hy, hne⟩ := pb
    obtain ⟨n', q⟩ := st.halt (.inr (by rw [hy]; exact hne))
    refine ⟨n', ?_⟩
    unfold outc
    rw [show mRun n' (mStart e most) = _ from q]
    dsimp only
    rw [hy]
    cases y with
    | none => exact absurd rfl hne
    | still => cases h; rfl
    | great => cases h; rfl
end Lw
set_option Elab.async false
set_option linter.all false
set_option maxRecDepth 100000
set_option maxHeartbeats 4000000
namespace Lw
open PySem PySem.Spec PyProof.Rows L2 RZ
/-! ### the evaluator, word by word -/
section
variable {n : Nat} {env : En} {l m l1 m1 l2 m2 : Nat} {a b c : Ex} {lv : Int} {r : Re Th}
theorem ev_num {k : Int} : (ev (n + 1)).1 (xNum k) env l m = .ok (.int k) l m := rfl
theorem ev_name {x : Int} {t : Th} (h : look env x = some t) : (ev (n + 1)).1 (xName x) env l m = .ok t l m := by
  show (match look env x with | some t => Re.ok t l m | none => .stuck) = _
  rw [h]
theorem ev_fun {x : Int} {k : Kd} : (ev (n + 1)).1 (xFun x k b) env l m = .ok (.fn (xFun x k b) env) l m := rfl
theorem ev_rec {f x : Int} {k k2 : Kd} : (ev (n + 1)).1 (xRec f x k k2 b) env l m = .ok (.fn (xRec f x k k2 b) env) l m := rfl
theorem ev_let {x : Int} {t : Th} (h1 : (ev n).1 a env l m = .ok t l1 m1) (he : env.length ≤ 100000) (h2 : (ev n).1 b (put env x t) l1 m1 = r) : (ev (n + 1)).1 (xLet x a b) env l m = r := by
  show ((ev n).1 a env l m).bind (fun t l1 m1 => if env.length ≤ 100000 then (ev n).1 b (put env x t) l1 m1 else .stuck) = _
  rw [h1]
  show (if env.length ≤ 100000 then (ev n).1 b (put env x t) l1 m1 else .stuck) = _
  rw [if_pos he, h2]
theorem ev_if {k : Int} (h1 : (ev n).1 a env l m = .ok (.int k) l1 m1) (h2 : (ev n).1 (if k = 0 then c else b) env l1 m1 = r) : (ev (n + 1)).1 (xIf a b c) env l m = r := by
  show ((ev n).1 a env l m).bind (fun t l1 m1 => match t with | .int k => (ev n).1 (if k = 0 then c else b) env l1 m1 | _ => .stuck) = _
  rw [h1]
  exact h2
theorem ev_quote (h1 : (ev n).2 a env 1 l m = .ok c l1 m1) (hs : c.size ≤ 400) (hd : c.dep ≤ 40) : (ev (n + 1)).1 (xQuote a) env l m = .ok (.code c) l1 m1 := by
  show ((ev n).2 a env 1 l m).code.bind (fun t l1 m1 => match t with | .code c => if c.size ≤ 1000000 then (if great c = true then Re.bad .great else Re.ok (Th.code c) l1 m1) else .stuck | _ => .stuck) = _
  rw [h1]
  show (if c.size ≤ 1000000 then (if great c = true then Re.bad .great else Re.ok (Th.code c) l1 m1) else .stuck) = _
  have hg : great c = false := by
    unfold great
    rw [decide_eq_false (by omega), decide_eq_false (by omega)]
    rfl
  rw [if_pos (by omega), hg]
  rfl
theorem ev_quoteG (h1 : (ev n).2 a env 1 l m = .ok c l1 m1) (hs : c.size ≤ 1000000) (hg : 400 < c.size ∨ 40 < c.dep) : (ev (n + 1)).1 (xQuote a) env l m = .bad .great := by
  show ((ev n).2 a env 1 l m).code.bind (fun t l1 m1 => match t with | .code c => if c.size ≤ 1000000 then (if great c = true then Re.bad .great else Re.ok (Th.code c) l1 m1) else .stuck | _ => .stuck) = _
  rw [h1]
  show (if c.size ≤ 1000000 then (if great c = true then Re.bad .great else Re.ok (Th.code c) l1 m1) else .stuck) = _
  have hg' : great c = true := by
    unfold great
    rw [Bool.or_eq_true, decide_eq_true_eq, decide_eq_true_eq]
    exact hg
  rw [if_pos hs, hg']
  rfl
theorem ev_quoteX {y : Wy} (h1 : (ev n).2 a env 1 l m = .bad y) : (ev (n + 1)).1 (xQuote a) env l m = .bad y := by
  show ((ev n).2 a env 1 l m).code.bind (fun t l1 m1 => match t with | .code c => if c.size ≤ 1000000 then (if great c = true then Re.bad .great else Re.ok (Th.code c) l1 m1) else .stuck | _ => .stuck) = _
  rw [h1]
  rfl
theorem ev_run (h1 : (ev n).1 a env l m = .ok (.code c) l1 m1) (h2 : (ev n).1 c [] l1 m1 = r) : (ev (n + 1)).1 (xRun a) env l m = r := by
  show ((ev n).1 a env l m).bind (fun t l1 m1 => match t with | .code c => (ev n).1 c [] l1 m1 | _ => .stuck) = _
  rw [h1]
  exact h2
theorem ev_call {f v : Th} (h1 : (ev n).1 a env l m = .ok f l1 m1) (h2 : (ev n).1 b env l1 m1 = .ok v l2 m2) (h3 : evCall (ev n).1 f v l2 m2 = r) : (ev (n + 1)).1 (xCall a b) env l m = r := by
  show ((ev n).1 a env l m).bind (fun x l1 m1 => ((ev n).1 b env l1 m1).bind fun y l2 m2 => evCall (ev n).1 x y l2 m2) = _
  rw [h1]
  show ((ev n).1 b env l1 m1).bind (fun y l2 m2 => evCall (ev n).1 f y l2 m2) = _
  rw [h2]
  exact h3
theorem evCall_fun {rw : EvW} {x : Int} {k : Kd} {v : Th} {e : En} (h0 : l ≠ 0) (he : e.length ≤ 100000) : evCall rw (.fn (xFun x k b) e) v l m = rw b (put e x v) (l - 1) m := by
  unfold evCall
  rw [if_neg h0]
  show (if e.length ≤ 100000 ∧ (Wd.fn = .fn ∨ Wd.fn = .rc) then rw b (put e x v) (l - 1) m else .stuck) = _
  rw [if_pos ⟨he, .inl rfl⟩]
theorem evCall_rec {rw : EvW} {f x : Int} {k k2 : Kd} {v : Th} {e : En} (h0 : l ≠ 0) (he : e.length ≤ 100000) : evCall rw (.fn (xRec f x k k2 b) e) v l m = rw b (put (put e f (.fn (xRec f x k k2 b) e)) x v) (l - 1) m := by
  unfold evCall
  rw [if_neg h0]
  show (if e.length ≤ 100000 ∧ (Wd.rc = .fn ∨ Wd.rc = .rc) then rw b (put (put e f (.fn (xRec f x k k2 b) e)) x v) (l - 1) m else .stuck) = _
  rw [if_pos ⟨he, .inr rfl⟩]
theorem ev_op {w : Wd} {x y z : Int} (hw : w = .plus ∨ w = .times ∨ w = .less) (h1 : (ev n).1 a env l m = .ok (.int x) l1 m1) (h2 : (ev n).1 b env l1 m1 = .ok (.int y) l2 m2) (h3 : reck w x y = some z) : (ev (n + 1)).1 (.node w [] [] [a, b]) env l m = .ok (.int z) l2 m2 := by
  have : (ev (n + 1)).1 (.node w [] [] [a, b]) env l m = ((ev n).1 a env l m).bind (fun x l1 m1 => ((ev n).1 b env l1 m1).bind fun y l2 m2 => fin2 (ev n).1 w x y l2 m2) := by
    rcases hw with rfl | rfl | rfl <;> rfl
  rw [this, h1]
  show ((ev n).1 b env l1 m1).bind (fun y l2 m2 => fin2 (ev n).1 w (.int x) y l2 m2) = _
  rw [h2]
  show fin2 (ev n).1 w (.int x) (.int y) l2 m2 = _
  unfold fin2
  rw [if_pos hw]
  dsimp only
  rw [h3]
/-! code -/
variable (he : env.length ≤ 100000)
include he
theorem evc_name {x k : Int} (h : look env x = some (.int k)) : (ev (n + 1)).2 (xName x) env lv l m = .ok (xName k) l m := by
  show (if env.length ≤ 100000 ∧ 0 ≤ 3 then (match look env x with | some (.int k) => Re.ok (Ex.node .name [k] [] []) l m | _ => .stuck) else .stuck) = _
  rw [if_pos ⟨he, by decide⟩, h]
  rfl
theorem evc_now (h : (ev n).1 a env l m = .ok (.code c) l1 m1) : (ev (n + 1)).2 (xNow a) env 1 l m = .ok c l1 m1 := by
  show evC (ev n).1 (ev n).2 (xNow a) env 1 l m = _
  unfold evC
  rw [if_pos ⟨he, by show 1 ≤ 3; decide⟩, if_neg (by show ¬ Wd.now = .name; decide), if_pos (by exact ⟨rfl, rfl⟩)]
  show ((ev n).1 a env l m).bind _ = _
  rw [h]
  rfl
theorem evc_carry {t : Th} (h : (ev n).1 a env l m = .ok t l1 m1) (hw : written 40 t = some c) : (ev (n + 1)).2 (xCarry a) env 1 l m = .ok c l1 m1 := by
  show evC (ev n).1 (ev n).2 (xCarry a) env 1 l m = _
  unfold evC
  rw [if_pos ⟨he, by show 1 ≤ 3; decide⟩, if_neg (by show ¬ Wd.carry = .name; decide), if_neg (by show ¬ (Wd.carry = .now ∧ (1 : Int) = 1); decide), if_pos (by exact ⟨rfl, rfl⟩)]
  show ((ev n).1 a env l m).bind _ = _
  rw [h]
  show (match written 40 t with | some c => Re.ok c l1 m1 | none => .stuck) = _
  rw [hw]
/-- a node that binds nothing: its parts, one behind another -/
theorem evc_node {w : Wd} {ns : List Int} {ks : List Kd} {es cs : List Ex} (hl : es.length ≤ 3) (hb : w.binds = false) (hn : w ≠ .name) (hw : lv = 1 → w ≠ .now ∧ w ≠ .carry) (h : evL (ev n).2 (lv + w.later) (es.map fun p => (p, env)) l m = .ok cs l1 m1) :
    (ev (n + 1)).2 (.node w ns ks es) env lv l m = .ok (.node w ns ks cs) l1 m1 := by
  show evC (ev n).1 (ev n).2 (.node w ns ks es) env lv l m = _
  unfold evC
  have hlt : w ≠ .lt := fun z => by rw [z] at hb; cases hb
  rw [if_pos ⟨he, hl⟩, if_neg (show ¬ (Ex.node w ns ks es).w = .name from hn), if_neg (show ¬ ((Ex.node w ns ks es).w = .now ∧ lv = 1) from fun z => (hw z.2).1 z.1), if_neg (show ¬ ((Ex.node w ns ks es).w = .carry ∧ lv = 1) from fun z => (hw z.2).2 z.1)]
  have hbi : bindsI (Ex.node w ns ks es).w (Ex.node w ns ks es).ns = [] := by
    show (if w.binds then ns else []) = []
    rw [hb]
    rfl
  rw [hbi]
  dsimp only
  rw [if_neg (show ¬ (Ex.node w ns ks es).w = .lt from hlt), if_neg (show ¬ (Ex.node w ns ks es).w = .lt from hlt), putAll_nil]
  show ((evL (ev n).2 (lv + w.later) ((es.drop 0).map fun p => (p, env)) l (m + 0)).bind _) = _
  rw [List.drop_zero, Nat.add_zero, h]
  show Re.ok (Ex.node w (if w.binds then _ else ns) ks cs) l1 m1 = _
  rw [hb]
  rfl
theorem evc_num {k : Int} : (ev (n + 1)).2 (xNum k) env lv l m = .ok (xNum k) l m :=
  evc_node he (es := []) (by decide) rfl (by decide) (fun _ => ⟨by decide, by decide⟩) rfl
theorem evc_two {w : Wd} {ns : List Int} {ks : List Kd} {ca cb : Ex} (hb : w.binds = false) (hn : w ≠ .name) (hw : lv = 1 → w ≠ .now ∧ w ≠ .carry) (h1 : (ev n).2 a env (lv + w.later) l m = .ok ca l1 m1) (h2 : (ev n).2 b env (lv + w.later) l1 m1 = .ok cb l2 m2) :
    (ev (n + 1)).2 (.node w ns ks [a, b]) env lv l m = .ok (.node w ns ks [ca, cb]) l2 m2 := by
  refine evc_node he (by show 2 ≤ 3; decide) hb hn hw ?_
  show ((ev n).2 a env (lv + w.later) l m).bind _ = _
  rw [h1]
  show (((ev n).2 b env (lv + w.later) l1 m1).bind _).bind _ = _
  rw [h2]
  rfl
theorem evc_three {w : Wd} {ns : List Int} {ks : List Kd} {ca cb cc : Ex} {l3 m3 : Nat} (hb : w.binds = false) (hn : w ≠ .name) (hw : lv = 1 → w ≠ .now ∧ w ≠ .carry) (h1 : (ev n).2 a env (lv + w.later) l m = .ok ca l1 m1) (h2 : (ev n).2 b env (lv + w.later) l1 m1 = .ok cb l2 m2) (h3 : (ev n).2 c env (lv + w.later) l2 m2 = .ok cc l3 m3) :
    (ev (n + 1)).2 (.node w ns ks [a, b, c]) env lv l m = .ok (.node w ns ks [ca, cb, cc]) l3 m3 := by
  refine evc_node he (by show 3 ≤ 3; decide) hb hn hw ?_
  show ((ev n).2 a env (lv + w.later) l m).bind _ = _
  rw [h1]
  show (((ev n).2 b env (lv + w.later) l1 m1).bind _).bind _ = _
  rw [h2]
  show ((((ev n).2 c env (lv + w.later) l2 m2).bind _).bind _).bind _ = _
  rw [h3]
  rfl
theorem evc_one {w : Wd} {ns : List Int} {ks : List Kd} {ca : Ex} (hb : w.binds = false) (hn : w ≠ .name) (hw : lv = 1 → w ≠ .now ∧ w ≠ .carry) (h1 : (ev n).2 a env (lv + w.later) l m = .ok ca l1 m1) :
    (ev (n + 1)).2 (.node w ns ks [a]) env lv l m = .ok (.node w ns ks [ca]) l1 m1 := by
  refine evc_node he (by show 1 ≤ 3; decide) hb hn hw ?_
  show ((ev n).2 a env (lv + w.later) l m).bind _ = _
  rw [h1]
  rfl
theorem evc_fun {x : Int} {k : Kd} {ca : Ex} (h1 : (ev n).2 a (put env x (.int (m : Nat))) lv l (m + 1) = .ok ca l1 m1) : (ev (n + 1)).2 (xFun x k a) env lv l m = .ok (xFun (m : Nat) k ca) l1 m1 := by
  show evC (ev n).1 (ev n).2 (xFun x k a) env lv l m = _
  unfold evC
  rw [if_pos ⟨he, by show 1 ≤ 3; decide⟩, if_neg (by show ¬ Wd.fn = .name; decide), if_neg (by show ¬ (Wd.fn = .now ∧ lv = 1); exact fun z => nomatch z.1), if_neg (by show ¬ (Wd.fn = .carry ∧ lv = 1); exact fun z => nomatch z.1)]
  show (((ev n).2 a (put env x (.int ((m + 0 : Nat) : Int))) (lv + 0) l (m + 1)).bind _).bind _ = _
  rw [Nat.add_zero, Int.add_zero, h1]
  rfl
end
end Lw
set_option Elab.async false
set_option linter.all false
set_option maxRecDepth 100000
set_option maxHeartbeats 4000000
namespace Lw
open PySem PySem.Spec PyProof.Rows L2 RZ
/-! ### kinds, word by word; how many rows is all that is kept of them -/
/-- a part is of a kind -/
def Kin (n : Nat) (e : Ex) (p : List Int) (lv : Int) (c : Ctx) (r : List Int) (k : Kd) : Prop := ∃ rows, chk n e p lv c r = some (k, rows) ∧ rows.length = e.size
section
variable {n : Nat} {a b d : Ex} {p : List Int} {lv : Int} {c : Ctx} {r : List Int} {k k1 k2 : Kd}
theorem kin_name {x : Int} {m : Nm} (h : look c x = some m) (hl : m.level = lv) (hr : m.runs = r) (hd : m.kind.dep ≤ 60) : Kin (n + 1) (xName x) p lv c r m.kind := by
  refine ⟨[row p lv m.kind], ?_, rfl⟩
  show (named c x lv r).map (fun k => (k, [row p lv k])) = _
  unfold named
  rw [h]
  dsimp only
  rw [if_pos ⟨hl, by rw [hr, List.drop_length]; rfl, hd⟩]
  rfl
theorem kin_one {w : Wd} {ns : List Int} {ks : List Kd} (hn : w ≠ .name) (hl : w ≠ .lt) (hs : ∀ lv c r, scopeBy w ns ks lv c r = c) (h0 : 0 ≤ lv + w.later ∧ lv + w.later ≤ 3) (hks : (ks.all fun k => decide (k.dep ≤ 58)) = true)
    (h1 : Kin n a (p ++ [0]) (lv + w.later) c (if w = .run then r ++ [lv] else r) k1) (hk : kindBy w ks [k1] = some k) (hd : k.dep ≤ 60) : Kin (n + 1) (.node w ns ks [a]) p lv c r k := by
  obtain ⟨r1, e1, l1⟩ := h1
  refine ⟨(r1 ++ []) ++ [row p lv k], ?_, by simp [l1, Ex.size, Ex.sizeL, Nat.add_comm]⟩
  rw [chk]
  dsimp only
  rw [if_neg (show ¬ (Ex.node w ns ks [a]).w = .name from hn), if_pos ⟨h0, hks⟩]
  show (match chkIn (chk n) w ns ks [a] p lv c r with | none => none | some (kinds, rows) => _) = _
  have e2 : chkIn (chk n) w ns ks [a] p lv c r = some ([k1], r1 ++ []) := by
    unfold chkIn
    rw [if_neg hl, hs]
    show (match chk n a (p ++ [0]) (lv + w.later) c (if w = .run then r ++ [lv] else r) with | none => none | some (k, rows) => _) = _
    rw [e1]
    rfl
  rw [e2]
  show (match kindBy w ks [k1] with | none => none | some k => if k.dep ≤ 60 then some (k, (r1 ++ []) ++ [row p lv k]) else none) = _
  rw [hk]
  show (if k.dep ≤ 60 then _ else _) = _
  rw [if_pos hd]
theorem kin_two {w : Wd} {ns : List Int} {ks : List Kd} (hn : w ≠ .name) (hl : w ≠ .lt) (hr : w ≠ .run) (hs : ∀ lv c r, scopeBy w ns ks lv c r = c) (h0 : 0 ≤ lv + w.later ∧ lv + w.later ≤ 3) (hks : (ks.all fun k => decide (k.dep ≤ 58)) = true)
    (h1 : Kin n a (p ++ [0]) (lv + w.later) c r k1) (h2 : Kin n b (p ++ [1]) (lv + w.later) c r k2) (hk : kindBy w ks [k1, k2] = some k) (hd : k.dep ≤ 60) : Kin (n + 1) (.node w ns ks [a, b]) p lv c r k := by
  obtain ⟨r1, e1, l1⟩ := h1
  obtain ⟨r2, e2, l2⟩ := h2
  refine ⟨(r1 ++ (r2 ++ [])) ++ [row p lv k], ?_, by simp [l1, l2, Ex.size, Ex.sizeL]; omega⟩
  rw [chk]
  dsimp only
  rw [if_neg (show ¬ (Ex.node w ns ks [a, b]).w = .name from hn), if_pos ⟨h0, hks⟩]
  show (match chkIn (chk n) w ns ks [a, b] p lv c r with | none => none | some (kinds, rows) => _) = _
  have e3 : chkIn (chk n) w ns ks [a, b] p lv c r = some ([k1, k2], r1 ++ (r2 ++ [])) := by
    unfold chkIn
    rw [if_neg hl, hs, if_neg hr]
    show mapChk (fun i e => chk n e (p ++ [i]) (lv + w.later) c r) 0 [a, b] = _
    have e4 : mapChk (fun i e => chk n e (p ++ [i]) (lv + w.later) c r) (0 + 1) [b] = some ([k2], r2 ++ []) := by
      rw [mapChk]
      rw [show (0 : Int) + 1 = 1 from rfl, e2]
      rfl
    rw [mapChk]
    rw [e1]
    dsimp only
    rw [e4]
  rw [e3]
  show (match kindBy w ks [k1, k2] with | none => none | some k => if k.dep ≤ 60 then some (k, (r1 ++ (r2 ++ [])) ++ [row p lv k]) else none) = _
  rw [hk]
  show (if k.dep ≤ 60 then _ else _) = _
  rw [if_pos hd]
theorem kin_three {w : Wd} {ns : List Int} {ks : List Kd} {k3 : Kd} (hn : w ≠ .name) (hl : w ≠ .lt) (hr : w ≠ .run) (hs : ∀ lv c r, scopeBy w ns ks lv c r = c) (h0 : 0 ≤ lv + w.later ∧ lv + w.later ≤ 3) (hks : (ks.all fun k => decide (k.dep ≤ 58)) = true)
    (h1 : Kin n a (p ++ [0]) (lv + w.later) c r k1) (h2 : Kin n b (p ++ [1]) (lv + w.later) c r k2) (h3 : Kin n d (p ++ [2]) (lv + w.later) c r k3) (hk : kindBy w ks [k1, k2, k3] = some k) (hd : k.dep ≤ 60) : Kin (n + 1) (.node w ns ks [a, b, d]) p lv c r k := by
  obtain ⟨r1, e1, l1⟩ := h1
  obtain ⟨r2, e2, l2⟩ := h2
  obtain ⟨r3, e3, l3⟩ := h3
  refine ⟨(r1 ++ (r2 ++ (r3 ++ []))) ++ [row p lv k], ?_, by simp [l1, l2, l3, Ex.size, Ex.sizeL]; omega⟩
  rw [chk]
  dsimp only
  rw [if_neg (show ¬ (Ex.node w ns ks [a, b, d]).w = .name from hn), if_pos ⟨h0, hks⟩]
  show (match chkIn (chk n) w ns ks [a, b, d] p lv c r with | none => none | some (kinds, rows) => _) = _
  have e5 : chkIn (chk n) w ns ks [a, b, d] p lv c r = some ([k1, k2, k3], r1 ++ (r2 ++ (r3 ++ []))) := by
    unfold chkIn
    rw [if_neg hl, hs, if_neg hr]
    show mapChk (fun i e => chk n e (p ++ [i]) (lv + w.later) c r) 0 [a, b, d] = _
    have e6 : mapChk (fun i e => chk n e (p ++ [i]) (lv + w.later) c r) (0 + 1 + 1) [d] = some ([k3], r3 ++ []) := by
      rw [mapChk]
      rw [show (0 : Int) + 1 + 1 = 2 from rfl, e3]
      rfl
    have e4 : mapChk (fun i e => chk n e (p ++ [i]) (lv + w.later) c r) (0 + 1) [b, d] = some ([k2, k3], r2 ++ (r3 ++ [])) := by
      rw [mapChk]
      rw [e6, show (0 : Int) + 1 = 1 from rfl, e2]
    rw [mapChk]
    rw [e1]
    dsimp only
    rw [e4]
  rw [e5]
  show (match kindBy w ks [k1, k2, k3] with | none => none | some k => if k.dep ≤ 60 then some (k, (r1 ++ (r2 ++ (r3 ++ []))) ++ [row p lv k]) else none) = _
  rw [hk]
  show (if k.dep ≤ 60 then _ else _) = _
  rw [if_pos hd]
theorem kin_num {x : Int} (h0 : 0 ≤ lv ∧ lv ≤ 3) : Kin (n + 1) (xNum x) p lv c r .num := by
  refine ⟨[row p lv .num], ?_, rfl⟩
  rw [chk]
  dsimp only
  rw [if_neg (by show ¬ Wd.num = .name; decide), if_pos ⟨by show 0 ≤ lv + 0 ∧ lv + 0 ≤ 3; omega, rfl⟩]
  rfl
theorem kin_let {x : Int} (h0 : 0 ≤ lv ∧ lv ≤ 3) (h1 : Kin n a (p ++ [0]) lv c r k1) (h2 : Kin n b (p ++ [1]) lv (put c x ⟨lv, k1, r⟩) r k2) (hd : k2.dep ≤ 60) : Kin (n + 1) (xLet x a b) p lv c r k2 := by
  obtain ⟨r1, e1, l1⟩ := h1
  obtain ⟨r2, e2, l2⟩ := h2
  refine ⟨(r1 ++ r2) ++ [row p lv k2], ?_, by simp [l1, l2, xLet, Ex.size, Ex.sizeL]; omega⟩
  rw [chk]
  dsimp only
  rw [if_neg (by show ¬ Wd.lt = .name; decide), if_pos ⟨by show 0 ≤ lv + 0 ∧ lv + 0 ≤ 3; omega, rfl⟩]
  have e3 : chkIn (chk n) (xLet x a b).w (xLet x a b).ns (xLet x a b).ks (xLet x a b).es p lv c r = some ([k1, k2], r1 ++ r2) := by
    show (if Wd.lt = .lt then (match chk n a (p ++ [0]) (lv + 0) c r with | none => none | some (ka, ra) => match chk n b (p ++ [1]) (lv + 0) (put c x ⟨lv, ka, r⟩) r with | none => none | some (kb, rb) => some ([ka, kb], ra ++ rb)) else _) = _
    rw [if_pos rfl, Int.add_zero, e1]
    show (match chk n b (p ++ [1]) lv (put c x ⟨lv, k1, r⟩) r with | none => none | some (kb, rb) => some ([k1, kb], r1 ++ rb)) = _
    rw [e2]
  rw [e3]
  show (if k2.dep ≤ 60 then _ else _) = _
  rw [if_pos hd]
theorem kin_fun {x : Int} (h0 : 0 ≤ lv ∧ lv ≤ 3) (hk : k1.dep ≤ 58) (h1 : Kin n a (p ++ [0]) lv (put c x ⟨lv, k1, r⟩) r k2) (hd : (Kd.to k1 k2).dep ≤ 60) : Kin (n + 1) (xFun x k1 a) p lv c r (.to k1 k2) := by
  obtain ⟨r1, e1, l1⟩ := h1
  refine ⟨(r1 ++ []) ++ [row p lv (.to k1 k2)], ?_, by simp [l1, xFun, Ex.size, Ex.sizeL]; omega⟩
  rw [chk]
  dsimp only
  rw [if_neg (by show ¬ Wd.fn = .name; decide), if_pos ⟨by show 0 ≤ lv + 0 ∧ lv + 0 ≤ 3; omega, by show (decide (k1.dep ≤ 58) && true) = true; rw [decide_eq_true hk]; rfl⟩]
  have e3 : chkIn (chk n) (xFun x k1 a).w (xFun x k1 a).ns (xFun x k1 a).ks (xFun x k1 a).es p lv c r = some ([k2], r1 ++ []) := by
    show (if Wd.fn = .lt then _ else mapChk (fun i e => chk n e (p ++ [i]) (lv + 0) (put c x ⟨lv, k1, r⟩) (if Wd.fn = .run then r ++ [lv] else r)) 0 [a]) = _
    rw [if_neg (by decide), if_neg (by decide), Int.add_zero]
    show (match chk n a (p ++ [0]) lv (put c x ⟨lv, k1, r⟩) r with | none => none | some (k, rows) => _) = _
    rw [e1]
    rfl
  rw [e3]
  show (if (Kd.to k1 k2).dep ≤ 60 then _ else _) = _
  rw [if_pos hd]
theorem kin_call (h0 : 0 ≤ lv ∧ lv ≤ 3) (h1 : Kin n a (p ++ [0]) lv c r (.to k1 k)) (h2 : Kin n b (p ++ [1]) lv c r k1) (hd : k.dep ≤ 60) : Kin (n + 1) (xCall a b) p lv c r k := by
  refine kin_two (w := .call) (ns := []) (ks := []) (k1 := .to k1 k) (k2 := k1) (by decide) (by decide) (by decide) (fun _ _ _ => rfl) (by show 0 ≤ lv + 0 ∧ lv + 0 ≤ 3; omega) rfl ?_ ?_ ?_ hd
  · show Kin n a (p ++ [0]) (lv + 0) c r _
    rw [Int.add_zero]; exact h1
  · show Kin n b (p ++ [1]) (lv + 0) c r _
    rw [Int.add_zero]; exact h2
  · show (if k1 = k1 then some k else none) = some k
    rw [if_pos rfl]
theorem kin_quote (h0 : 0 ≤ lv ∧ lv + 1 ≤ 3) (h1 : Kin n a (p ++ [0]) (lv + 1) c r k) (hd : (Kd.code k).dep ≤ 60) : Kin (n + 1) (xQuote a) p lv c r (.code k) :=
  kin_one (w := .quote) (ns := []) (ks := []) (k1 := k) (by decide) (by decide) (fun _ _ _ => rfl) (by show 0 ≤ lv + 1 ∧ lv + 1 ≤ 3; omega) rfl h1 rfl hd
theorem kin_now (h0 : 1 ≤ lv ∧ lv ≤ 4) (h1 : Kin n a (p ++ [0]) (lv + -1) c r (.code k)) (hd : k.dep ≤ 60) : Kin (n + 1) (xNow a) p lv c r k :=
  kin_one (w := .now) (ns := []) (ks := []) (k1 := .code k) (by decide) (by decide) (fun _ _ _ => rfl) (by show 0 ≤ lv + -1 ∧ lv + -1 ≤ 3; omega) rfl h1 rfl hd
end
end Lw
set_option Elab.async false
set_option linter.all false
set_option maxRecDepth 100000
set_option maxHeartbeats 4000000
namespace Lw
open PySem PySem.Spec PyProof.Rows L2 RZ NdefX LamX
/-! ### the law's own defs -/
def rowL (S : Addr) (i s c : Int) : List V := [.ref S, .int i, .int s, .int c]
/-- the row of draws -/
def RowAt (K : PySem.W.Frag) (H : Hp) (R S : Addr) (xs : List Int) : Prop := ∃ (i s c : Int), H R = some (.lst (rowL S i s c)) ∧ SqL K H S (xs.map V.int) ∧ xs.length ≤ sizeLine ∧ 0 ≤ i ∧ 0 ≤ s ∧ s < 2147483647
def spTaken (K : PySem.W.Frag) : Sp := fun vs H Q _ => ∃ (R S : Addr) (xs : List Int) (many : Int), vs = [.ref R, .int many] ∧ RowAt K H R S xs ∧ 0 < many ∧ many < 1000000 ∧ ∀ H' r, Chg R H H' → RowAt K H' R S xs → 0 ≤ r → r < many → Q (.int r) H'
theorem seqL_upd {K : PySem.W.Frag} {H : Hp} {R S : Addr} {xs : List Int} {i s c : Int} {o : HO} (h : H R = some (.lst (rowL S i s c))) (hs : SqL K H S (xs.map V.int)) : SqL K (upd H R o) S (xs.map V.int) := by
  rcases hs with (z | ⟨o', z⟩) | z
  · refine .inl (.inl ?_)
    rw [upd_ne fun e => ?_]
    · exact z
    · rw [e, h] at z
      have := HO.lst.inj (Option.some.inj z)
      cases xs with
      | nil => cases this
      | cons x r => cases this
  · refine .inl (.inr ⟨o', ?_⟩)
    rw [upd_ne fun e => ?_]
    · exact z
    · rw [e, h] at z
      cases z
  · exact .inr z
theorem seqL_chg {K : PySem.W.Frag} {H H' : Hp} {R S : Addr} {xs : List Int} {i s c : Int} (h : H R = some (.lst (rowL S i s c))) (hs : SqL K H S (xs.map V.int)) (ch : Chg R H H') : SqL K H' S (xs.map V.int) := by
  rcases hs with (z | ⟨o', z⟩) | z
  · refine .inl (.inl (ch _ _ z fun e => ?_))
    rw [e, h] at z
    have := HO.lst.inj (Option.some.inj z)
    cases xs with
    | nil => cases this
    | cons x r => cases this
  · refine .inl (.inr ⟨o', ch _ _ z fun e => ?_⟩)
    rw [e, h] at z
    cases z
  · exact .inr z
section
variable {P : Program} {w : World} {K : PySem.W.Frag} {mg : Str → Option Value} {base : Heap} {dF dK dL dB : Addr}
theorem sc_taken : FnScope nsTk psTk (defScope s_law_taken) := ⟨rfl, rfl, rfl, by decide +kernel, rfl, by decide +kernel, by decide +kernel⟩
theorem ok_taken {f : Addr} {fd : FuncData} (F : Fun K "_law_taken" "_law_taken" s_law_taken f fd) (C : Cst K w mg dF dK dL dB) : FnOk P w K mg base CX0 1 f fd psTk (spTaken K) := by
  refine F.ok sc_taken (fun vs H Q E h => ?_) (fun cdv A outer s H vs Q E hr h => ?_)
  · obtain ⟨R, S, xs, many, rfl, _⟩ := h
    rfl
  · obtain ⟨R, S, xs, many, rfl, ⟨i, st, c, hR, hS, hx, hi, hs0, hs1⟩, h0, hm, k⟩ := h
    refine ⟨_, (pss_cons (ps_if (pt_cmpR op_gt (pe_ix ix_list (pv 0) pe_int (fun _ _ => rfl)) pe_int (nomark _))
        (pss_cons (ps_set (i := 2) sc_taken.nd rfl (Or.inl rfl) (pe_op op_mod (pe_ix ix_list (pv 0) pe_int (fun _ _ => rfl)) (pv 1))) (pss_cons (ps_asg (pe_op op_fdivW (pe_ix ix_list (pv 0) pe_int (fun _ _ => rfl)) (pv 1)) (pg_sub (pv 0) pe_int set_list)) (pss_one (ps_ret (pv 2))))) pss_nil) (pss_cons (ps_asg (pe_op op_add (pe_ix ix_list (pv 0) pe_int (fun _ _ => rfl)) pe_int) (pg_sub (pv 0) pe_int set_list)) (pss_cons (ps_if (pt_cmpR op_gt (pe_ix ix_list (pv 0) pe_int (fun _ _ => rfl)) (pe_callB call_len_seq (by rfl) C.len boot_len (pa_cons (pe_ix ix_list (pv 0) pe_int (fun _ _ => rfl)) (pa_nil))) (nomark _))
        (pss_cons (ps_asg (pe_op op_mod (pe_op op_add (pe_op op_mul (pe_ix ix_list (pv 0) pe_int (fun _ _ => rfl)) pe_int) pe_int) pe_int) (pg_sub (pv 0) pe_int set_list)) (pss_one (ps_ret (pe_op op_mod (pe_op op_fdivW (pe_ix ix_list (pv 0) pe_int (fun _ _ => rfl)) pe_int) (pv 1))))) pss_nil) (pss_cons (ps_set (i := 3) sc_taken.nd rfl (Or.inl rfl) (pe_ix ix_list (pe_ix ix_list (pv 0) pe_int (fun _ _ => rfl)) (pe_op op_sub (pe_ix ix_list (pv 0) pe_int (fun _ _ => rfl)) pe_int) (fun _ _ => rfl))) (pss_cons (ps_asg (pe_op op_mod (pe_op op_add (pe_op op_add (pe_op op_mul (pe_ix ix_list (pv 0) pe_int (fun _ _ => rfl)) pe_int) (pv 3)) pe_int) pe_int) (pg_sub (pv 0) pe_int set_list)) (pss_cons (ps_if (pt_cmpR op_ge (pv 3) (pe_op op_pow pe_int pe_int) (nomark _)) (pss_one (ps_asg (pe_op op_fdivW (pv 3) (pv 1)) (pg_sub (pv 0) pe_int set_list))) pss_nil) (pss_one (ps_ret (pe_op op_mod (pv 3) (pv 1)))))))))), ?_⟩
    have ix0 : SqL K H R (rowL S i st c) := SqL.of hR
    have mh : 0 < many.natAbs.log2 + 1 := Nat.succ_pos _
    have mlog : many.natAbs.log2 < 9000 := by
      have h1 : many.natAbs < 2 ^ 20 := by omega
      exact Nat.lt_of_lt_of_le (PySem.Flt.log2_lt_of (by decide) h1) (by decide)
    have fin : ∀ (H' : Hp) (i' s' c' : Int), Chg R H H' → H' R = some (.lst (rowL S i' s' c')) → SqL K H' S (xs.map V.int) → 0 ≤ i' → 0 ≤ s' → s' < 2147483647 → ∀ r, 0 ≤ r → r < many → Q (.int r) H' := fun H' i' s' c' ch hR' hS' a b c2 r r0 r1 => k H' r ch ⟨i', s', c', hR', hS', hx, a, b, c2⟩ r0 r1
    have mm : ∀ z : Int, 0 ≤ z % many ∧ z % many < many := fun z => ⟨Int.emod_nonneg _ (by omega), Int.emod_lt_of_pos _ h0⟩
    have pp : ∀ z : Int, 0 ≤ z % 2147483647 ∧ z % 2147483647 < 2147483647 := fun z => ⟨Int.emod_nonneg _ (by omega), Int.emod_lt_of_pos _ (by omega)⟩
    refine ⟨_, rfl, R, _, _, _, rfl, rfl, ix0, at_of (j := 3) rfl rfl, _, _, rfl, rfl, _, rfl, ite2 (fun hc => ?_) (fun hc => ?_)⟩
    · refine ⟨_, rfl, R, _, _, _, rfl, rfl, ix0, at_of (j := 3) rfl rfl, _, rfl, _, _, rfl, rfl, h0, ?_⟩
      refine ⟨_, rfl, R, _, _, _, rfl, rfl, ix0, at_of (j := 3) rfl rfl, _, rfl, _, _, rfl, rfl, ⟨h0, mlog⟩, _, rfl, R, _, _, 3, rfl, rfl, hR, rfl, ?_⟩
      exact ⟨_, rfl, fin _ i st (c / many) Chg.upd upd_same (seqL_upd hR hS) hi hs0 hs1 _ (mm c).1 (mm c).2⟩
    refine ⟨_, rfl, R, _, _, _, rfl, rfl, ix0, at_of (j := 1) rfl rfl, _, _, rfl, rfl, _, rfl, R, _, _, 1, rfl, rfl, hR, rfl, ?_⟩
    have hR1 : upd H R (.lst ((rowL S i st c).set 1 (.int (i + 1)))) R = some (.lst (rowL S (i + 1) st c)) := upd_same
    have hS1 : SqL K (upd H R (.lst ((rowL S i st c).set 1 (.int (i + 1))))) S (xs.map V.int) := seqL_upd hR hS
    have ch1 : Chg R H (upd H R (.lst ((rowL S i st c).set 1 (.int (i + 1))))) := Chg.upd
    generalize upd H R (.lst ((rowL S i st c).set 1 (.int (i + 1)))) = H1 at hR1 hS1 ch1
    have ix1 : SqL K H1 R (rowL S (i + 1) st c) := SqL.of hR1
    refine ⟨_, rfl, R, _, _, _, rfl, rfl, ix1, at_of (j := 1) rfl rfl, _, rfl, R, _, _, _, rfl, rfl, ix1, at_of (j := 0) rfl rfl, S, _, rfl, .inl hS1, _, _, rfl, rfl, _, rfl, ite2 (fun hc => ?_) (fun hc => ?_)⟩
    · refine ⟨_, rfl, R, _, _, _, rfl, rfl, ix1, at_of (j := 2) rfl rfl, _, _, rfl, rfl, .inr (by decide), _, _, rfl, rfl, _, _, rfl, rfl, (by show (0:Int) < 2147483647; decide), _, rfl, R, _, _, 2, rfl, rfl, hR1, rfl, ?_⟩
      have hp := pp (st * 48271 + 11)
      have hR2 : upd H1 R (.lst ((rowL S (i + 1) st c).set 2 (.int ((st * 48271 + 11) % 2147483647)))) R = some (.lst (rowL S (i + 1) ((st * 48271 + 11) % 2147483647) c)) := upd_same
      refine ⟨_, rfl, R, _, _, _, rfl, rfl, SqL.of hR2, at_of (j := 2) rfl rfl, _, _, rfl, rfl, ⟨by decide, by decide⟩, _, rfl, _, _, rfl, rfl, h0, ?_⟩
      · exact fin _ _ _ _ (ch1.trans Chg.upd) hR2 (seqL_upd hR1 hS1) (by omega) hp.1 hp.2 _ (mm _).1 (mm _).2
    have hlt : i < xs.length := by
      have h2 : ¬ (((xs.map V.int).length : Nat) : Int) < i + 1 := fun h => hc (decide_eq_true h)
      rw [List.length_map] at h2
      omega
    have hix : (xs.map V.int)[i.toNat]? = some (.int (xs[i.toNat]'(by omega))) := by
      rw [List.getElem?_map, List.getElem?_eq_getElem (by omega)]
      rfl
    generalize xs[i.toNat]'(by omega) = cell at hix
    refine ⟨_, rfl, R, _, _, _, rfl, rfl, ix1, at_of (j := 0) rfl rfl, _, rfl, R, _, _, _, rfl, rfl, ix1, at_of (j := 1) rfl rfl, _, _, rfl, rfl, S, _, _, _, rfl, rfl, hS1, at_of (j := i.toNat) (by omega) hix, ?_⟩
    refine ⟨_, rfl, R, _, _, _, rfl, rfl, ix1, at_of (j := 2) rfl rfl, _, _, rfl, rfl, .inr (by decide), _, rfl, _, _, rfl, rfl, _, _, rfl, rfl, _, _, rfl, rfl, (by show (0:Int) < 2147483647; decide), _, rfl, R, _, _, 2, rfl, rfl, hR1, rfl, ?_⟩
    have hp := pp (st * 48271 + cell + 11)
    have hR2 : upd H1 R (.lst ((rowL S (i + 1) st c).set 2 (.int ((st * 48271 + cell + 11) % 2147483647)))) R = some (.lst (rowL S (i + 1) ((st * 48271 + cell + 11) % 2147483647) c)) := upd_same
    have hS2 : SqL K (upd H1 R (.lst ((rowL S (i + 1) st c).set 2 (.int ((st * 48271 + cell + 11) % 2147483647))))) S (xs.map V.int) := seqL_upd hR1 hS1
    have ch2 : Chg R H (upd H1 R (.lst ((rowL S (i + 1) st c).set 2 (.int ((st * 48271 + cell + 11) % 2147483647))))) := ch1.trans Chg.upd
    show tSeq _ _ _ _ (upd H1 R (.lst ((rowL S (i + 1) st c).set 2 (.int ((st * 48271 + cell + 11) % 2147483647)))))
    generalize upd H1 R (.lst ((rowL S (i + 1) st c).set 2 (.int ((st * 48271 + cell + 11) % 2147483647)))) = H2 at hR2 hS2 ch2
    refine ⟨_, rfl, _, _, rfl, rfl, ⟨by decide, by decide, by decide⟩, _, _, rfl, rfl, _, rfl, ite2 (fun hc => ?_) (fun hc => ?_)⟩
    · refine ⟨_, rfl, _, rfl, _, _, rfl, rfl, ⟨h0, mlog⟩, _, rfl, R, _, _, 3, rfl, rfl, hR2, rfl, ?_⟩
      exact ⟨_, rfl, _, rfl, _, _, rfl, rfl, h0, fin _ _ _ _ (ch2.trans Chg.upd) upd_same (seqL_upd hR2 hS2) (by omega) hp.1 hp.2 _ (mm _).1 (mm _).2⟩
    · exact ⟨_, rfl, _, rfl, _, _, rfl, rfl, h0, fin _ _ _ _ ch2 hR2 hS2 (by omega) hp.1 hp.2 _ (mm _).1 (mm _).2⟩
end
end Lw
set_option Elab.async false
set_option linter.all false
set_option maxRecDepth 100000
set_option maxHeartbeats 4000000
namespace Lw
open PySem PySem.Spec PyProof.Rows L2 RZ NdefX LamX
def shal : Nat → PyData → Bool
  | 0, _ => false
  | _ + 1, .int _ => true
  | _ + 1, .str _ => true
  | n + 1, .tuple ds => ds.all (shal n) && decide (ds.length ≤ 1000)
  | n + 1, .list ds => ds.all (shal n) && decide (ds.length ≤ 1000)
  | _ + 1, _ => false
theorem kitTL {K : PySem.W.Frag} (d : PyData) : PySem.W.kitAny K (.type (tyN d)) [.type "tuple", .type "list"] = some (isTupD d || isLstD d) := by
  refine kitAny_cons (b := isTupD d) (kit_ty (kit_tuple d)) (fun h => ?_) (fun h => by rw [h]; rfl)
  exact kitAny_cons (b := isLstD d) (kit_ty (kit_list d)) (fun h2 => by rw [h, h2]; rfl) (fun h2 => by rw [h, h2]; rfl)
def spAlike (K : PySem.W.Frag) (n : Nat) : Sp := fun vs H Q _ => ∃ (v1 v2 : V) (d : PyData), vs = [v1, v2] ∧ Dp K H v1 d ∧ Dp K H v2 d ∧ shal n d = true ∧ ∀ H', Same H H' → Q (.bl true) H'
section
variable {P : Program} {w : World} {K : PySem.W.Frag} {mg : Str → Option Value} {base : Heap} {dF dK dL dB : Addr}
theorem sc_alike : FnScope nsAl psAl (defScope s_law_alike) := ⟨rfl, rfl, rfl, by decide +kernel, rfl, by decide +kernel, by decide +kernel⟩
def ixAny (K : PySem.W.Frag) : R2 := fun x y H Q => rIxL K x y H Q ∨ rIxT K x y H Q
theorem ix_any {X : Cx} : IxR X (ixAny X.K) := ix_list.or ix_tup
theorem ok_alike (a : At0 K mg "_law_alike" "_law_alike" s_law_alike psAl) (C : Cst K w mg dF dK dL dB) : ∀ n, Dfn P w K mg base "_law_alike" n psAl (spAlike K n)
  | 0 => .never a fun vs H Q E ⟨v1, v2, d, _, _, _, h, _⟩ => by cases h
  | n + 1 => .of a fun f fd F => by
    have G := ok_alike a C n
    refine F.ok sc_alike (fun vs H Q E h => ?_) (fun cdv A outer s H vs Q E hr h => ?_)
    · obtain ⟨v1, v2, d, rfl, _⟩ := h
      rfl
    · obtain ⟨v1, v2, d, rfl, h1, h2, hsh, k⟩ := h
      refine ⟨_, (pss_cons (ps_if (PW.pt (pw_and (pt_val (pe_callB call_isiT (by rfl) C.isi boot_isinstance (pa_cons (pv 0) (pa_cons (pe_tup (pa_cons (pe_bltn (v := .ty "tuple") (by rfl) C.tuple boot_tuple rfl) (pa_cons (pe_bltn (v := .ty "list") (by rfl) C.list boot_list rfl) (pa_nil)))) (pa_nil)))))
            (pw_and1 (pt_val (pe_callB call_isiT (by rfl) C.isi boot_isinstance (pa_cons (pv 1) (pa_cons (pe_tup (pa_cons (pe_bltn (v := .ty "tuple") (by rfl) C.tuple boot_tuple rfl) (pa_cons (pe_bltn (v := .ty "list") (by rfl) C.list boot_list rfl) (pa_nil)))) (pa_nil))))))))
          (pss_cons (ps_if (PW.pt (pw_or (pt_cmpR op_ne (pe_callB call_isi (by rfl) C.isi boot_isinstance (pa_cons (pv 0) (pa_cons (pe_bltn (v := .ty "tuple") (by rfl) C.tuple boot_tuple rfl) (pa_nil)))) (pe_callB call_isi (by rfl) C.isi boot_isinstance (pa_cons (pv 1) (pa_cons (pe_bltn (v := .ty "tuple") (by rfl) C.tuple boot_tuple rfl) (pa_nil)))) (nomark _))
              (pw_or1 (pt_cmpR op_ne (pe_callB call_len_seq (by rfl) C.len boot_len (pa_cons (pv 0) (pa_nil))) (pe_callB call_len_seq (by rfl) C.len boot_len (pa_cons (pv 1) (pa_nil))) (nomark _))))) (pss_one (ps_ret pe_bl)) pss_nil) (pss_one (ps_ret (pe_cmpR (op_eqE hr.units0) (pe_lc (own := [("_law_k", 2)]) (g := gName 2) (tt := tNot (tB (tCall (spAlike K n) [] E0 (tCons (tOp (ixAny K) (tVar 0) (tVar 2)) (tCons (tOp (ixAny K) (tVar 1) (tVar 2)) tNil))))) (te := tVar 2) rfl sc_alike.nd (pi_range1 (by rfl) C.range (pa_cons (pe_callB call_len_seq (by rfl) C.len boot_len (pa_cons (pv 0) (pa_nil))) (pa_nil)))
              (blkOk_by (N := nsAl) (sc := defScope s_law_alike) (by decide +kernel)) (fun _ _ _ _ _ => pg_name (i := 2) sc_alike.nd rfl (Or.inl rfl)) (fun _ _ _ _ _ => pts_one (pt_not (pt_val (pe_callD G hr (by rfl) (pa_cons (pe_ix ix_any (pv 0) (pv 2) (fun _ _ => rfl)) (pa_cons (pe_ix ix_any (pv 1) (pv 2) (fun _ _ => rfl)) (pa_nil))))))) (fun _ _ _ _ _ => pv 2)) (pe_lst (pa_nil)) (nomark _))))) pss_nil) (pss_one (ps_ret (pe_and (pe_cmpR op_eq (pv 0) (pv 1) (nomark _)) (pe_one (pe_cmpR op_eq (pe_callB call_isi (by rfl) C.isi boot_isinstance (pa_cons (pv 0) (pa_cons (pe_bltn (v := .ty "bool") (by rfl) C.bool boot_bool rfl) (pa_nil)))) (pe_callB call_isi (by rfl) C.isi boot_isinstance (pa_cons (pv 1) (pa_cons (pe_bltn (v := .ty "bool") (by rfl) C.bool boot_bool rfl) (pa_nil)))) (nomark _))))))), ?_⟩
      refine ⟨_, rfl, by show 2 ≤ sizeLine; decide, fun t1 ht1 => ?_⟩
      have s1 := Same.new (o := .tup [.ty "tuple", .ty "list"]) ht1
      have ht11 : upd H t1 (.tup [.ty "tuple", .ty "list"]) t1 = some (.tup [.ty "tuple", .ty "list"]) := upd_same
      generalize upd H t1 (.tup [.ty "tuple", .ty "list"]) = H1 at s1 ht11
      refine ⟨v1, t1, _, _, _, _, rfl, ht11, .cons (.ty _) (.cons (.ty _) .nil), ty_of (Dp.same s1 _ _ h1), kitTL d, _, rfl, ?_⟩
      by_cases hq : (isTupD d || isLstD d) = true
      · rw [hq]
        refine iteT ?_
        refine ⟨_, rfl, by show 2 ≤ sizeLine; decide, fun t2 ht2 => ?_⟩
        have s2 := Same.new (o := .tup [.ty "tuple", .ty "list"]) ht2
        have ht22 : upd H1 t2 (.tup [.ty "tuple", .ty "list"]) t2 = some (.tup [.ty "tuple", .ty "list"]) := upd_same
        generalize upd H1 t2 (.tup [.ty "tuple", .ty "list"]) = H2 at s2 ht22
        have s12 := s1.trans s2
        refine ⟨v2, t2, _, _, _, _, rfl, ht22, .cons (.ty _) (.cons (.ty _) .nil), ty_of (Dp.same s12 _ _ h2), kitTL d, _, rfl, ?_⟩
        rw [hq]
        refine iteT ?_
        have d1 := Dp.same s12 _ _ h1
        have d2 := Dp.same s12 _ _ h2
        obtain ⟨a1, a2, xs1, xs2, ds, rfl, rfl, q1, q2, r1, r2, hall, hlen⟩ : ∃ a1 a2 xs1 xs2 ds, v1 = .ref a1 ∧ v2 = .ref a2 ∧ (SqL K H2 a1 xs1 ∨ SqT K H2 a1 xs1) ∧ (SqL K H2 a2 xs2 ∨ SqT K H2 a2 xs2) ∧ DpAll K H2 xs1 ds ∧ DpAll K H2 xs2 ds ∧ ds.all (shal n) = true ∧ ds.length ≤ 1000 := by
          cases d with
          | tuple ds =>
            rw [shal, Bool.and_eq_true, decide_eq_true_eq] at hsh
            cases d1 with
            | tup q1 r1 => cases d2 with
              | tup q2 r2 => exact ⟨_, _, _, _, ds, rfl, rfl, .inr q1, .inr q2, r1, r2, hsh.1, hsh.2⟩
          | list ds =>
            rw [shal, Bool.and_eq_true, decide_eq_true_eq] at hsh
            cases d1 with
            | lst q1 r1 => cases d2 with
              | lst q2 r2 => exact ⟨_, _, _, _, ds, rfl, rfl, .inl q1, .inl q2, r1, r2, hsh.1, hsh.2⟩
          | none => cases hq
          | bool b => cases hq
          | int i => cases hq
          | str x => cases hq
          | dict x => cases hq
        have l1 := DpAll.length r1
        have l2 := DpAll.length r2
        refine ⟨_, rfl, _, _, _, _, _, rfl, .ty "tuple", ty_of d1, kit_ty (kit_tuple d), _, rfl, _, _, _, _, _, rfl, .ty "tuple", ty_of d2, kit_ty (kit_tuple d), rfl, _, rfl, iteN (by cases isTupD d <;> decide) ?_⟩
        refine ⟨_, rfl, a1, xs1, rfl, q1, _, rfl, a2, xs2, rfl, q2, rfl, _, rfl, iteN (by rw [l1, l2]; simp) ?_⟩
        refine ⟨_, rfl, a1, xs1, rfl, q1, _, rfl, by omega, by omega, fun D hD => ?_⟩
        refine lc_it (walk_range (lo := 0) (n := xs1.length)) (fun i H' => Same H2 H' ∧ H' D = some (.lst [])) ⟨Same.new hD, upd_same⟩ (fun _ _ _ _ => trivial) ?_ ?_
        · rintro i x H3 H4 hi ⟨s3, hl3⟩ ⟨rfl, rfl⟩
          have hi1 : xs1[i]? = some xs1[i] := List.getElem?_eq_getElem hi
          have hi2 : xs2[i]? = some (xs2[i]'(by omega)) := List.getElem?_eq_getElem (by omega)
          obtain ⟨dd, hdd, p1⟩ := DpAll.get r1 hi1
          obtain ⟨dd2, hdd2, p2⟩ := DpAll.get r2 hi2
          rw [hdd] at hdd2
          cases hdd2
          have hs' : shal n dd = true := List.all_eq_true.mp hall dd (List.mem_of_getElem? hdd)
          have ixr : ∀ {a : Addr} {xs : List V} {v : V} {Q' : VK}, (SqL K H2 a xs ∨ SqT K H2 a xs) → xs[i]? = some v → Q' v H4 → ixAny K (.ref a) (.int (0 + (i : Int))) H4 Q' := by
            intro a xs v Q' hq' hv hQ
            rcases hq' with h | h
            · exact .inl ⟨a, xs, _, v, rfl, rfl, Same.seq s3 h, at_of (j := i) (by omega) hv, hQ⟩
            · exact .inr ⟨a, xs, _, v, rfl, rfl, Same.seqT s3 h, at_of (j := i) (by omega) hv, hQ⟩
          refine ⟨rfl, _, rfl, _, rfl, ixr q1 hi1 ⟨_, rfl, _, rfl, ixr q2 hi2 ⟨_, _, dd, rfl, Dp.same s3 _ _ p1, Dp.same s3 _ _ p2, hs', fun H5 s5 => ⟨_, rfl, iteF ⟨s3.trans s5, s5 _ _ hl3⟩⟩⟩⟩⟩
        · rintro H3 ⟨s3, hl3⟩
          refine ⟨by show 0 ≤ sizeLine; decide, fun q hq' => ?_⟩
          have s4 := Same.new (o := .lst []) hq'
          exact ⟨D, q, [], rfl, rfl, SqL.of (s4 _ _ hl3), SqL.of upd_same, k _ (s12.trans (s3.trans s4))⟩
      · rw [Bool.eq_false_iff.mpr hq]
        refine iteF ?_
        have fin : ∀ (u : V), v1 = u → v2 = u → scal u u = true → isBoolD d = false → tRet (tAndV (tOp rEq (tVar 0) (tVar 1)) (tOp rEq (tCB (rIsi K) (tCons (tVar 0) (tCons (tC (.ty "bool")) tNil))) (tCB (rIsi K) (tCons (tVar 1) (tCons (tC (.ty "bool")) tNil))))) { nx := fun _ H' => Q .non H', rt := Q } [some v1, some v2, none] H1 := by
          intro u e1 e2 hs hb
          refine ⟨_, rfl, _, rfl, by rw [e1, e2]; exact hs, _, rfl, ?_⟩
          rw [if_pos (by rw [e1, e2]; exact decide_eq_true rfl)]
          have := kit_bool d
          rw [hb] at this
          exact ⟨_, rfl, _, _, _, _, _, rfl, .ty "bool", ty_of (Dp.same s1 _ _ h1), kit_ty this, _, rfl, _, _, _, _, _, rfl, .ty "bool", ty_of (Dp.same s1 _ _ h2), kit_ty this, rfl, k _ s1⟩
        cases d with
        | int i =>
          cases h1
          cases h2
          exact fin _ rfl rfl rfl rfl
        | str x =>
          cases h1
          cases h2
          exact fin _ rfl rfl rfl rfl
        | none => cases hsh
        | bool b => cases hsh
        | dict x => cases hsh
        | tuple ds => exact absurd rfl hq
        | list ds => exact absurd rfl hq
end
end Lw
set_option Elab.async false
set_option linter.all false
set_option maxRecDepth 100000
set_option maxHeartbeats 4000000
namespace Lw
open PySem PySem.Spec PyProof.Rows L2 RZ NdefX LamX
/-! ### what is known of slots: data that are flat, or a value as it stands -/
inductive Sl where
  | d (x : PyData) | v (x : V)
structure Ev (K : PySem.W.Frag) (env : List (Option Sl)) (σ : L2.St) (H : Hp) : Prop where
  len : σ.length = env.length
  dat : ∀ (i : Nat) (d : PyData), env[i]? = some (some (.d d)) → flatD d = true ∧ ∃ v, σ[i]? = some (some v) ∧ Dp K H v d
  val : ∀ (i : Nat) (v : V), env[i]? = some (some (.v v)) → σ[i]? = some (some v)
section
variable {K : PySem.W.Frag} {env : List (Option Sl)} {σ : L2.St} {H H' : Hp}
theorem Ev.ts (e : Ev K env σ H) (s : TSame H H') : Ev K env σ H' := ⟨e.len, fun i d h => by
  obtain ⟨f, v, h1, h2⟩ := e.dat i d h
  exact ⟨f, v, h1, Dp.tsame s _ _ f h2⟩, e.val⟩
theorem Ev.same (e : Ev K env σ H) (s : Same H H') : Ev K env σ H' := e.ts (TSame.of s)
theorem Ev.set {i : Nat} {v : V} {d : PyData} (e : Ev K env σ H) (hd : Dp K H v d) (f : flatD d = true) (hi : i < env.length) : Ev K (env.set i (some (.d d))) (σ.set i (some v)) H := by
  refine ⟨by rw [List.length_set, List.length_set]; exact e.len, fun j d' hj => ?_, fun j v' hj => ?_⟩
  · by_cases h : i = j
    · subst h
      rw [List.getElem?_set_self hi] at hj
      cases hj
      exact ⟨f, v, by rw [List.getElem?_set_self (by rw [e.len]; exact hi)], hd⟩
    · rw [List.getElem?_set_ne h] at hj
      obtain ⟨f', u, h1, h2⟩ := e.dat j d' hj
      exact ⟨f', u, by rw [List.getElem?_set_ne h]; exact h1, h2⟩
  · by_cases h : i = j
    · subst h
      rw [List.getElem?_set_self hi] at hj
      cases hj
    · rw [List.getElem?_set_ne h] at hj ⊢
      exact e.val j v' hj
theorem Ev.setV {i : Nat} {v : V} (e : Ev K env σ H) (hi : i < env.length) : Ev K (env.set i (some (.v v))) (σ.set i (some v)) H := by
  refine ⟨by rw [List.length_set, List.length_set]; exact e.len, fun j d' hj => ?_, fun j v' hj => ?_⟩
  · by_cases h : i = j
    · subst h
      rw [List.getElem?_set_self hi] at hj
      cases hj
    · rw [List.getElem?_set_ne h] at hj
      obtain ⟨f', u, h1, h2⟩ := e.dat j d' hj
      exact ⟨f', u, by rw [List.getElem?_set_ne h]; exact h1, h2⟩
  · by_cases h : i = j
    · subst h
      rw [List.getElem?_set_self hi] at hj
      cases hj
      rw [List.getElem?_set_self (by rw [e.len]; exact hi)]
    · rw [List.getElem?_set_ne h] at hj ⊢
      exact e.val j v' hj
/-- a slot of which nothing is known any more -/
theorem Ev.unset {i : Nat} {x : Option V} (e : Ev K env σ H) : Ev K (env.set i none) (σ.set i x) H := by
  refine ⟨by rw [List.length_set, List.length_set]; exact e.len, fun j d' hj => ?_, fun j v' hj => ?_⟩
  · by_cases h : i = j
    · subst h
      rw [List.getElem?_set] at hj
      split at hj
      · split at hj <;> cases hj
      · rename_i hn; exact absurd rfl hn
    · rw [List.getElem?_set_ne h] at hj
      obtain ⟨f', u, h1, h2⟩ := e.dat j d' hj
      exact ⟨f', u, by rw [List.getElem?_set_ne h]; exact h1, h2⟩
  · by_cases h : i = j
    · subst h
      rw [List.getElem?_set] at hj
      split at hj
      · split at hj <;> cases hj
      · rename_i hn; exact absurd rfl hn
    · rw [List.getElem?_set_ne h] at hj ⊢
      exact e.val j v' hj
/-- some slots are forgotten -/
theorem Ev.keep (e : Ev K env σ H) (k : Nat) : Ev K (env.take k ++ List.replicate (env.length - k) none) σ H := by
  have key : ∀ {j : Nat} {x : Sl}, (env.take k ++ List.replicate (env.length - k) (none : Option Sl))[j]? = some (some x) → env[j]? = some (some x) := by
    intro j x hj
    rw [List.getElem?_append] at hj
    split at hj
    · rename_i hlt
      rw [List.length_take] at hlt
      rw [List.getElem?_take] at hj
      split at hj
      · exact hj
      · cases hj
    · rw [List.getElem?_replicate] at hj
      split at hj <;> cases hj
  refine ⟨?_, fun j d hj => e.dat j d (key hj), fun j v hj => e.val j v (key hj)⟩
  rw [List.length_append, List.length_take, List.length_replicate, e.len]
  omega
end
structure MkE (K : PySem.W.Frag) (env : List (Option Sl)) (te : TE) (d : PyData) : Prop where
  run : ∀ σ H Q, Ev K env σ H → (∀ v H', Same H H' → Dp K H' v d → Q v H') → te σ H Q
structure MkA (K : PySem.W.Frag) (env : List (Option Sl)) (t : TA) (ds : List PyData) : Prop where
  run : ∀ σ H Q, Ev K env σ H → (∀ vs H', Same H H' → DpAll K H' vs ds → Q vs H') → t σ H Q
section
variable {K : PySem.W.Frag} {env : List (Option Sl)}
theorem mk_var {i : Nat} {d : PyData} (h : env[i]? = some (some (.d d))) : MkE K env (tVar i) d := ⟨fun σ H Q e k => by
  obtain ⟨_, v, h1, h2⟩ := e.dat i d h
  exact ⟨v, h1, k v H (Same.refl H) h2⟩⟩
theorem mk_str {x : Str} : MkE K env (tC (.str x)) (.str x) := ⟨fun σ H Q e k => k _ H (Same.refl H) (.str x)⟩
theorem mk_int {i : Int} : MkE K env (tC (.int i)) (.int i) := ⟨fun σ H Q e k => k _ H (Same.refl H) (.int i)⟩
theorem mk_bl {b : Bool} : MkE K env (tC (.bl b)) (.bool b) := ⟨fun σ H Q e k => k _ H (Same.refl H) (.bl b)⟩
theorem mk_nil : MkA K env tNil [] := ⟨fun σ H Q e k => k [] H (Same.refl H) .nil⟩
theorem mk_cons {te : TE} {t : TA} {d : PyData} {ds : List PyData} (a : MkE K env te d) (b : MkA K env t ds) : MkA K env (tCons te t) (d :: ds) :=
  ⟨fun σ H Q e k => a.run σ H _ e fun v H1 s1 h1 => b.run σ H1 _ (e.same s1) fun vs H2 s2 h2 => k (v :: vs) H2 (s1.trans s2) (.cons (Dp.same s2 _ _ h1) h2)⟩
theorem mk_tup {t : TA} {ds : List PyData} (a : MkA K env t ds) (h : ds.length ≤ 1000) : MkE K env (tTup t) (.tuple ds) :=
  ⟨fun σ H Q e k => a.run σ H _ e fun vs H1 s1 h1 => ⟨Nat.le_trans (show vs.length ≤ 1000 by rw [DpAll.length h1]; exact h) (by decide), fun p hp => k _ _ (s1.trans (Same.new hp)) (.tup (SqT.of upd_same) (DpAll.same (Same.new hp) _ _ h1))⟩⟩
theorem mk_lst {t : TA} {ds : List PyData} (a : MkA K env t ds) (h : ds.length ≤ 1000) : MkE K env (tLst t) (.list ds) :=
  ⟨fun σ H Q e k => a.run σ H _ e fun vs H1 s1 h1 => ⟨Nat.le_trans (show vs.length ≤ 1000 by rw [DpAll.length h1]; exact h) (by decide), fun p hp => k _ _ (s1.trans (Same.new hp)) (.lst (SqL.of upd_same) (DpAll.same (Same.new hp) _ _ h1))⟩⟩
theorem mk_add {t1 t2 : TE} {a b : Int} (h1 : MkE K env t1 (.int a)) (h2 : MkE K env t2 (.int b)) : MkE K env (tOp (rI0 fun i j => .int (i + j)) t1 t2) (.int (a + b)) :=
  ⟨fun σ H Q e k => h1.run σ H _ e fun v H1 s1 d1 => h2.run σ H1 _ (e.same s1) fun u H2 s2 d2 => by
    cases d1
    cases d2
    exact ⟨_, _, rfl, rfl, k _ H2 (s1.trans s2) (.int _)⟩⟩
theorem mk_sub {t1 t2 : TE} {a b : Int} (h1 : MkE K env t1 (.int a)) (h2 : MkE K env t2 (.int b)) : MkE K env (tOp (rI0 fun i j => .int (i - j)) t1 t2) (.int (a - b)) :=
  ⟨fun σ H Q e k => h1.run σ H _ e fun v H1 s1 d1 => h2.run σ H1 _ (e.same s1) fun u H2 s2 d2 => by
    cases d1
    cases d2
    exact ⟨_, _, rfl, rfl, k _ H2 (s1.trans s2) (.int _)⟩⟩
theorem mk_mul {t1 t2 : TE} {a b : Int} (h1 : MkE K env t1 (.int a)) (h2 : MkE K env t2 (.int b)) (h : -(2 ^ 64) < a ∧ a < 2 ^ 64) : MkE K env (tOp (rI (fun i j => (-(2 ^ 64) < i ∧ i < 2 ^ 64) ∨ (-(2 ^ 64) < j ∧ j < 2 ^ 64)) fun i j => .int (i * j)) t1 t2) (.int (a * b)) :=
  ⟨fun σ H Q e k => h1.run σ H _ e fun v H1 s1 d1 => h2.run σ H1 _ (e.same s1) fun u H2 s2 d2 => by
    cases d1
    cases d2
    exact ⟨_, _, rfl, rfl, .inl h, k _ H2 (s1.trans s2) (.int _)⟩⟩
theorem mk_mod {t1 t2 : TE} {a b : Int} (h1 : MkE K env t1 (.int a)) (h2 : MkE K env t2 (.int b)) (h : 0 < b) : MkE K env (tOp (rI (fun _ j => 0 < j) fun i j => .int (i % j)) t1 t2) (.int (a % b)) :=
  ⟨fun σ H Q e k => h1.run σ H _ e fun v H1 s1 d1 => h2.run σ H1 _ (e.same s1) fun u H2 s2 d2 => by
    cases d1
    cases d2
    exact ⟨_, _, rfl, rfl, h, k _ H2 (s1.trans s2) (.int _)⟩⟩
theorem mk_ifEq {t1 t2 ta tb : TE} {x y a b : Int} (h1 : MkE K env t1 (.int x)) (h2 : MkE K env t2 (.int y)) (ha : MkE K env ta (.int a)) (hb : MkE K env tb (.int b)) : MkE K env (tIf (tTest (tOp rEq t1 t2)) ta tb) (.int (if x = y then a else b)) :=
  ⟨fun σ H Q e k => h1.run σ H _ e fun v H1 s1 d1 => h2.run σ H1 _ (e.same s1) fun u H2 s2 d2 => by
    cases d1
    cases d2
    refine ⟨rfl, _, rfl, ite2 (fun hc => ?_) (fun hc => ?_)⟩
    · have hxy : x = y := V.int.inj (of_decide_eq_true hc)
      rw [if_pos hxy] at k
      exact ha.run σ H2 _ (e.same (s1.trans s2)) fun v H3 s3 d => k v H3 (s1.trans (s2.trans s3)) d
    · have hxy : ¬ x = y := fun z => hc (by rw [z]; exact decide_eq_true rfl)
      rw [if_neg hxy] at k
      exact hb.run σ H2 _ (e.same (s1.trans s2)) fun v H3 s3 d => k v H3 (s1.trans (s2.trans s3)) d⟩
theorem mk_div {t1 t2 : TE} {a b : Int} (h1 : MkE K env t1 (.int a)) (h2 : MkE K env t2 (.int b)) (h : CDiv a b) : MkE K env (tOp (rI CDiv fun i j => .int (i / j)) t1 t2) (.int (a / b)) :=
  ⟨fun σ H Q e k => h1.run σ H _ e fun v H1 s1 d1 => h2.run σ H1 _ (e.same s1) fun u H2 s2 d2 => by
    cases d1
    cases d2
    exact ⟨_, _, rfl, rfl, h, k _ H2 (s1.trans s2) (.int _)⟩⟩
theorem mk_vint {i : Nat} {n : Int} (h : env[i]? = some (some (.v (.int n)))) : MkE K env (tVar i) (.int n) := ⟨fun σ H Q e k => ⟨_, e.val i _ h, k _ H (Same.refl H) (.int n)⟩⟩
theorem mk_vbl {i : Nat} {b : Bool} (h : env[i]? = some (some (.v (.bl b)))) : MkE K env (tVar i) (.bool b) := ⟨fun σ H Q e k => ⟨_, e.val i _ h, k _ H (Same.refl H) (.bl b)⟩⟩
theorem mk_vstr {i : Nat} {z : Str} (h : env[i]? = some (some (.v (.str z)))) : MkE K env (tVar i) (.str z) := ⟨fun σ H Q e k => ⟨_, e.val i _ h, k _ H (Same.refl H) (.str z)⟩⟩
theorem mk_ifB {t1 ta tb : TE} {b : Bool} {d1 d2 : PyData} (h1 : MkE K env t1 (.bool b)) (ha : MkE K env ta d1) (hb : MkE K env tb d2) : MkE K env (tIf (tB t1) ta tb) (if b = true then d1 else d2) :=
  ⟨fun σ H Q e k => h1.run σ H _ e fun v H1 s1 q1 => by
    cases q1
    refine ⟨_, rfl, ?_⟩
    cases b with
    | true => exact ha.run σ H1 _ (e.same s1) fun v H2 s2 d => k v H2 (s1.trans s2) d
    | false => exact hb.run σ H1 _ (e.same s1) fun v H2 s2 d => k v H2 (s1.trans s2) d⟩
theorem mk_call {sp : Sp} {t : TA} {ds : List PyData} {d : PyData} (a : MkA K env t ds) (h : ∀ H vs (Q : VK), DpAll K H vs ds → (∀ v H', Same H H' → Dp K H' v d → Q v H') → sp vs H Q E0) : MkE K env (tCall sp [] E0 t) d :=
  ⟨fun σ H Q e k => a.run σ H _ e fun vs H1 s1 q1 => by
    rw [List.append_nil]
    exact h H1 vs Q q1 fun v H2 s2 q2 => k v H2 (s1.trans s2) q2⟩
theorem mk_cast {te : TE} {d d' : PyData} (a : MkE K env te d) (h : d = d') : MkE K env te d' := h ▸ a
theorem ev_asg {te : TE} {i : Nat} {d : PyData} {σ : L2.St} {H : Hp} {D : Ends} (a : MkE K env te d) (c : Ev K env σ H) (k : ∀ σ' H', Same H H' → Ev K (env.set i (some (.d d))) σ' H' → D.nx σ' H') (f : flatD d = true := by first | rfl | exact Ex.flat _) (hi : i < env.length := by exact Nat.le_of_ble_eq_true rfl) : tAsg te (gName i) D σ H :=
  a.run σ H _ c fun v H1 s1 h1 => k _ H1 s1 ((c.same s1).set h1 f hi)
theorem ev_seq {te : TE} {i : Nat} {d : PyData} {σ : L2.St} {H : Hp} {D : Ends} {t2 : TS} (a : MkE K env te d) (c : Ev K env σ H) (k : ∀ σ' H', Same H H' → Ev K (env.set i (some (.d d))) σ' H' → t2 D σ' H') (f : flatD d = true := by first | rfl | exact Ex.flat _) (hi : i < env.length := by exact Nat.le_of_ble_eq_true rfl) : tSeq (tAsg te (gName i)) t2 D σ H :=
  ev_asg (D := { D with nx := t2 D }) a c k f hi
theorem ev_ret {te : TE} {d : PyData} {σ : L2.St} {H : Hp} {D : Ends} (a : MkE K env te d) (e : Ev K env σ H) (k : ∀ v H', Same H H' → Dp K H' v d → D.rt v H') : tRet te D σ H :=
  a.run σ H _ e fun v H1 s1 h1 => k v H1 s1 h1
theorem Ev.asD {σ : L2.St} {H : Hp} {i : Nat} {v : V} {d : PyData} (e : Ev K env σ H) (h : env[i]? = some (some (.v v))) (hd : Dp K H v d) (f : flatD d = true) : Ev K (env.set i (some (.d d))) σ H := by
  have hi : i < env.length := by
    rcases Nat.lt_or_ge i env.length with h1 | h1
    · exact h1
    · rw [List.getElem?_eq_none h1] at h; cases h
  refine ⟨by rw [List.length_set]; exact e.len, fun j d' hj => ?_, fun j v' hj => ?_⟩
  · by_cases q : i = j
    · subst q
      rw [List.getElem?_set_self hi] at hj
      cases hj
      exact ⟨f, v, e.val i v h, hd⟩
    · rw [List.getElem?_set_ne q] at hj
      exact e.dat j d' hj
  · by_cases q : i = j
    · subst q
      rw [List.getElem?_set_self hi] at hj
      cases hj
    · rw [List.getElem?_set_ne q] at hj
      exact e.val j v' hj
/-- less is known of the slots -/
inductive Sub : List (Option Sl) → List (Option Sl) → Prop
  | nil : Sub [] []
  | keep {x : Option Sl} {l l' : List (Option Sl)} : Sub l l' → Sub (x :: l) (x :: l')
  | drop {x : Option Sl} {l l' : List (Option Sl)} : Sub l l' → Sub (x :: l) (none :: l')
theorem Sub.len {l l' : List (Option Sl)} (h : Sub l l') : l.length = l'.length := by
  induction h with
  | nil => rfl
  | keep _ ih => exact congrArg Nat.succ ih
  | drop _ ih => exact congrArg Nat.succ ih
theorem Sub.get {l l' : List (Option Sl)} (h : Sub l l') : ∀ {i : Nat} {x : Sl}, l'[i]? = some (some x) → l[i]? = some (some x) := by
  induction h with
  | nil => intro i x h; exact h
  | keep _ ih =>
    intro i x h
    cases i with
    | zero => exact h
    | succ i => exact ih (i := i) (by simpa using h)
  | drop _ ih =>
    intro i x h
    cases i with
    | zero => cases h
    | succ i => exact ih (i := i) (by simpa using h)
theorem Ev.sub {env' : List (Option Sl)} {σ : L2.St} {H : Hp} (e : Ev K env σ H) (h : Sub env env') : Ev K env' σ H :=
  ⟨by rw [e.len, h.len], fun i d hi => e.dat i d (h.get hi), fun i v hi => e.val i v (h.get hi)⟩
end
/-- row of draws and tables of code objects beside the slots -/
structure LC (K : PySem.W.Frag) (T : List NTab) (R S : Addr) (xs : List Int) (env : List (Option Sl)) (σ : L2.St) (H : Hp) : Prop where
  ev : Ev K env σ H
  row : RowAt K H R S xs
  tab : TabsN T H
theorem RowAt.ext {K : PySem.W.Frag} {H H' : Hp} {R S : Addr} {xs : List Int} (h : RowAt K H R S xs) (s : ExtN H H') : RowAt K H' R S xs := by
  obtain ⟨i, st, c, h1, h2, h3⟩ := h
  exact ⟨i, st, c, s _ _ h1 (fun _ z => nomatch z), ExtN.seq s h2, h3⟩
theorem RowAt.lst {K : PySem.W.Frag} {H : Hp} {R S : Addr} {xs : List Int} (h : RowAt K H R S xs) : ∃ l, H R = some (.lst l) := by
  obtain ⟨i, st, c, h1, _⟩ := h
  exact ⟨_, h1⟩
theorem RowAt.re {K : PySem.W.Frag} {H H' H2 : Hp} {R S : Addr} {xs : List Int} (h : RowAt K H R S xs) (h2 : RowAt K H' R S xs) (ch : Chg R H H2) (e : H2 R = H' R) : RowAt K H2 R S xs := by
  obtain ⟨i, st, c, h1, hs, _⟩ := h
  obtain ⟨i', st', c', h1', _, h3⟩ := h2
  exact ⟨i', st', c', by rw [e]; exact h1', seqL_chg h1 hs ch, h3⟩
section
variable {K : PySem.W.Frag} {T : List NTab} {R S : Addr} {xs : List Int} {env : List (Option Sl)} {σ : L2.St} {H H' : Hp}
theorem LC.ext (c : LC K T R S xs env σ H) (s : ExtN H H') (t : TabsN T H') : LC K T R S xs env σ H' := ⟨c.ev.ts (ExtN.dp s), c.row.ext s, t⟩
theorem LC.same (c : LC K T R S xs env σ H) (s : Same H H') : LC K T R S xs env σ H' := c.ext (ExtN.of s) (TabsN.ext c.tab s)
theorem LC.chg (c : LC K T R S xs env σ H) (s : Chg R H H') (r : RowAt K H' R S xs) : LC K T R S xs env σ H' := by
  obtain ⟨l, hl⟩ := c.row.lst
  exact ⟨c.ev.ts (s.tsame hl), r, TabsN.chg c.tab s hl⟩
/-- another list changes -/
theorem LC.other (c : LC K T R S xs env σ H) {D : Addr} {l : List V} (s : Chg D H H') (hD : H D = some (.lst l)) (n : D ≠ R) (nS : ∀ i st c', H R = some (.lst (rowL S i st c')) → SqL K H S (xs.map V.int) → SqL K H' S (xs.map V.int)) : LC K T R S xs env σ H' := by
  obtain ⟨i, st, c', h1, h2, h3⟩ := c.row
  exact ⟨c.ev.ts (s.tsame hD), ⟨i, st, c', s _ _ h1 n.symm, nS _ _ _ h1 h2, h3⟩, TabsN.chg c.tab s hD⟩
theorem LC.set (c : LC K T R S xs env σ H) {i : Nat} {v : V} {d : PyData} (hd : Dp K H v d) (f : flatD d = true := by first | rfl | exact Ex.flat _) (hi : i < env.length := by exact Nat.le_of_ble_eq_true rfl) : LC K T R S xs (env.set i (some (.d d))) (σ.set i (some v)) H := ⟨c.ev.set hd f hi, c.row, c.tab⟩
theorem LC.setV (c : LC K T R S xs env σ H) {i : Nat} {v : V} (hi : i < env.length := by exact Nat.le_of_ble_eq_true rfl) : LC K T R S xs (env.set i (some (.v v))) (σ.set i (some v)) H := ⟨c.ev.setV hi, c.row, c.tab⟩
theorem LC.unset (c : LC K T R S xs env σ H) {i : Nat} {x : Option V} : LC K T R S xs (env.set i none) (σ.set i x) H := ⟨c.ev.unset, c.row, c.tab⟩
theorem LC.keep (c : LC K T R S xs env σ H) (k : Nat) : LC K T R S xs (env.take k ++ List.replicate (env.length - k) none) σ H := ⟨c.ev.keep k, c.row, c.tab⟩
theorem LC.sub {env' : List (Option Sl)} (c : LC K T R S xs env σ H) (h : Sub env env') : LC K T R S xs env' σ H := ⟨c.ev.sub h, c.row, c.tab⟩
/-- x = e, e builds data -/
theorem lc_asg {te : TE} {i : Nat} {d : PyData} {D : Ends} (a : MkE K env te d) (c : LC K T R S xs env σ H) (k : ∀ σ' H', Same H H' → LC K T R S xs (env.set i (some (.d d))) σ' H' → D.nx σ' H') (f : flatD d = true := by first | rfl | exact Ex.flat _) (hi : i < env.length := by exact Nat.le_of_ble_eq_true rfl) : tAsg te (gName i) D σ H :=
  a.run σ H _ c.ev fun v H1 s1 h1 => k _ H1 s1 ((c.same s1).set h1 f hi)
theorem lc_seq {te : TE} {i : Nat} {d : PyData} {D : Ends} {t2 : TS} (a : MkE K env te d) (c : LC K T R S xs env σ H) (k : ∀ σ' H', Same H H' → LC K T R S xs (env.set i (some (.d d))) σ' H' → t2 D σ' H') (f : flatD d = true := by first | rfl | exact Ex.flat _) (hi : i < env.length := by exact Nat.le_of_ble_eq_true rfl) : tSeq (tAsg te (gName i)) t2 D σ H :=
  lc_asg (D := { D with nx := t2 D }) a c k f hi
/-- x, y = e1, e2 -/
theorem lc_par {t1 t2 : TE} {i j : Nat} {d1 d2 : PyData} {D : Ends} (a : MkE K env t1 d1) (b : MkE K env t2 d2) (c : LC K T R S xs env σ H)
    (k : ∀ σ' H', Same H H' → LC K T R S xs ((env.set i (some (.d d1))).set j (some (.d d2))) σ' H' → D.nx σ' H') (f1 : flatD d1 = true := by first | rfl | exact Ex.flat _) (f2 : flatD d2 = true := by first | rfl | exact Ex.flat _) (hi : i < env.length := by exact Nat.le_of_ble_eq_true rfl) (hj : j < env.length := by exact Nat.le_of_ble_eq_true rfl) : tPar i j (tCons t1 (tCons t2 tNil)) D σ H :=
  a.run σ H _ c.ev fun v H1 s1 h1 => b.run σ H1 _ (c.ev.same s1) fun u H2 s2 h2 => ⟨v, u, rfl, k _ H2 (s1.trans s2) (((c.same (s1.trans s2)).set (Dp.same s2 _ _ h1) f1 hi).set h2 f2 (by rw [List.length_set]; exact hj))⟩
theorem lc_parS {t1 t2 : TE} {i j : Nat} {d1 d2 : PyData} {D : Ends} {t3 : TS} (a : MkE K env t1 d1) (b : MkE K env t2 d2) (c : LC K T R S xs env σ H)
    (k : ∀ σ' H', Same H H' → LC K T R S xs ((env.set i (some (.d d1))).set j (some (.d d2))) σ' H' → t3 D σ' H') (f1 : flatD d1 = true := by first | rfl | exact Ex.flat _) (f2 : flatD d2 = true := by first | rfl | exact Ex.flat _) (hi : i < env.length := by exact Nat.le_of_ble_eq_true rfl) (hj : j < env.length := by exact Nat.le_of_ble_eq_true rfl) : tSeq (tPar i j (tCons t1 (tCons t2 tNil))) t3 D σ H :=
  lc_par (D := { D with nx := t3 D }) a b c k f1 f2 hi hj
/-- a draw -/
theorem lc_draw {t1 t2 : TE} {many : Int} {Q : VK} (c : LC K T R S xs env σ H) (h1 : ∀ H' Q, LC K T R S xs env σ H' → Q (.ref R) H' → t1 σ H' Q) (h2 : ∀ H' Q, LC K T R S xs env σ H' → Q (.int many) H' → t2 σ H' Q) (h0 : 0 < many) (hm : many < 1000000)
    (k : ∀ r H', Chg R H H' → LC K T R S xs env σ H' → 0 ≤ r → r < many → Q (.int r) H') : tCall (spTaken K) [] E0 (tCons t1 (tCons t2 tNil)) σ H Q :=
  h1 H _ c (h2 H _ c ⟨R, S, xs, many, rfl, c.row, h0, hm, fun H' r ch row r0 r1 => k r H' ch (c.chg ch row) r0 r1⟩)
theorem lc_row {i : Nat} (h : env[i]? = some (some (.v (.ref R)))) : ∀ H' Q, LC K T R S xs env σ H' → Q (.ref R) H' → tVar i σ H' Q := fun H' Q c q => ⟨_, c.ev.val i _ h, q⟩
theorem lc_get {i : Nat} {d : PyData} {Q : VK} (c : LC K T R S xs env σ H) (h : env[i]? = some (some (.d d))) (k : ∀ v, Dp K H v d → Q v H) : tVar i σ H Q := by
  obtain ⟨_, v, h1, h2⟩ := c.ev.dat i d h
  exact ⟨v, h1, k v h2⟩
theorem LC.int {i : Nat} {n : Int} (c : LC K T R S xs env σ H) (h : env[i]? = some (some (.d (.int n)))) : σ[i]? = some (some (.int n)) := by
  obtain ⟨_, v, h1, h2⟩ := c.ev.dat i _ h
  cases h2
  exact h1
theorem lc_getI {i : Nat} {n : Int} {Q : VK} (c : LC K T R S xs env σ H) (h : env[i]? = some (some (.d (.int n)))) (k : Q (.int n) H) : tVar i σ H Q :=
  lc_get c h fun v hv => by
    cases hv
    exact k
theorem lc_int {m : Int} : ∀ H' (Q : VK), LC K T R S xs env σ H' → Q (.int m) H' → tC (.int m) σ H' Q := fun H' Q c q => q
/-- [taken(row, many) for k in range(n)] -/
theorem lc_draws {i1 k n : Nat} {many : Int} {Qd : Hp → Prop} {D : Addr} (c : LC K T R S xs env σ H) (hD : H D = none) (hr : (env.set k none)[i1]? = some (some (.v (.ref R)))) (hr2 : i1 ≠ k) (h0 : 0 < many) (hm : many < 1000000) (hn : n < 1000)
    (kk : ∀ (rs : List Int) H', Chg R H H' → LC K T R S xs env σ H' → rs.length = n → (∀ r ∈ rs, 0 ≤ r ∧ r < many) → D ≠ R → H' D = some (.lst (rs.map V.int)) → Qd H') :
    ∃ W : Nat → Nat → Hp → Prop, (∃ m, W 0 m (upd H D (.lst []))) ∧ ∀ i m H, W i m H →
      ((Itr 0 n).stop i H ∧ Qd H) ∨ ((Itr 0 n).go i H ∧ ∃ Nx : Hp → Prop, (∀ H', Nx H' → ∃ m', m' < m ∧ W (i + 1) m' H') ∧ ∀ x H', (Itr 0 n).yld i H x H' → gName k x (wipe σ [k]) H' fun σ2 H2 => wipe σ2 [k] = wipe σ [k] ∧ tYes σ2 H2 fun b H3 =>
        if b = true then tCall (spTaken K) [] E0 (tCons (tVar i1) (tCons (tC (.int many)) tNil)) σ2 H3 fun y H4 => ∃ acc, H4 D = some (.lst acc) ∧ acc.length < sizeLine ∧ Nx (upd H4 D (.lst (acc ++ [y]))) else Nx H3) := by
  have hDR : D ≠ R := fun z => by
    obtain ⟨l, hl⟩ := c.row.lst
    rw [z, hl] at hD
    cases hD
  refine lc_ex (walk_range (lo := 0) (n := n)) (Nat.lt_of_lt_of_le hn (by decide)) (fun i acc H' => Chg R H H' ∧ RowAt K H' R S xs ∧ ∃ rs : List Int, acc = rs.map V.int ∧ ∀ r ∈ rs, 0 ≤ r ∧ r < many)
    ⟨Chg.of (Same.new hD), c.row.ext (ExtN.of (Same.new hD)), [], rfl, by simp⟩ (fun _ _ _ _ _ => trivial) ?_ ?_ gName_mono
  · rintro j acc x H2 H3 Q2 hj hacc ⟨ch, row2, rs, rfl, hrs⟩ hlD ⟨rfl, rfl⟩ k2
    have e2 : Ev K ((env.set k none).set k none) ((σ.set k none).set k (some (.int (0 + (j : Int))))) H := c.ev.unset.unset
    have hv : ((σ.set k none).set k (some (V.int (0 + (j : Int)))))[i1]? = some (some (.ref R)) := e2.val i1 _ (by rw [List.getElem?_set_ne hr2.symm]; exact hr)
    refine ⟨?_, .ref R, hv, R, S, xs, many, rfl, row2, h0, hm, fun H4 r ch4 row4 r0 r1 => ?_⟩
    · show ((σ.set k none).set k (some (V.int (0 + (j : Int))))).set k none = σ.set k none
      rw [List.set_set, List.set_set]
    have hlD4 := ch4 _ _ hlD hDR
    have chA : Chg R H (upd H4 D (.lst (rs.map V.int ++ [.int r]))) := fun b o hb nb => by
      rw [upd_ne (ne_of_none hb hD)]
      exact ch4 _ _ (ch _ _ hb nb) nb
    refine k2 _ _ hlD4 ⟨chA, c.row.re row4 chA (by rw [upd_ne hDR.symm]), rs ++ [r], by rw [List.map_append]; rfl, fun y hy => ?_⟩
    rcases List.mem_append.mp hy with h | h
    · exact hrs y h
    · rw [List.mem_singleton.mp h]
      exact ⟨r0, r1⟩
  · rintro acc H2 ⟨ch, row2, rs, rfl, hrs⟩ hlD hacc
    rw [List.length_map] at hacc
    exact kk rs H2 ch (c.chg ch row2) hacc hrs hDR hlD
end
theorem ev_start {K : PySem.W.Frag} {H : Hp} (vs : List V) (n : Nat) : Ev K (vs.map (fun v => some (Sl.v v)) ++ List.replicate n none) (vs.map some ++ List.replicate n none) H := by
  refine ⟨by simp, fun i d h => ?_, fun i v h => ?_⟩
  · rw [List.getElem?_append] at h
    split at h
    · rw [List.getElem?_map] at h
      cases e : vs[i]? with
      | none => rw [e] at h; cases h
      | some v => rw [e] at h; cases h
    · rw [List.getElem?_replicate] at h
      split at h <;> cases h
  · rw [List.getElem?_append] at h
    split at h
    · rename_i hlt
      rw [List.getElem?_map] at h
      cases e : vs[i]? with
      | none => rw [e] at h; cases h
      | some v' =>
        rw [e] at h
        cases h
        rw [List.getElem?_append_left (by rw [List.length_map]; rw [List.length_map] at hlt; exact hlt), List.getElem?_map, e]
        rfl
    · rw [List.getElem?_replicate] at h
      split at h <;> cases h
/-- behind row = [script, 0, 0, 0] -/
theorem lc_start {K : PySem.W.Frag} {T : List NTab} {R S : Addr} {xs : List Int} {H : Hp} (n : Nat) (hS : SqL K H S (xs.map V.int)) (hx : xs.length ≤ sizeLine) (hT : TabsN T H) (hR : H R = none) :
    LC K T R S xs (some (.v (.ref S)) :: some (.v (.ref R)) :: List.replicate n none) (some (.ref S) :: some (.ref R) :: List.replicate n none) (upd H R (.lst [.ref S, .int 0, .int 0, .int 0])) := by
  have s0 := Same.new (o := .lst (rowL S 0 0 0)) hR
  exact ⟨ev_start [.ref S, .ref R] n, ⟨0, 0, 0, upd_same, Same.seq s0 hS, hx, by decide, by decide, by decide⟩, TabsN.ext hT s0⟩
/-- an expression that builds data, within a law -/
theorem lc_mk {K : PySem.W.Frag} {T : List NTab} {R S : Addr} {xs : List Int} {env : List (Option Sl)} {σ : L2.St} {H : Hp} {te : TE} {d : PyData} {Q : VK} (c : LC K T R S xs env σ H) (a : MkE K env te d) (k : ∀ v H', Same H H' → LC K T R S xs env σ H' → Dp K H' v d → Q v H') : te σ H Q :=
  a.run σ H _ c.ev fun v H' s hd => k v H' s (c.same s) hd
theorem lc_mkc {K : PySem.W.Frag} {T : List NTab} {R S : Addr} {xs : List Int} {env : List (Option Sl)} {σ : L2.St} {H : Hp} {te : TE} {d : PyData} {Q : List V → Hp → Prop} (c : LC K T R S xs env σ H) (a : MkE K env te d) (k : ∀ v H', Same H H' → LC K T R S xs env σ H' → Dp K H' v d → Q [v] H') : tCons te tNil σ H Q :=
  a.run σ H _ c.ev fun v H' s hd => k v H' s (c.same s) hd
/-- [e for x in t], t a tuple of data, e builds data -/
theorem ev_compT {K : PySem.W.Frag} {env : List (Option Sl)} {σ : L2.St} {H : Hp} {k : Nat} {q D : Addr} {xs : List V} {dx : List PyData} {f : Nat → PyData} {te : TE} {Qd : Hp → Prop} (e : Ev K env σ H) (hq : SqT K H q xs) (hdx : DpAll K H xs dx) (hfx : ∀ d ∈ dx, flatD d = true) (hf : ∀ i d, dx[i]? = some d → MkE K ((env.set k none).set k (some (.d d))) te (f i))
    (hff : ∀ i, i < dx.length → flatD (f i) = true) (hk : k < env.length) (hn : xs.length ≤ 1000) (hD : H D = none) (kk : ∀ acc H', Same H H' → H' D = some (.lst acc) → DpAll K H' acc ((List.range dx.length).map f) → Qd H') :
    ∃ W : Nat → Nat → Hp → Prop, (∃ m, W 0 m (upd H D (.lst []))) ∧ ∀ i m H, W i m H →
      ((Itt K q).stop i H ∧ Qd H) ∨ ((Itt K q).go i H ∧ ∃ Nx : Hp → Prop, (∀ H', Nx H' → ∃ m', m' < m ∧ W (i + 1) m' H') ∧ ∀ x H', (Itt K q).yld i H x H' → gName k x (wipe σ [k]) H' fun σ2 H2 => wipe σ2 [k] = wipe σ [k] ∧ tYes σ2 H2 fun b H3 =>
        if b = true then te σ2 H3 fun y H4 => ∃ acc, H4 D = some (.lst acc) ∧ acc.length < sizeLine ∧ Nx (upd H4 D (.lst (acc ++ [y]))) else Nx H3) := by
  have lx := DpAll.length hdx
  refine lc_ex (walk_tup (K := K) (a := q) (xs := xs)) (Nat.lt_of_le_of_lt hn (by decide)) (fun i acc H' => Same H H' ∧ DpAll K H' acc ((List.range i).map f)) ⟨Same.new hD, .nil⟩ (fun i acc H' r _ => Same.seqT r.1 hq) ?_ ?_ gName_mono
  · rintro i acc x H2 H3 Q2 hi hacc ⟨s2, hes⟩ hlD ⟨rfl, hx⟩ k2
    obtain ⟨d, hd, hp⟩ := DpAll.get hdx hx
    have e3 : Ev K ((env.set k none).set k (some (.d d))) ((wipe σ [k]).set k (some x)) H3 := (e.same s2).unset.set (Dp.same s2 _ _ hp) (hfx d (List.mem_of_getElem? hd)) (by rw [List.length_set]; exact hk)
    refine ⟨?_, (hf i d hd).run _ _ _ e3 fun y H4 s4 hy => ?_⟩
    · show ((σ.set k none).set k (some x)).set k none = σ.set k none
      rw [List.set_set, List.set_set]
    have mu : TSame H4 (upd H4 D (.lst (acc ++ [y]))) := TSame.mut (s4 _ _ hlD) trivial
    refine k2 y H4 (s4 _ _ hlD) ⟨Same.over (s2.trans s4) hD, ?_⟩
    rw [List.range_succ, List.map_append]
    refine DpAll.append (DpAll.tsame mu _ _ ?_ (DpAll.same s4 _ _ hes)) (.cons (Dp.tsame mu _ _ (hff i (by omega)) hy) .nil)
    have : ∀ l : List Nat, (∀ j ∈ l, j < dx.length) → flatDL (l.map f) = true := by
      intro l
      induction l with
      | nil => intro _; rfl
      | cons j l ih => intro hl; rw [List.map_cons, flatDL, hff j (hl j (by simp)), ih fun z hz => hl z (by simp [hz])]; rfl
    exact this _ fun j hj => by
      have := List.mem_range.mp hj
      omega
  · rintro acc H2 ⟨s2, hes⟩ hlD hacc
    rw [lx] at hes
    exact kk acc H2 s2 hlD hes
end Lw
set_option Elab.async false
set_option linter.all false
set_option maxRecDepth 100000
set_option maxHeartbeats 4000000
namespace Lw
open PySem PySem.Spec PyProof.Rows L2 RZ NdefX LamX
/-! ### defs that most laws share: the parts of an expression, how many there are -/
def firstK : List (Key × V) := [(Sum.inr "let", .int 2), (Sum.inr "fun", .int 3), (Sum.inr "rec", .int 5)]
def Wd.first : Wd → Nat
  | .lt => 2 | .fn => 3 | .rc => 5 | _ => 1
theorem firstK_w (w : Wd) : (valV (mergeK [] firstK) (Sum.inr w.s)).getD (.int 1) = .int (w.first : Nat) := by cases w <;> decide +kernel
def spMany (K : PySem.W.Frag) (n : Nat) : Sp := fun vs H Q _ => ∃ (v : V) (e : Ex), vs = [v] ∧ Dp K H v e.d ∧ e.ok = true ∧ e.dep < n ∧ ∀ H', Same H H' → Q (.int (e.size : Nat)) H'
theorem depL_mem : ∀ {es : List Ex} {e : Ex}, e ∈ es → e.dep + 1 ≤ Ex.depL es
  | x :: r, e, h => by
    rw [Ex.depL]
    rcases List.mem_cons.mp h with rfl | h
    · omega
    · have := depL_mem h
      omega
theorem sizeL_sum : ∀ es : List Ex, Ex.sizeL es = (es.map Ex.size).sum
  | [] => rfl
  | e :: r => by rw [Ex.sizeL, sizeL_sum r]; rfl
theorem sum_cast : ∀ l : List Nat, (l.map fun n => ((n : Nat) : Int)).sum = ((l.sum : Nat) : Int)
  | [] => rfl
  | n :: l => by rw [List.map_cons, List.sum_cons, sum_cast l, List.sum_cons]; omega
section
variable {P : Program} {w : World} {K : PySem.W.Frag} {mg : Str → Option Value} {base : Heap} {dF dK dL dB : Addr}
abbrev ns_law_parts : List Str := ["_law_e", "_law_first"]
theorem sc_law_parts : FnScope ns_law_parts ["_law_e"] (defScope s_law_parts) := ⟨rfl, rfl, rfl, by decide +kernel, rfl, by decide +kernel, by decide +kernel⟩
theorem ok_law_parts {f : Addr} {fd : FuncData} (F : Fun K "_law_parts" "_law_parts" s_law_parts f fd) (C : Cst K w mg dF dK dL dB) : FnOk P w K mg base CX0 1 f fd ["_law_e"] (spParts K) := by
  refine F.ok sc_law_parts (fun vs H Q E h => ?_) (fun cdv A outer s H vs Q E hr h => ?_)
  · obtain ⟨w, a, ns, kvs, evs, rfl, _⟩ := h
    rfl
  · obtain ⟨w, a, ns, kvs, evs, rfl, ⟨hsq, ar⟩, k⟩ := h
    refine ⟨_, (pss_cons (ps_set (i := 1) sc_law_parts.nd rfl (Or.inl rfl) (pe_dget2 (hu_of hr) (pe_disp (pps_cons pe_str pe_int (pps_cons pe_str pe_int (pps_cons pe_str pe_int pps_nil))) (by rfl) (by rfl) (fun z => by cases z) (by decide)) (pe_ix ix_tup (pv 0) (pe_int) (fun _ _ => rfl)) (pe_int) ⟨rfl, rfl, rfl, rfl⟩)) (pss_one (ps_ret (pe_ifExp (pt_cmpR op_notIn_seq (pe_ix ix_tup (pv 0) (pe_int) (fun _ _ => rfl)) (pe_tup (pa_cons (pe_str) (pa_cons (pe_str) (pa_nil)))) (by rfl)) (pe_callTy call_list_of (by rfl) C.list boot_list (pa_cons (pe_slice sl_tupU (pv 0) (po_some (pv 1)) po_none) (pa_nil))) (pe_lst (pa_nil)))))), ?_⟩
    refine fun pd hpd => ⟨upd_same, firstK, rfl, by show 3 ≤ 15; decide, ?_⟩
    have s1 : Same H (upd (upd H pd (.dK [])) pd (.dK (mergeK [] firstK))) := Same.over (Same.new hpd) hpd
    have hpd1 : (upd (upd H pd (.dK [])) pd (.dK (mergeK [] firstK))) pd = some (.dK (mergeK [] firstK)) := upd_same
    generalize upd (upd H pd (.dK [])) pd (.dK (mergeK [] firstK)) = H1 at s1 hpd1
    have hsq1 := Same.seqT s1 hsq
    refine ⟨pd, rfl, .inl ⟨_, .inl hpd1⟩, _, rfl, _, _, _, _, rfl, rfl, hsq1, at_of (j := 0) rfl rfl, _, DGet.k (k := Sum.inr w.s) hpd1, ?_⟩
    rw [firstK_w]
    refine ⟨_, rfl, _, _, _, _, rfl, rfl, hsq1, at_of (j := 0) rfl rfl, by show 2 ≤ sizeLine; decide, fun t ht => ?_⟩
    have s2 : Same H1 (upd H1 t (.tup [.str "num", .str "name"])) := Same.new ht
    have ht2 : (upd H1 t (.tup [.str "num", .str "name"])) t = some (.tup [.str "num", .str "name"]) := upd_same
    generalize upd H1 t (.tup [.str "num", .str "name"]) = H2 at s2 ht2
    have s12 := s1.trans s2
    refine ⟨_, _, rfl, .inr (SqT.of ht2), rfl, rfl, _, rfl, ?_⟩
    have hin : inV (V.str w.s) [.str "num", .str "name"] = decide (w = .num ∨ w = .name) := by cases w <;> decide +kernel
    rw [if_pos rfl, hin]
    by_cases hw : w = .num ∨ w = .name
    · rw [decide_eq_true hw]
      refine iteF ⟨by show 0 ≤ sizeLine; decide, fun D hD => ?_⟩
      have : evs = [] := by
        rcases hw with rfl | rfl <;> · simp only [Wd.ar, Prod.mk.injEq] at ar; exact len0 ar.2.2
      rw [this] at k
      exact k _ D (s12.trans (Same.new hD)) (s12.free hD) upd_same
    · rw [decide_eq_false hw]
      refine iteT ⟨_, rfl, _, rfl, _, rfl, _, _, rfl, Same.seqT s12 hsq, fun q H3 s3 hq => ⟨q, _, rfl, .inr hq, fun l hl => ?_⟩⟩
      have ecut : cutV (.str w.s :: (ns ++ (kvs ++ evs))) (some ((w.first : Nat) : Int)) none = evs := by
        rw [cut_nat]
        have hl : ns.length + kvs.length + 1 = w.first := by
          cases w <;> simp only [Wd.ar, Prod.mk.injEq] at ar <;> simp only [Wd.first] <;> first | omega | exact absurd (.inl rfl) hw | exact absurd (.inr rfl) hw
        rw [← hl, List.drop_succ_cons, ← List.append_assoc, ← List.length_append, List.drop_left]
      rw [ecut]
      exact k _ l ((s12.trans s3).trans (Same.new hl)) ((s12.trans s3).free hl) upd_same
abbrev ns_law_many : List Str := ["_law_e", "_law_part"]
theorem sc_law_many : FnScope ns_law_many ["_law_e"] (defScope s_law_many) := ⟨rfl, rfl, rfl, by decide +kernel, rfl, by decide +kernel, by decide +kernel⟩
theorem ok_law_many (a : At0 K mg "_law_many" "_law_many" s_law_many ["_law_e"]) (hsum : mg "sum" = none) (GP : Dfn P w K mg base "_law_parts" 1 ["_law_e"] (spParts K)) : ∀ n, Dfn P w K mg base "_law_many" (n + 1) ["_law_e"] (spMany K n)
  | 0 => (Dfn.never a fun vs H Q E ⟨v, e, _, _, _, h, _⟩ => absurd h (Nat.not_lt_zero _)).mono (Nat.zero_le _)
  | n + 1 => .of a fun f fd F => by
    have G := ok_law_many a hsum GP n
    refine F.ok sc_law_many (fun vs H Q E h => ?_) (fun cdv A outer s H vs Q E hr h => ?_)
    · obtain ⟨v, e, rfl, _⟩ := h
      rfl
    · obtain ⟨v, e, rfl, hd, ok, hdep, k⟩ := h
      have hr1 : Room 1 _ := hr.mono (by omega)
      refine ⟨_, (pss_one (ps_ret (pe_op op_add (pe_int) (pe_callB (cr_sum rfl) (by rfl) hsum boot_sum (pa_cons (pe_lc (own := [("_law_part", 1)]) (g := gName 1) (tt := tYes) rfl sc_law_many.nd (pi_list (pe_callD GP hr1 (by rfl) (pa_cons (pv 0) (pa_nil)))) (blkOk_by (N := ns_law_many) (sc := defScope s_law_many) (by decide +kernel)) (fun _ _ _ _ _ => pg_name (i := 1) sc_law_many.nd rfl (Or.inl rfl)) (fun _ _ _ _ _ => pts_nil) (fun _ _ _ _ _ => pe_callD G hr (by rfl) (pa_cons (pv 1) (pa_nil)))) (pa_nil)))))), ?_⟩
      obtain ⟨a', kvs, evs, rfl, hn⟩ := node_of hd
      have hv := hn.v ok
      refine ⟨_, rfl, e.w, a', _, kvs, evs, rfl, hv, fun H1 L s1 hL hl => ?_⟩
      refine ⟨L, rfl, ⟨_, SqL.of hl⟩, fun D hD => ?_⟩
      have les : evs.length = e.es.length := by rw [DpAll.length hn.es, Ex.dL_eq, List.length_map]
      have hes3 : e.es.length ≤ 3 := by
        have ar := hv.ar
        rw [← les]
        generalize e.w = ww at ar
        cases ww <;> simp only [Wd.ar, Prod.mk.injEq] at ar <;> omega
      have okes : ∀ x ∈ e.es, x.ok = true := by
        cases e with
        | node w ns ks es =>
          rw [Ex.ok, Bool.and_eq_true] at ok
          exact Ex.okL_iff.mp ok.2
      refine lc_gen walk_list ((e.es.map fun x => ((x.size : Nat) : Int)).map V.int) (by simp [les]) (Nat.lt_of_le_of_lt (show ((e.es.map fun x => ((x.size : Nat) : Int)).map V.int).length ≤ 3 by simpa using hes3) (by decide)) (fun i H' => Same H1 H') (Same.new hD) (fun i H' r => SqL.of (r _ _ hl)) ?_ ?_ ?_ gName_mono
      · intro i H' l s2
        exact Same.over s2 hD
      · rintro i x y H' H2 Q2 hi hy s2 hlD ⟨rfl, hx⟩ k2
        obtain ⟨dd, hdd, hp⟩ := DpAll.get hn.es hx
        rw [Ex.dL_eq, List.getElem?_map] at hdd
        rw [List.getElem?_map, List.getElem?_map] at hy
        cases ea : e.es[i]? with
        | none => rw [ea] at hdd; cases hdd
        | some ea' =>
          rw [ea] at hdd hy
          cases hdd
          cases hy
          have hmem := List.mem_of_getElem? ea
          have hdp : ea'.dep < n := by
            have h1 := depL_mem hmem
            have h2 : e.dep = Ex.depL e.es := by cases e; rfl
            omega
          exact ⟨rfl, _, rfl, x, ea', rfl, Dp.same (s1.trans s2) _ _ hp, okes _ hmem, hdp, fun H3 s3 => k2 H3 (s2.trans s3) (s3 _ _ hlD)⟩
      · intro H' s2 hlD
        refine ⟨D, _, rfl, SqL.of hlD, _, _, rfl, rfl, ?_⟩
        have esz : (1 : Int) + (e.es.map fun x => ((x.size : Nat) : Int)).sum = (e.size : Nat) := by
          have h1 : e.size = 1 + Ex.sizeL e.es := by cases e; rfl
          have h2 : (e.es.map fun x => ((x.size : Nat) : Int)) = (e.es.map Ex.size).map fun n => ((n : Nat) : Int) := by rw [List.map_map]; rfl
          rw [h1, sizeL_sum, h2, sum_cast]
          omega
        show Q (.int ((1 : Int) + (e.es.map fun x => ((x.size : Nat) : Int)).sum)) H'
        rw [esz]
        exact k H' (s1.trans s2)
end
end Lw
set_option Elab.async false
set_option linter.all false
set_option maxRecDepth 100000
set_option maxHeartbeats 4000000
namespace Lw
open PySem PySem.Spec PyProof.Rows L2 RZ NdefX LamX
inductive Sm : Nat → Ex → Prop
  | num {d : Nat} {n : Int} : 0 ≤ n → n < 50 → Sm d (.node .num [n] [] [])
  | name {d : Nat} : Sm d (.node .name [0] [] [])
  | plus {d : Nat} {a b : Ex} : Sm d a → Sm d b → Sm (d + 1) (.node .plus [] [] [a, b])
  | times {d : Nat} {a b : Ex} : Sm d a → Sm d b → Sm (d + 1) (.node .times [] [] [a, b])
  | ite {d : Nat} {a b c : Ex} : Sm d a → Sm d b → Sm d c → Sm (d + 1) (.node .ite [] [] [a, b, c])
theorem Sm.ok {d : Nat} {e : Ex} (h : Sm d e) : e.ok = true := by
  induction h with
  | num _ _ => rfl
  | name => rfl
  | plus _ _ h1 h2 => simp [Ex.ok, Ex.okL, h1, h2, Wd.ar]
  | times _ _ h1 h2 => simp [Ex.ok, Ex.okL, h1, h2, Wd.ar]
  | ite _ _ _ h1 h2 h3 => simp [Ex.ok, Ex.okL, h1, h2, h3, Wd.ar]
theorem Sm.dep {d : Nat} {e : Ex} (h : Sm d e) : e.dep ≤ d := by
  induction h with
  | num _ _ => exact Nat.zero_le _
  | name => exact Nat.zero_le _
  | plus _ _ h1 h2 => simp only [Ex.dep, Ex.depL]; omega
  | times _ _ h1 h2 => simp only [Ex.dep, Ex.depL]; omega
  | ite _ _ _ h1 h2 h3 => simp only [Ex.dep, Ex.depL]; omega
def spSumOf (K : PySem.W.Frag) (n : Nat) : Sp := fun vs H Q _ => ∃ (R S : Addr) (xs : List Int) (d : Nat), vs = [.ref R, .int (d : Nat)] ∧ RowAt K H R S xs ∧ d + 1 < n ∧ ∀ H' v e, Chg R H H' → RowAt K H' R S xs → Sm d e → Dp K H' v e.d → Q v H'
theorem tabs_nil {H : Hp} : TabsN [] H := fun p hp => nomatch hp
section
variable {P : Program} {w : World} {K : PySem.W.Frag} {mg : Str → Option Value} {base : Heap} {dF dK dL dB : Addr}
abbrev ns_law_sum_of : List Str := ["_law_row", "_law_deep", "_law_way", "_law_turn"]
theorem sc_law_sum_of : FnScope ns_law_sum_of ["_law_row", "_law_deep"] (defScope s_law_sum_of) := ⟨rfl, rfl, rfl, by decide +kernel, rfl, by decide +kernel, by decide +kernel⟩
theorem ok_sum_of (a : At0 K mg "_law_sum_of" "_law_sum_of" s_law_sum_of ["_law_row", "_law_deep"]) (C : Cst K w mg dF dK dL dB) (GT : Dfn P w K mg base "_law_taken" 1 psTk (spTaken K)) : ∀ n, Dfn P w K mg base "_law_sum_of" (n + 1) ["_law_row", "_law_deep"] (spSumOf K (n + 1))
  | 0 => (Dfn.never a fun vs H Q E ⟨R, S, xs, d, _, _, h, _⟩ => absurd h (by omega)).mono (Nat.zero_le _)
  | n + 1 => .of a fun f fd F => by
    have G := ok_sum_of a C GT n
    refine F.ok sc_law_sum_of (fun vs H Q E h => ?_) (fun cdv A outer s H vs Q E hr h => ?_)
    · obtain ⟨R, S, xs, d, rfl, _⟩ := h
      rfl
    · obtain ⟨R, S, xs, d, rfl, row, hd, k⟩ := h
      have hr1 : Room 1 _ := hr.mono (by omega)
      refine ⟨_, (C8.pss_cut (ps_set (i := 2) sc_law_sum_of.nd rfl (Or.inl rfl) (pe_ifExp (pt_cmpR op_gt (pv 1) (pe_int) (nomark _)) (pe_callD GT hr1 (by rfl) (pa_cons (pv 0) (pa_cons (pe_int) (pa_nil)))) (pe_callD GT hr1 (by rfl) (pa_cons (pv 0) (pa_cons (pe_int) (pa_nil)))))) (pss_cons (ps_if (pt_cmpR op_lt (pv 2) (pe_int) (nomark _))
  (pss_one (ps_ret (pe_ifExp (pt_cmpR op_eq (pv 2) (pe_int) (nomark _)) (pe_tup (pa_cons (pe_str) (pa_cons (pe_callD GT hr1 (by rfl) (pa_cons (pv 0) (pa_cons (pe_int) (pa_nil)))) (pa_nil)))) (pe_tup (pa_cons (pe_str) (pa_cons (pe_int) (pa_nil)))))))
  pss_nil) (pss_cons (ps_if (pt_cmpR op_lt (pv 2) (pe_int) (nomark _))
  (pss_one (ps_ret (pe_tup (pa_cons (pe_ix ix_list (pe_lst (pa_cons (pe_str) (pa_cons (pe_str) (pa_cons (pe_str) (pa_nil))))) (pe_op op_sub (pv 2) (pe_int)) (fun _ _ => rfl)) (pa_cons (pe_callD G hr (by rfl) (pa_cons (pv 0) (pa_cons (pe_op op_sub (pv 1) (pe_int)) (pa_nil)))) (pa_cons (pe_callD G hr (by rfl) (pa_cons (pv 0) (pa_cons (pe_op op_sub (pv 1) (pe_int)) (pa_nil)))) (pa_nil)))))))
  pss_nil) (pss_one (ps_ret (pe_op op_catU (pe_tup (pa_cons (pe_str) (pa_nil))) (pe_callTy call_tuple_of (by rfl) C.tuple boot_tuple (pa_cons (pe_lc (own := [("_law_turn", 3)]) (g := gName 3) (tt := tYes) rfl sc_law_sum_of.nd (pi_range1 (by rfl) C.range (pa_cons (pe_int) (pa_nil))) (blkOk_by (N := ns_law_sum_of) (sc := defScope s_law_sum_of) (by decide +kernel)) (fun _ _ _ _ _ => pg_name (i := 3) sc_law_sum_of.nd rfl (Or.inl rfl)) (fun _ _ _ _ _ => pts_nil) (fun _ _ _ _ _ => pe_callD G hr (by rfl) (pa_cons (pv 0) (pa_cons (pe_op op_sub (pv 1) (pe_int)) (pa_nil))))) (pa_nil))))))))), ?_⟩
      have c0 : LC K [] R S xs [some (.v (.ref R)), some (.v (.int (d : Nat))), none, none] [some (.ref R), some (.int (d : Nat)), none, none] H := ⟨ev_start [.ref R, .int (d : Nat)] 2, row, tabs_nil⟩
      refine ⟨fun σ' H' => ∃ way, Chg R H H' ∧ LC K [] R S xs [some (.v (.ref R)), some (.v (.int (d : Nat))), some (.d (.int way)), none] σ' H' ∧ 0 ≤ way ∧ (way < 2 ∨ (way < 6 ∧ 0 < d)), ?_, ?_⟩
      · refine ⟨_, rfl, _, _, rfl, rfl, _, rfl, ite2 (fun hc => ?_) (fun hc => ?_)⟩
        · have hd0 : 0 < d := by
            have := of_decide_eq_true hc
            omega
          refine lc_draw c0 (lc_row rfl) lc_int (by decide) (by decide) fun r H1 ch c1 r0 r1 => ?_
          exact ⟨r, ch, c1.set (i := 2) (Dp.int r), r0, .inr ⟨r1, hd0⟩⟩
        · refine lc_draw c0 (lc_row rfl) lc_int (by decide) (by decide) fun r H1 ch c1 r0 r1 => ?_
          exact ⟨r, ch, c1.set (i := 2) (Dp.int r), r0, .inl r1⟩
      rintro σ H1 ⟨way, ch1, c1, w0, w1⟩
      refine ⟨_, c1.int (i := 2) rfl, _, _, rfl, rfl, _, rfl, ite2 (fun hc => ?_) (fun hc => ?_)⟩
      · refine ⟨_, c1.int (i := 2) rfl, rfl, _, rfl, ite2 (fun hc2 => ?_) (fun hc2 => ?_)⟩
        · refine lc_draw c1 (lc_row rfl) lc_int (by decide) (by decide) fun r H2 ch2 c2 r0 r1 => ⟨by show 2 ≤ sizeLine; decide, fun p hp => ?_⟩
          have s3 := Same.new (o := .tup [.str ("num" : Str), .int r]) hp
          have c3 := c2.same s3
          exact k _ _ _ ((ch1.trans ch2).trans (Chg.of s3)) c3.row (.num r0 r1) (.tup (SqT.of upd_same) (.cons (.str _) (.cons (.int _) .nil)))
        · refine ⟨by show 2 ≤ sizeLine; decide, fun p hp => ?_⟩
          have s3 := Same.new (o := .tup [.str ("name" : Str), .int 0]) hp
          have c3 := c1.same s3
          exact k _ _ _ (ch1.trans (Chg.of s3)) c3.row .name (.tup (SqT.of upd_same) (.cons (.str _) (.cons (.int _) .nil)))
      have hw2 : ¬ way < 2 := fun z => hc (decide_eq_true z)
      obtain ⟨w6, hd0⟩ := w1.resolve_left hw2
      obtain ⟨d', rfl⟩ : ∃ d', d = d' + 1 := ⟨d - 1, by omega⟩
      have hdi : (((d' + 1 : Nat) : Int) - 1) = (d' : Nat) := by omega
      -- a call
      have call : ∀ {env : List (Option Sl)} {σ : L2.St} {H2 : Hp} {Q2 : VK}, LC K [] R S xs env σ H2 → env[0]? = some (some (.v (.ref R))) → env[1]? = some (some (.v (.int ((d' + 1 : Nat) : Int)))) → (∀ H' v e, Chg R H2 H' → LC K [] R S xs env σ H' → Sm d' e → Dp K H' v e.d → Q2 v H') →
          tCall (spSumOf K (n + 1)) [] E0 (tCons (tVar 0) (tCons (tOp (rI0 fun i j => .int (i - j)) (tVar 1) (tC (.int 1))) tNil)) σ H2 Q2 := by
        intro env σ H2 Q2 c h0 h1 kk
        refine ⟨_, c.ev.val 0 _ h0, _, c.ev.val 1 _ h1, _, _, rfl, rfl, ?_⟩
        show spSumOf K (n + 1) [.ref R, .int (((d' + 1 : Nat) : Int) - 1)] H2 Q2 E0
        rw [hdi]
        exact ⟨R, S, xs, d', rfl, c.row, by omega, fun H' v e ch row sm hv => kk H' v e ch (c.chg ch row) sm hv⟩
      have fl : ∀ {H2 H3 : Hp} {v : V} {e : Ex}, RowAt K H2 R S xs → Chg R H2 H3 → Dp K H2 v e.d → Dp K H3 v e.d := fun row ch hv => by
        obtain ⟨l, hl⟩ := row.lst
        exact Dp.tsame (ch.tsame hl) _ _ (Ex.flat _) hv
      refine ⟨_, c1.int (i := 2) rfl, _, _, rfl, rfl, _, rfl, ite2 (fun hc2 => ?_) (fun hc2 => ?_)⟩
      · have hw5 : way < 5 := of_decide_eq_true hc2
        refine ⟨by show 3 ≤ sizeLine; decide, fun pl hpl => ?_⟩
        have s2 := Same.new (o := .lst [.str ("plus" : Str), .str "times", .str "plus"]) hpl
        have c2 := c1.same s2
        have hpl2 : (upd H1 pl (.lst [.str ("plus" : Str), .str "times", .str "plus"])) pl = some (.lst [.str ("plus" : Str), .str "times", .str "plus"]) := upd_same
        have ch2 := ch1.trans (Chg.of s2)
        generalize upd H1 pl (.lst [.str ("plus" : Str), .str "times", .str "plus"]) = H2 at c2 hpl2 ch2
        refine ⟨_, c2.int (i := 2) rfl, _, _, rfl, rfl, ?_⟩
        obtain ⟨j, ej, hj⟩ : ∃ j : Nat, way - 2 = (j : Nat) ∧ j < 3 := ⟨(way - 2).toNat, by omega, by omega⟩
        have word : ∃ w : Wd, ([.str ("plus" : Str), .str "times", .str "plus"] : List V)[j]? = some (.str w.s) ∧ (w = .plus ∨ w = .times) := by
          match j, hj with
          | 0, _ => exact ⟨.plus, rfl, .inl rfl⟩
          | 1, _ => exact ⟨.times, rfl, .inr rfl⟩
          | 2, _ => exact ⟨.plus, rfl, .inl rfl⟩
        obtain ⟨wd, hwd, hwc⟩ := word
        refine ⟨pl, _, _, .str wd.s, rfl, rfl, SqL.of hpl2, ?_, ?_⟩
        · show atI _ (way - 2) = _
          rw [ej]
          exact at_of (j := j) rfl hwd
        refine call c2 rfl rfl fun H3 v1 e1 ch3 c3 sm1 hv1 => ?_
        refine call c3 rfl rfl fun H4 v2 e2 ch4 c4 sm2 hv2 => ⟨by show 3 ≤ sizeLine; decide, fun p hp => ?_⟩
        have s5 := Same.new (o := .tup [.str wd.s, v1, v2]) hp
        have hv1' := Dp.same s5 _ _ (fl c3.row ch4 hv1)
        have hv2' := Dp.same s5 _ _ hv2
        have c5 := c4.same s5
        have chA := ((ch2.trans ch3).trans ch4).trans (Chg.of s5)
        rcases hwc with rfl | rfl
        · exact k _ _ _ chA c5.row (.plus sm1 sm2) (.tup (SqT.of upd_same) (.cons (.str _) (.cons hv1' (.cons hv2' .nil))))
        · exact k _ _ _ chA c5.row (.times sm1 sm2) (.tup (SqT.of upd_same) (.cons (.str _) (.cons hv1' (.cons hv2' .nil))))
      -- a choice
      refine ⟨by show 1 ≤ sizeLine; decide, fun t ht => ?_⟩
      have s2 := Same.new (o := .tup [.str ("if" : Str)]) ht
      have c2 := c1.same s2
      have ht2 : (upd H1 t (.tup [.str ("if" : Str)])) t = some (.tup [.str ("if" : Str)]) := upd_same
      have ch2 := ch1.trans (Chg.of s2)
      generalize upd H1 t (.tup [.str ("if" : Str)]) = H2 at c2 ht2 ch2
      refine ⟨3, rfl, by decide, by decide, fun D hD => ?_⟩
      have hDR : D ≠ R := fun z => by
        obtain ⟨l, hl⟩ := c2.row.lst
        rw [z, hl] at hD
        cases hD
      refine lc_ex (walk_range (lo := 0) (n := 3)) (by decide) (fun i acc H' => Chg R H2 H' ∧ RowAt K H' R S xs ∧ ∃ es : List Ex, DpAll K H' acc (es.map Ex.d) ∧ ∀ e ∈ es, Sm d' e)
        ⟨Chg.of (Same.new hD), c2.row.ext (ExtN.of (Same.new hD)), [], .nil, by simp⟩ (fun _ _ _ _ _ => trivial) ?_ ?_ gName_mono
      · rintro j acc x H3 H4 Q2 hj hacc ⟨ch, row3, es, hes, hsm⟩ hlD ⟨rfl, rfl⟩ k2
        have c3 : LC K [] R S xs ((([some (.v (.ref R)), some (.v (.int ((d' + 1 : Nat) : Int))), some (.d (.int way)), none] : List (Option Sl)).set 3 none).set 3 none) ((wipe σ [3]).set 3 (some (.int (0 + (j : Int))))) H4 := ⟨(c2.chg ch row3).ev.unset.unset, row3, tabs_nil⟩
        refine ⟨?_, call c3 rfl rfl fun H5 v e ch5 c5 sm hv => ?_⟩
        · show ((wipe σ [3]).set 3 (some (V.int (0 + (j : Int))))).set 3 none = wipe σ [3]
          show ((σ.set 3 none).set 3 (some (V.int (0 + (j : Int))))).set 3 none = σ.set 3 none
          rw [List.set_set, List.set_set]
        have hlD5 := ch5 _ _ hlD hDR
        have mu : TSame H5 (upd H5 D (.lst (acc ++ [v]))) := TSame.mut hlD5 trivial
        have chA : Chg R H2 (upd H5 D (.lst (acc ++ [v]))) := fun b o hb nb => by
          rw [upd_ne (ne_of_none hb hD)]
          exact ch5 _ _ (ch _ _ hb nb) nb
        refine k2 _ _ hlD5 ⟨chA, c2.row.re c5.row chA (by rw [upd_ne hDR.symm]), es ++ [e], ?_, fun y hy => ?_⟩
        · rw [List.map_append]
          obtain ⟨l, hl⟩ := row3.lst
          refine DpAll.append (DpAll.tsame ((ch5.tsame hl).trans mu) _ _ ?_ hes) (.cons (Dp.tsame mu _ _ (Ex.flat _) hv) .nil)
          rw [← Ex.dL_eq]
          exact Ex.flatL _
        · rcases List.mem_append.mp hy with h | h
          · exact hsm y h
          · rw [List.mem_singleton.mp h]
            exact sm
      · rintro acc H3 ⟨ch, row3, es, hes, hsm⟩ hlD hacc
        have les : es.length = 3 := by rw [← hacc, DpAll.length hes, List.length_map]
        obtain ⟨e1, e2, e3, rfl⟩ : ∃ a b c, es = [a, b, c] := match es, les with | [a, b, c], _ => ⟨a, b, c, rfl⟩
        refine ⟨D, _, rfl, .inl ⟨SqL.of hlD, fun q hq => ?_⟩⟩
        have s4 := Same.new (o := .tup acc) hq
        have ht4 : SqT K (upd H3 q (.tup acc)) t [.str ("if" : Str)] := SqT.of (s4 _ _ (ch _ _ ht2 fun z => by
          obtain ⟨l, hl⟩ := c2.row.lst
          rw [z, hl] at ht2
          cases ht2))
        refine ⟨t, q, _, _, rfl, rfl, ht4, SqT.of upd_same, ?_, fun r H5 s5 hr5 => ?_⟩
        · rw [hacc]
          show 1 + 3 ≤ sizeLine
          decide
        have hes5 := DpAll.same (s4.trans s5) _ _ hes
        have c3 := (c2.chg ch row3).same (s4.trans s5)
        exact k _ _ _ ((ch2.trans ch).trans (Chg.of (s4.trans s5))) c3.row (.ite (hsm e1 (by simp)) (hsm e2 (by simp)) (hsm e3 (by simp))) (.tup hr5 (.cons (.str _) hes5))
end
end Lw
set_option Elab.async false
set_option linter.all false
set_option maxRecDepth 100000
set_option maxHeartbeats 4000000
namespace Lw
open PySem PySem.Spec PyProof.Rows L2 RZ NdefX LamX
inductive SmE where
  | num (n : Int) | name | plus (a b : SmE) | times (a b : SmE) | ite (a b c : SmE)
def SmE.ex : SmE → Ex
  | .num n => .node .num [n] [] []
  | .name => .node .name [0] [] []
  | .plus a b => .node .plus [] [] [a.ex, b.ex]
  | .times a b => .node .times [] [] [a.ex, b.ex]
  | .ite a b c => .node .ite [] [] [a.ex, b.ex, c.ex]
def SmE.dep : SmE → Nat
  | .num _ => 0
  | .name => 0
  | .plus a b => max a.dep b.dep + 1
  | .times a b => max a.dep b.dep + 1
  | .ite a b c => max a.dep (max b.dep c.dep) + 1
def SmE.good : SmE → Prop
  | .num n => 0 ≤ n ∧ n < 50
  | .name => True
  | .plus a b => a.good ∧ b.good
  | .times a b => a.good ∧ b.good
  | .ite a b c => a.good ∧ b.good ∧ c.good
def SmE.val (x : Int) : SmE → Int
  | .num n => n
  | .name => x
  | .plus a b => (a.val x + b.val x) % 1000
  | .times a b => (a.val x * b.val x) % 1000
  | .ite a b c => if a.val x = 0 then c.val x else b.val x
def SmE.fold : SmE → Ex
  | .num n => xCall (xName 10) (xNum n)
  | .name => xName 20
  | .plus a b => xCall (xCall (xName 11) a.fold) b.fold
  | .times a b => xCall (xCall (xName 12) a.fold) b.fold
  | .ite a b c => xCall (xCall (xCall (xName 13) a.fold) b.fold) c.fold
theorem Sm.to {d : Nat} {e : Ex} (h : Sm d e) : ∃ s : SmE, e = s.ex ∧ s.good ∧ s.dep ≤ d := by
  induction h with
  | num h0 h1 => exact ⟨.num _, rfl, ⟨h0, h1⟩, Nat.zero_le _⟩
  | name => exact ⟨.name, rfl, trivial, Nat.zero_le _⟩
  | plus _ _ h1 h2 =>
    obtain ⟨s1, rfl, g1, d1⟩ := h1
    obtain ⟨s2, rfl, g2, d2⟩ := h2
    exact ⟨.plus s1 s2, rfl, ⟨g1, g2⟩, by simp only [SmE.dep]; omega⟩
  | times _ _ h1 h2 =>
    obtain ⟨s1, rfl, g1, d1⟩ := h1
    obtain ⟨s2, rfl, g2, d2⟩ := h2
    exact ⟨.times s1 s2, rfl, ⟨g1, g2⟩, by simp only [SmE.dep]; omega⟩
  | ite _ _ _ h1 h2 h3 =>
    obtain ⟨s1, rfl, g1, d1⟩ := h1
    obtain ⟨s2, rfl, g2, d2⟩ := h2
    obtain ⟨s3, rfl, g3, d3⟩ := h3
    exact ⟨.ite s1 s2 s3, rfl, ⟨g1, g2, g3⟩, by simp only [SmE.dep]; omega⟩
theorem SmE.val_bd {x : Int} (hx : 0 ≤ x ∧ x < 1000) : ∀ s : SmE, s.good → 0 ≤ s.val x ∧ s.val x < 1000
  | .num n, h => ⟨h.1, Int.lt_trans h.2 (by decide)⟩
  | .name, _ => hx
  | .plus a b, _ => ⟨Int.emod_nonneg _ (by decide), Int.emod_lt_of_pos _ (by decide)⟩
  | .times a b, _ => ⟨Int.emod_nonneg _ (by decide), Int.emod_lt_of_pos _ (by decide)⟩
  | .ite a b c, h => by
    rw [SmE.val]
    split
    · exact SmE.val_bd hx c h.2.2
    · exact SmE.val_bd hx b h.2.1
def spComeTo (K : PySem.W.Frag) (n : Nat) : Sp := fun vs H Q _ => ∃ (v : V) (s : SmE) (x : Int), vs = [v, .int x] ∧ Dp K H v s.ex.d ∧ s.good ∧ (0 ≤ x ∧ x < 1000) ∧ s.dep < n ∧ ∀ H', Same H H' → Q (.int (s.val x)) H'
def spFolded (K : PySem.W.Frag) (n : Nat) : Sp := fun vs H Q _ => ∃ (v : V) (s : SmE), vs = [v] ∧ Dp K H v s.ex.d ∧ s.dep < n ∧ ∀ H' v', Same H H' → Dp K H' v' s.fold.d → Q v' H'
section
variable {P : Program} {w : World} {K : PySem.W.Frag} {mg : Str → Option Value} {base : Heap} {dF dK dL dB : Addr}
theorem sm_leaf {H : Hp} {v : V} {w : Wd} {n : Int} (h : Dp K H v (Ex.node w [n] [] []).d) : ∃ p, v = .ref p ∧ SqT K H p [.str w.s, .int n] := by
  obtain ⟨a, kvs, evs, rfl, hn⟩ := node_of h
  have h1 := hn.ks
  have h2 := hn.es
  cases h1
  cases h2
  exact ⟨a, rfl, hn.sq⟩
theorem sm_node {H : Hp} {v : V} {w : Wd} {ss : List SmE} (h : Dp K H v (Ex.node w [] [] (ss.map SmE.ex)).d) : ∃ p evs, v = .ref p ∧ SqT K H p (.str w.s :: evs) ∧ DpAll K H evs (ss.map fun s => s.ex.d) := by
  obtain ⟨a, kvs, evs, rfl, hn⟩ := node_of h
  have h1 := hn.ks
  have h2 := hn.es
  cases h1
  refine ⟨a, evs, rfl, hn.sq, ?_⟩
  rw [Ex.dL_eq, show (Ex.node w [] [] (ss.map SmE.ex)).es = ss.map SmE.ex from rfl, List.map_map] at h2
  exact h2
theorem cut1_all (x : V) (l : List V) : cutV (x :: l) (some 1) none = l := cut_nat (x :: l) 1
inductive Knd : SmE → Wd → List SmE → Prop
  | plus {a b : SmE} : Knd (.plus a b) .plus [a, b]
  | times {a b : SmE} : Knd (.times a b) .times [a, b]
  | ite {a b c : SmE} : Knd (.ite a b c) .ite [a, b, c]
theorem Knd.ex {s : SmE} {wd : Wd} {ss : List SmE} (h : Knd s wd ss) : s.ex = .node wd [] [] (ss.map SmE.ex) ∧ (wd ≠ .num ∧ wd ≠ .name) ∧ (∀ t ∈ ss, t.dep < s.dep) ∧ ss.length ≤ 3 := by
  cases h with
  | plus => exact ⟨rfl, ⟨by decide, by decide⟩, by simp [SmE.dep]; omega, by simp⟩
  | times => exact ⟨rfl, ⟨by decide, by decide⟩, by simp [SmE.dep]; omega, by simp⟩
  | ite => exact ⟨rfl, ⟨by decide, by decide⟩, by simp [SmE.dep]; omega, by simp⟩
theorem Knd.good {s : SmE} {wd : Wd} {ss : List SmE} (h : Knd s wd ss) (g : s.good) : ∀ t ∈ ss, t.good := by
  cases h with
  | plus => simpa [SmE.good] using g
  | times => simpa [SmE.good] using g
  | ite => simpa [SmE.good] using g
theorem SmE.kinds (sm : SmE) : (∃ m, sm = .num m) ∨ sm = .name ∨ ∃ wd ss, Knd sm wd ss := by
  cases sm with
  | num m => exact .inl ⟨m, rfl⟩
  | name => exact .inr (.inl rfl)
  | plus a b => exact .inr (.inr ⟨_, _, .plus⟩)
  | times a b => exact .inr (.inr ⟨_, _, .times⟩)
  | ite a b c => exact .inr (.inr ⟨_, _, .ite⟩)
abbrev ns_law_come_to : List Str := ["_law_e", "_law_number", "_law_part", "_law_some"]
theorem sc_law_come_to : FnScope ns_law_come_to ["_law_e", "_law_number"] (defScope s_law_come_to) := ⟨rfl, rfl, rfl, by decide +kernel, rfl, by decide +kernel, by decide +kernel⟩
theorem ok_come_to (a : At0 K mg "_law_come_to" "_law_come_to" s_law_come_to ["_law_e", "_law_number"]) : ∀ n, Dfn P w K mg base "_law_come_to" n ["_law_e", "_law_number"] (spComeTo K n)
  | 0 => .never a fun vs H Q E ⟨v, s, x, _, _, _, _, h, _⟩ => absurd h (Nat.not_lt_zero _)
  | n + 1 => .of a fun f fd F => by
    have G := ok_come_to a n
    refine F.ok sc_law_come_to (fun vs H Q E h => ?_) (fun cdv A outer s H vs Q E hr h => ?_)
    · obtain ⟨v, s, x, rfl, _⟩ := h
      rfl
    · obtain ⟨v, sm, x, rfl, hd, hg, hx, hdep, k⟩ := h
      refine ⟨_, (pss_cons (ps_if (pt_cmpR op_in_seq (pe_ix ix_tup (pv 0) (pe_int) (fun _ _ => rfl)) (pe_tup (pa_cons (pe_str) (pa_cons (pe_str) (pa_nil)))) (by rfl))
  (pss_one (ps_ret (pe_ifExp (pt_cmpR op_eq (pe_ix ix_tup (pv 0) (pe_int) (fun _ _ => rfl)) (pe_str) (nomark _)) (pe_ix ix_tup (pv 0) (pe_int) (fun _ _ => rfl)) (pv 1))))
  pss_nil) (pss_cons (ps_setLc (i := 3) (own := [("_law_part", 2)]) (g := gName 2) (tt := tYes) (by rfl) sc_law_come_to.nd rfl rfl (sw_true rfl rfl rfl (by decide +kernel)) (pi_tup (pe_slice sl_tupU (pv 0) (po_some (pe_int)) po_none)) (blkOk_by (N := ns_law_come_to) (sc := defScope s_law_come_to) (by decide +kernel)) (fun _ _ _ _ _ => pg_name (i := 2) sc_law_come_to.nd rfl (Or.inl rfl)) (fun _ _ _ _ _ => pts_nil) (fun _ _ _ _ _ => pe_callD G hr (by rfl) (pa_cons (pv 2) (pa_cons (pv 1) (pa_nil))))) (pss_cons (ps_if (pt_cmpR op_eq (pe_ix ix_tup (pv 0) (pe_int) (fun _ _ => rfl)) (pe_str) (nomark _))
  (pss_one (ps_ret (pe_ifExp (pt_cmpR op_ne (pe_ix ix_list (pv 3) (pe_int) (fun _ _ => rfl)) (pe_int) (nomark _)) (pe_ix ix_list (pv 3) (pe_int) (fun _ _ => rfl)) (pe_ix ix_list (pv 3) (pe_int) (fun _ _ => rfl)))))
  pss_nil) (pss_one (ps_ret (pe_ifExp (pt_cmpR op_eq (pe_ix ix_tup (pv 0) (pe_int) (fun _ _ => rfl)) (pe_str) (nomark _)) (pe_op op_mod (pe_op op_add (pe_ix ix_list (pv 3) (pe_int) (fun _ _ => rfl)) (pe_ix ix_list (pv 3) (pe_int) (fun _ _ => rfl))) (pe_int)) (pe_op op_mod (pe_op op_mul (pe_ix ix_list (pv 3) (pe_int) (fun _ _ => rfl)) (pe_ix ix_list (pv 3) (pe_int) (fun _ _ => rfl))) (pe_int)))))))), ?_⟩
      have hin : ∀ wd : Wd, inV (V.str wd.s) [.str "num", .str "name"] = decide (wd = .num ∨ wd = .name) := fun wd => by cases wd <;> decide +kernel
      have node : ∀ (wd : Wd) (ss : List SmE), Knd sm wd ss → ∃ p evs, v = .ref p ∧ SqT K H p (.str wd.s :: evs) ∧ DpAll K H evs (ss.map fun s => s.ex.d) := fun wd ss hk => sm_node (hk.ex.1 ▸ hd)
      have leaf : ∀ (wd : Wd) (m : Int), sm.ex = .node wd [m] [] [] → ∃ p, v = .ref p ∧ SqT K H p [.str wd.s, .int m] := fun wd m e => sm_leaf (e ▸ hd)
      rcases sm.kinds with ⟨m, rfl⟩ | rfl | ⟨wd, ss, hk⟩
      · obtain ⟨p, rfl, hq⟩ := leaf .num m rfl
        refine ⟨_, rfl, _, _, _, _, rfl, rfl, hq, at_of (j := 0) rfl rfl, by show 2 ≤ sizeLine; decide, fun t ht => ?_⟩
        have s1 := Same.new (o := .tup [.str ("num" : Str), .str "name"]) ht
        refine ⟨_, _, rfl, .inr (SqT.of upd_same), rfl, rfl, _, rfl, ?_⟩
        rw [if_neg Bool.false_ne_true, hin .num, decide_eq_true (.inl rfl)]
        refine iteT ⟨_, rfl, _, _, _, _, rfl, rfl, Same.seqT s1 hq, at_of (j := 0) rfl rfl, rfl, _, rfl, iteT ?_⟩
        exact ⟨_, rfl, _, _, _, _, rfl, rfl, Same.seqT s1 hq, at_of (j := 1) rfl rfl, k _ s1⟩
      · obtain ⟨p, rfl, hq⟩ := leaf .name 0 rfl
        refine ⟨_, rfl, _, _, _, _, rfl, rfl, hq, at_of (j := 0) rfl rfl, by show 2 ≤ sizeLine; decide, fun t ht => ?_⟩
        have s1 := Same.new (o := .tup [.str ("num" : Str), .str "name"]) ht
        refine ⟨_, _, rfl, .inr (SqT.of upd_same), rfl, rfl, _, rfl, ?_⟩
        rw [if_neg Bool.false_ne_true, hin .name, decide_eq_true (.inr rfl)]
        refine iteT ⟨_, rfl, _, _, _, _, rfl, rfl, Same.seqT s1 hq, at_of (j := 0) rfl rfl, rfl, _, rfl, iteF ?_⟩
        exact ⟨_, rfl, k _ s1⟩
      obtain ⟨p, evs, rfl, hq, hes⟩ := node wd ss hk
      obtain ⟨_, hne, hdp, hl3⟩ := hk.ex
      have hgd := hk.good hg
      refine ⟨_, rfl, _, _, _, _, rfl, rfl, hq, at_of (j := 0) rfl rfl, by show 2 ≤ sizeLine; decide, fun t ht => ?_⟩
      have s1 := Same.new (o := .tup [.str ("num" : Str), .str "name"]) ht
      refine ⟨_, _, rfl, .inr (SqT.of upd_same), rfl, rfl, _, rfl, ?_⟩
      rw [if_neg Bool.false_ne_true, hin wd, decide_eq_false (fun z => z.elim hne.1 hne.2)]
      refine iteF ?_
      generalize upd H t (.tup [.str ("num" : Str), .str "name"]) = H1 at s1
      refine ⟨_, rfl, _, rfl, _, _, rfl, Same.seqT s1 hq, fun q H2 s2 hq2 => ⟨q, rfl, ⟨_, hq2⟩, fun D hD => ?_⟩⟩
      rw [cut1_all] at hq2
      have s12 := s1.trans s2
      have les : evs.length = ss.length := by rw [DpAll.length hes, List.length_map]
      refine lc_gen walk_tup ((ss.map (SmE.val x)).map V.int) (by simp [les]) (Nat.lt_of_le_of_lt (show ((ss.map (SmE.val x)).map V.int).length ≤ 3 by simpa using hl3) (by decide)) (fun i H' => Same H2 H') (Same.new hD) (fun i H' r => Same.seqT r hq2) (fun i H' l s3 => Same.over s3 hD) ?_ ?_ gName_mono
      · rintro i y z H' H3 Q2 hi hy s3 hlD ⟨rfl, hx'⟩ k2
        obtain ⟨dd, hdd, hp⟩ := DpAll.get hes hx'
        rw [List.getElem?_map] at hdd
        rw [List.getElem?_map, List.getElem?_map] at hy
        cases ea : ss[i]? with
        | none => rw [ea] at hdd; cases hdd
        | some ea' =>
          rw [ea] at hdd hy
          cases hdd
          cases hy
          have hmem := List.mem_of_getElem? ea
          have h1 := hdp ea' hmem
          exact ⟨rfl, _, rfl, _, rfl, y, ea', x, rfl, Dp.same (s12.trans s3) _ _ hp, hgd _ hmem, hx, by omega, fun H4 s4 => k2 H4 (s3.trans s4) (s4 _ _ hlD)⟩
      · intro H3 s3 hlD
        have sA := s12.trans s3
        have hqA := Same.seqT sA hq
        have lA := SqL.of (K := K) hlD
        refine ⟨_, rfl, _, _, _, _, rfl, rfl, hqA, at_of (j := 0) rfl rfl, rfl, _, rfl, ?_⟩
        cases hk with
        | @ite a b c =>
          refine iteT ⟨_, rfl, _, _, _, _, rfl, rfl, lA, at_of (j := 0) rfl rfl, rfl, _, rfl, ite2 (fun hc => ?_) (fun hc => ?_)⟩
          · have h0 : ¬ a.val x = 0 := fun z => by rw [z] at hc; exact absurd hc (by decide)
            refine ⟨_, rfl, _, _, _, _, rfl, rfl, lA, at_of (j := 1) rfl rfl, ?_⟩
            have := k H3 sA
            rw [SmE.val, if_neg h0] at this
            exact this
          · have h0 : a.val x = 0 := Classical.byContradiction fun z => hc (by
              show (!decide (V.int (a.val x) = V.int 0)) = true
              rw [decide_eq_false (fun q => z (V.int.inj q))]
              rfl)
            refine ⟨_, rfl, _, _, _, _, rfl, rfl, lA, at_of (j := 2) rfl rfl, ?_⟩
            have := k H3 sA
            rw [SmE.val, if_pos h0] at this
            exact this
        | plus =>
          refine iteF ⟨_, rfl, _, _, _, _, rfl, rfl, hqA, at_of (j := 0) rfl rfl, rfl, _, rfl, iteT ?_⟩
          exact ⟨_, rfl, _, _, _, _, rfl, rfl, lA, at_of (j := 0) rfl rfl, _, rfl, _, _, _, _, rfl, rfl, lA, at_of (j := 1) rfl rfl, _, _, rfl, rfl, _, _, rfl, rfl, (by show (0 : Int) < 1000; decide), k H3 sA⟩
        | @times a b =>
          have hb := SmE.val_bd hx a (hgd a (by simp))
          refine iteF ⟨_, rfl, _, _, _, _, rfl, rfl, hqA, at_of (j := 0) rfl rfl, rfl, _, rfl, iteF ?_⟩
          exact ⟨_, rfl, _, _, _, _, rfl, rfl, lA, at_of (j := 0) rfl rfl, _, rfl, _, _, _, _, rfl, rfl, lA, at_of (j := 1) rfl rfl, _, _, rfl, rfl, .inl ⟨by omega, by omega⟩, _, _, rfl, rfl, (by show (0 : Int) < 1000; decide), k H3 sA⟩
abbrev ns_law_folded : List Str := ["_law_e", "_law_found", "_law_part"]
theorem sc_law_folded : FnScope ns_law_folded ["_law_e"] (defScope s_law_folded) := ⟨rfl, rfl, rfl, by decide +kernel, rfl, by decide +kernel, by decide +kernel⟩
def foldK : List (Key × V) := [(Sum.inr "plus", .int 11), (Sum.inr "times", .int 12), (Sum.inr "if", .int 13)]
def foldN : Wd → Int | .plus => 11 | .times => 12 | _ => 13
def foldAll : Ex → List SmE → Ex
  | e, [] => e
  | e, s :: r => foldAll (xCall e s.fold) r
theorem foldAll_snoc : ∀ (l : List SmE) (e : Ex) (s : SmE), foldAll e (l ++ [s]) = xCall (foldAll e l) s.fold
  | [], e, s => rfl
  | x :: l, e, s => foldAll_snoc l _ s
theorem Knd.fold {s : SmE} {wd : Wd} {ss : List SmE} (h : Knd s wd ss) : s.fold = foldAll (xName (foldN wd)) ss := by cases h <;> rfl
theorem Knd.key {s : SmE} {wd : Wd} {ss : List SmE} (h : Knd s wd ss) : valV (mergeK [] foldK) (Sum.inr wd.s) = some (.int (foldN wd)) := by cases h <;> decide +kernel
theorem ok_folded (a : At0 K mg "_law_folded" "_law_folded" s_law_folded ["_law_e"]) : ∀ n, Dfn P w K mg base "_law_folded" n ["_law_e"] (spFolded K n)
  | 0 => .never a fun vs H Q E ⟨v, s, _, _, h, _⟩ => absurd h (Nat.not_lt_zero _)
  | n + 1 => .of a fun f fd F => by
    have G := ok_folded a n
    refine F.ok sc_law_folded (fun vs H Q E h => ?_) (fun cdv A outer s H vs Q E hr h => ?_)
    · obtain ⟨v, s, rfl, _⟩ := h
      rfl
    · obtain ⟨v, sm, rfl, hd, hdep, k⟩ := h
      refine ⟨_, (pss_cons (ps_if (pt_cmpR op_eq (pe_ix ix_tup (pv 0) (pe_int) (fun _ _ => rfl)) (pe_str) (nomark _))
  (pss_one (ps_ret (pe_tup (pa_cons (pe_str) (pa_cons (pe_tup (pa_cons (pe_str) (pa_cons (pe_int) (pa_nil)))) (pa_cons (pv 0) (pa_nil)))))))
  pss_nil) (pss_cons (ps_if (pt_cmpR op_eq (pe_ix ix_tup (pv 0) (pe_int) (fun _ _ => rfl)) (pe_str) (nomark _))
  (pss_one (ps_ret (pe_tup (pa_cons (pe_str) (pa_cons (pe_int) (pa_nil))))))
  pss_nil) (pss_cons (ps_set (i := 1) sc_law_folded.nd rfl (Or.inl rfl) (pe_tup (pa_cons (pe_str) (pa_cons (pe_dget (hu_of hr) (pe_disp (pps_cons pe_str pe_int (pps_cons pe_str pe_int (pps_cons pe_str pe_int pps_nil))) (by rfl) (by rfl) (fun z => by cases z) (by decide)) (pe_ix ix_tup (pv 0) (pe_int) (fun _ _ => rfl)) (fun _ _ => rfl)) (pa_nil))))) (pss_cons (ps_for PassesOwn.never rfl (pi_tup (pe_slice sl_tupU (pv 0) (po_some (pe_int)) po_none)) (pg_name (i := 2) sc_law_folded.nd rfl (Or.inl rfl))
  (pss_one (ps_set (i := 1) sc_law_folded.nd rfl (Or.inl rfl) (pe_tup (pa_cons (pe_str) (pa_cons (pv 1) (pa_cons (pe_callD G hr (by rfl) (pa_cons (pv 2) (pa_nil))) (pa_nil)))))))) (pss_one (ps_ret (pv 1))))))), ?_⟩
      rcases sm.kinds with ⟨m, rfl⟩ | rfl | ⟨wd, ss, hk⟩
      · obtain ⟨p, rfl, hq⟩ := sm_leaf (w := .num) (n := m) hd
        refine ⟨_, rfl, _, _, _, _, rfl, rfl, hq, at_of (j := 0) rfl rfl, rfl, _, rfl, iteT ?_⟩
        refine ⟨by show 2 ≤ sizeLine; decide, fun q1 h1 => ⟨_, rfl, by show 3 ≤ sizeLine; decide, fun q2 h2 => ?_⟩⟩
        have s1 := Same.new (o := .tup [.str ("name" : Str), .int 10]) h1
        have s2 := Same.new (o := .tup [.str ("call" : Str), .ref q1, .ref p]) h2
        refine k _ _ (s1.trans s2) (.tup (SqT.of upd_same) (.cons (.str _) (.cons ?_ (.cons (Dp.same (s1.trans s2) _ _ hd) .nil))))
        exact .tup (Same.seqT s2 (SqT.of upd_same)) (.cons (.str _) (.cons (.int _) .nil))
      · obtain ⟨p, rfl, hq⟩ := sm_leaf (w := .name) (n := 0) hd
        refine ⟨_, rfl, _, _, _, _, rfl, rfl, hq, at_of (j := 0) rfl rfl, rfl, _, rfl, iteF ?_⟩
        refine ⟨_, rfl, _, _, _, _, rfl, rfl, hq, at_of (j := 0) rfl rfl, rfl, _, rfl, iteT ?_⟩
        refine ⟨by show 2 ≤ sizeLine; decide, fun q1 h1 => ?_⟩
        exact k _ _ (Same.new h1) (.tup (SqT.of upd_same) (.cons (.str _) (.cons (.int _) .nil)))
      obtain ⟨ex, hne, hdp, hl3⟩ := hk.ex
      obtain ⟨p, evs, rfl, hq, hes⟩ := sm_node (ex ▸ hd)
      have n1 : decide (V.str wd.s = V.str "num") = false := decide_eq_false fun z => hne.1 (by
        revert z
        cases hk <;> decide +kernel)
      have n2 : decide (V.str wd.s = V.str "name") = false := decide_eq_false fun z => hne.2 (by
        revert z
        cases hk <;> decide +kernel)
      refine ⟨_, rfl, _, _, _, _, rfl, rfl, hq, at_of (j := 0) rfl rfl, rfl, _, rfl, ?_⟩
      rw [n1]
      refine iteF ⟨_, rfl, _, _, _, _, rfl, rfl, hq, at_of (j := 0) rfl rfl, rfl, _, rfl, ?_⟩
      rw [n2]
      refine iteF fun pd hpd => ⟨upd_same, foldK, rfl, by show 3 ≤ 15; decide, ?_⟩
      have s1 : Same H (upd (upd H pd (.dK [])) pd (.dK (mergeK [] foldK))) := Same.over (Same.new hpd) hpd
      have hpd1 : (upd (upd H pd (.dK [])) pd (.dK (mergeK [] foldK))) pd = some (.dK (mergeK [] foldK)) := upd_same
      generalize upd (upd H pd (.dK [])) pd (.dK (mergeK [] foldK)) = H1 at s1 hpd1
      refine ⟨_, rfl, _, _, _, _, rfl, rfl, Same.seqT s1 hq, at_of (j := 0) rfl rfl, pd, .int (foldN wd), rfl, ?_, by show 2 ≤ sizeLine; decide, fun q1 h1 => ?_⟩
      · have := DGet.k (k := Sum.inr wd.s) hpd1
        rw [hk.key] at this
        exact this
      have s2 := Same.new (o := .tup [.str ("name" : Str), .int (foldN wd)]) h1
      have hf0 : Dp K (upd H1 q1 (.tup [.str ("name" : Str), .int (foldN wd)])) (.ref q1) (xName (foldN wd)).d := .tup (SqT.of upd_same) (.cons (.str _) (.cons (.int _) .nil))
      generalize upd H1 q1 (.tup [.str ("name" : Str), .int (foldN wd)]) = H2 at s2 hf0
      have s12 := s1.trans s2
      refine ⟨_, rfl, _, rfl, _, _, rfl, Same.seqT s12 hq, fun q H3 s3 hq3 => ?_⟩
      rw [cut1_all] at hq3
      have s13 := s12.trans s3
      have les : evs.length = ss.length := by rw [DpAll.length hes, List.length_map]
      refine ⟨q, rfl, ⟨_, hq3⟩, for_it walk_tup (fun i σ H' => Same H3 H' ∧ ∃ fv z, σ = [some (.ref p), some fv, z] ∧ Dp K H' fv (foldAll (xName (foldN wd)) (ss.take i)).d) ⟨Same.refl H3, _, _, rfl, Dp.same s3 _ _ hf0⟩ (fun i σ H' _ r => Same.seqT r.1 hq3) ?_ ?_⟩
      · rintro i y σ H' H4 hi ⟨s4, fv, z, rfl, hfv⟩ ⟨rfl, hx'⟩
        obtain ⟨dd, hdd, hp⟩ := DpAll.get hes hx'
        rw [List.getElem?_map] at hdd
        cases ea : ss[i]? with
        | none => rw [ea] at hdd; cases hdd
        | some ea' =>
          rw [ea] at hdd
          cases hdd
          have hmem := List.mem_of_getElem? ea
          have h1 := hdp ea' hmem
          refine ⟨_, rfl, _, rfl, y, ea', rfl, Dp.same (s13.trans s4) _ _ hp, by omega, fun H5 v5 s5 hv5 => ⟨by show 3 ≤ sizeLine; decide, fun q6 h6 => ?_⟩⟩
          have s6 := Same.new (o := .tup [.str ("call" : Str), fv, v5]) h6
          refine ⟨s4.trans (s5.trans s6), _, _, rfl, ?_⟩
          have et : ss.take (i + 1) = ss.take i ++ [ea'] := by rw [List.take_succ, ea]; rfl
          rw [et, foldAll_snoc]
          exact .tup (SqT.of upd_same) (.cons (.str _) (.cons (Dp.same (s5.trans s6) _ _ hfv) (.cons (Dp.same s6 _ _ hv5) .nil)))
      · rintro σ H' ⟨s4, fv, z, rfl, hfv⟩
        rw [les, List.take_length, ← hk.fold] at hfv
        exact ⟨_, rfl, k _ _ (s13.trans s4) hfv⟩
end
end Lw
set_option Elab.async false
set_option linter.all false
set_option maxRecDepth 100000
set_option maxHeartbeats 4000000
namespace Lw
open PySem PySem.Spec PyProof.Rows L2 RZ NdefX LamX
def hole24 (k : Int) : Ex := xNow (xName k)
def num24 : Ex := xFun 1 .num (xQuote (xCarry (xName 1)))
def both24 (wd : Wd) : Ex := xFun 1 (.code .num) (xFun 2 (.code .num) (xQuote (.node wd [] [] [hole24 1, hole24 2])))
def choice24 : Ex := xFun 1 (.code .num) (xFun 2 (.code .num) (xFun 3 (.code .num) (xQuote (xIf (hole24 1) (hole24 2) (hole24 3)))))
def makers24 (e : Ex) : Ex := xLet 10 num24 (xLet 11 (both24 .plus) (xLet 12 (both24 .times) (xLet 13 choice24 (xFun 20 (.code .num) e))))
def spMakers (K : PySem.W.Frag) : Sp := fun vs H Q _ => ∃ (v : V) (e : Ex), vs = [v] ∧ Dp K H v e.d ∧ ∀ H' v', Same H H' → Dp K H' v' (makers24 e).d → Q v' H'
section
variable {P : Program} {w : World} {K : PySem.W.Frag} {mg : Str → Option Value} {base : Heap} {dF dK dL dB : Addr}
abbrev ns_law_makers : List Str := ["_law_inner", "_law_k", "_law_code", "_law_holes", "_law_number", "_law_word", "_law_both", "_law_choice"]
theorem sc_law_makers : FnScope ns_law_makers ["_law_inner"] (defScope s_law_makers) := ⟨rfl, rfl, rfl, by decide +kernel, rfl, by decide +kernel, by decide +kernel⟩
theorem ok_makers {f : Addr} {fd : FuncData} (F : Fun K "_law_makers" "_law_makers" s_law_makers f fd) (C : Cst K w mg dF dK dL dB) : FnOk P w K mg base CX0 1 f fd ["_law_inner"] (spMakers K) := by
  refine F.ok sc_law_makers (fun vs H Q E h => ?_) (fun cdv A outer s H vs Q E hr h => ?_)
  · obtain ⟨v, e, rfl, _⟩ := h
    rfl
  · obtain ⟨v, e, rfl, hd, k⟩ := h
    refine ⟨_, (pss_cons (ps_asg (pe_tup (pa_cons (pe_tup (pa_cons (pe_str) (pa_cons (pe_str) (pa_nil)))) (pa_cons (pe_lc (own := [("_law_k", 1)]) (g := gName 1) (tt := tYes) rfl sc_law_makers.nd (pi_tup (pe_tup (pa_cons (pe_int) (pa_cons (pe_int) (pa_cons (pe_int) (pa_nil)))))) (blkOk_by (N := ns_law_makers) (sc := defScope s_law_makers) (by decide +kernel)) (fun _ _ _ _ _ => pg_name (i := 1) sc_law_makers.nd rfl (Or.inl rfl)) (fun _ _ _ _ _ => pts_nil) (fun _ _ _ _ _ => pe_tup (pa_cons (pe_str) (pa_cons (pe_tup (pa_cons (pe_str) (pa_cons (pv 1) (pa_nil)))) (pa_nil))))) (pa_nil)))) (pg_tup rfl (pgs_cons (pg_name (i := 2) sc_law_makers.nd rfl (Or.inr rfl)) (pgs_cons (pg_name (i := 3) sc_law_makers.nd rfl (Or.inr rfl)) pgs_nil)))) (pss_cons (ps_set (i := 4) sc_law_makers.nd rfl (Or.inl rfl) (pe_tup (pa_cons (pe_str) (pa_cons (pe_int) (pa_cons (pe_str) (pa_cons (pe_tup (pa_cons (pe_str) (pa_cons (pe_tup (pa_cons (pe_str) (pa_cons (pe_tup (pa_cons (pe_str) (pa_cons (pe_int) (pa_nil)))) (pa_nil)))) (pa_nil)))) (pa_nil))))))) (pss_cons (ps_setLc (i := 6) (own := [("_law_word", 5)]) (g := gName 5) (tt := tYes) (te := tTup (tCons (tC (.str "fun")) (tCons (tC (.int 1)) (tCons (tVar 2) (tCons (tTup (tCons (tC (.str "fun")) (tCons (tC (.int 2)) (tCons (tVar 2) (tCons (tTup (tCons (tC (.str "quote")) (tCons (tTup (tCons (tVar 5) (tCons (tOp (rIxL K) (tVar 3) (tC (.int 0))) (tCons (tOp (rIxL K) (tVar 3) (tC (.int 1))) tNil)))) tNil))) tNil))))) tNil))))) (by rfl) sc_law_makers.nd rfl rfl (sw_true rfl rfl rfl (by decide +kernel)) (pi_tup (pe_tup (pa_cons (pe_str) (pa_cons (pe_str) (pa_nil))))) (blkOk_by (N := ns_law_makers) (sc := defScope s_law_makers) (by decide +kernel)) (fun _ _ _ _ _ => pg_name (i := 5) sc_law_makers.nd rfl (Or.inl rfl)) (fun _ _ _ _ _ => pts_nil) (fun _ _ _ _ _ => pe_tup (pa_cons (pe_str) (pa_cons (pe_int) (pa_cons (pv 2) (pa_cons (pe_tup (pa_cons (pe_str) (pa_cons (pe_int) (pa_cons (pv 2) (pa_cons (pe_tup (pa_cons (pe_str) (pa_cons (pe_tup (pa_cons (pv 5) (pa_cons (pe_ix ix_list (pv 3) (pe_int) (fun _ _ => rfl)) (pa_cons (pe_ix ix_list (pv 3) (pe_int) (fun _ _ => rfl)) (pa_nil))))) (pa_nil)))) (pa_nil)))))) (pa_nil))))))) (pss_cons (ps_set (i := 7) sc_law_makers.nd rfl (Or.inl rfl) (pe_tup (pa_cons (pe_str) (pa_cons (pe_int) (pa_cons (pv 2) (pa_cons (pe_tup (pa_cons (pe_str) (pa_cons (pe_int) (pa_cons (pv 2) (pa_cons (pe_tup (pa_cons (pe_str) (pa_cons (pe_int) (pa_cons (pv 2) (pa_cons (pe_tup (pa_cons (pe_str) (pa_cons (pe_op op_catU (pe_tup (pa_cons (pe_str) (pa_nil))) (pe_callTy call_tuple_of (by rfl) C.tuple boot_tuple (pa_cons (pv 3) (pa_nil)))) (pa_nil)))) (pa_nil)))))) (pa_nil)))))) (pa_nil))))))) (pss_cons (ps_set (i := 0) sc_law_makers.nd rfl (Or.inl rfl) (pe_tup (pa_cons (pe_str) (pa_cons (pe_int) (pa_cons (pv 2) (pa_cons (pv 0) (pa_nil))))))) (pss_one (ps_ret (pe_tup (pa_cons (pe_str) (pa_cons (pe_int) (pa_cons (pv 4) (pa_cons (pe_tup (pa_cons (pe_str) (pa_cons (pe_int) (pa_cons (pe_ix ix_list (pv 6) (pe_int) (fun _ _ => rfl)) (pa_cons (pe_tup (pa_cons (pe_str) (pa_cons (pe_int) (pa_cons (pe_ix ix_list (pv 6) (pe_int) (fun _ _ => rfl)) (pa_cons (pe_tup (pa_cons (pe_str) (pa_cons (pe_int) (pa_cons (pv 7) (pa_cons (pv 0) (pa_nil)))))) (pa_nil)))))) (pa_nil)))))) (pa_nil))))))))))))), ?_⟩
    have e0 := (ev_start (K := K) (H := H) [v] 7).asD (i := 0) rfl hd (Ex.flat _)
    refine ⟨by show 2 ≤ sizeLine; decide, fun pc hpc => ⟨by show 3 ≤ sizeLine; decide, fun pt hpt => ⟨pt, rfl, ⟨_, SqT.of upd_same⟩, fun D hD => ?_⟩⟩⟩
    have s1 := Same.new (o := .tup [.str ("code" : Str), .str "num"]) hpc
    have s2 := Same.new (o := .tup [.int 1, .int 2, .int 3]) hpt
    have hcd : Dp K (upd (upd H pc (.tup [.str ("code" : Str), .str "num"])) pt (.tup [.int 1, .int 2, .int 3])) (.ref pc) (Kd.code .num).d := .tup (Same.seqT s2 (SqT.of upd_same)) (.cons (.str _) (.cons (.str _) .nil))
    refine ev_compT (k := 1) (dx := [.int 1, .int 2, .int 3]) (f := fun i => (hole24 ((i : Int) + 1)).d) (e0.same (s1.trans s2)) (SqT.of upd_same) (.cons (.int 1) (.cons (.int 2) (.cons (.int 3) .nil))) (by simp [flatD]) ?_ (fun i _ => Ex.flat _) (by exact Nat.le_of_ble_eq_true rfl) (by exact Nat.le_of_ble_eq_true rfl) hD fun holes H3 s3 hlD hholes => ?_
    · intro i d hi
      match i, hi with
      | 0, hi => cases hi; (repeat' first | exact mk_var rfl | exact mk_vint rfl | exact mk_vbl rfl | exact mk_vstr rfl | exact mk_str | exact mk_int | exact mk_bl | exact mk_nil | apply mk_cons | apply mk_tup | apply mk_lst | apply mk_add | apply mk_sub | apply mk_ifEq | apply mk_ifB | (refine mk_mod ?_ mk_int (by decide)) | (refine mk_mul mk_int ?_ (by decide)) | exact Nat.le_of_ble_eq_true rfl)
      | 1, hi => cases hi; (repeat' first | exact mk_var rfl | exact mk_vint rfl | exact mk_vbl rfl | exact mk_vstr rfl | exact mk_str | exact mk_int | exact mk_bl | exact mk_nil | apply mk_cons | apply mk_tup | apply mk_lst | apply mk_add | apply mk_sub | apply mk_ifEq | apply mk_ifB | (refine mk_mod ?_ mk_int (by decide)) | (refine mk_mul mk_int ?_ (by decide)) | exact Nat.le_of_ble_eq_true rfl)
      | 2, hi => cases hi; (repeat' first | exact mk_var rfl | exact mk_vint rfl | exact mk_vbl rfl | exact mk_vstr rfl | exact mk_str | exact mk_int | exact mk_bl | exact mk_nil | apply mk_cons | apply mk_tup | apply mk_lst | apply mk_add | apply mk_sub | apply mk_ifEq | apply mk_ifB | (refine mk_mod ?_ mk_int (by decide)) | (refine mk_mul mk_int ?_ (by decide)) | exact Nat.le_of_ble_eq_true rfl)
    have s13 := (s1.trans s2).trans s3
    have hcd3 := Dp.same s3 _ _ hcd
    have hh : DpAll K H3 holes [(hole24 1).d, (hole24 2).d, (hole24 3).d] := hholes
    obtain ⟨h1, h2, h3, rfl⟩ : ∃ a b c, holes = [a, b, c] := match holes, DpAll.length hh with | [a, b, c], _ => ⟨a, b, c, rfl⟩
    have hh1 : Dp K H3 h1 (hole24 1).d := match hh with | .cons a _ => a
    have hh2 : Dp K H3 h2 (hole24 2).d := match hh with | .cons _ (.cons a _) => a
    have hh3 : Dp K H3 h3 (hole24 3).d := match hh with | .cons _ (.cons _ (.cons a _)) => a
    clear hholes hh hcd
    refine ⟨by show 2 ≤ sizeLine; decide, fun po hpo => ⟨po, _, rfl, SqT.of upd_same, rfl, _, _, rfl, _, _, rfl, rfl, ?_⟩⟩
    have s4 := Same.new (o := .tup [.ref pc, .ref D]) hpo
    generalize upd H3 po (.tup [.ref pc, .ref D]) = H4 at s4
    have s14 := s13.trans s4
    have e4 : Ev K [some (.d e.d), none, some (.d (Kd.code .num).d), some (.v (.ref D)), none, none, none, none] [some v, none, some (.ref pc), some (.ref D), none, none, none, none] H4 := (((e0.same s14).set (i := 2) (Dp.same s4 _ _ hcd3) rfl (by exact Nat.le_of_ble_eq_true rfl)).setV (i := 3) (v := .ref D) (by exact Nat.le_of_ble_eq_true rfl))
    try dsimp only [tNext, gName]
    show tSeq (tAsg _ _) _ _ _ _
    refine ev_seq (i := 4) (d := num24.d) ?_ e4 fun σ5 H5 s5 e5 => ?_
    · (repeat' first | exact mk_var rfl | exact mk_vint rfl | exact mk_vbl rfl | exact mk_vstr rfl | exact mk_str | exact mk_int | exact mk_bl | exact mk_nil | apply mk_cons | apply mk_tup | apply mk_lst | apply mk_add | apply mk_sub | apply mk_ifEq | apply mk_ifB | (refine mk_mod ?_ mk_int (by decide)) | (refine mk_mul mk_int ?_ (by decide)) | exact Nat.le_of_ble_eq_true rfl)
    have hlD5 := s5 _ _ (s4 _ _ hlD)
    have q1 := Dp.same (s4.trans s5) _ _ hh1
    have q2 := Dp.same (s4.trans s5) _ _ hh2
    have q3 := Dp.same (s4.trans s5) _ _ hh3
    have s15 := s14.trans s5
    clear e4 hh1 hh2 hh3 hlD s4 s5 s14 s13 s1 s2 s3
    -- two words
    refine ⟨by show 2 ≤ sizeLine; decide, fun pw hpw => ⟨pw, rfl, ⟨_, SqT.of upd_same⟩, fun B hB => ?_⟩⟩
    have s6 := Same.new (o := .tup [.str ("plus" : Str), .str "times"]) hpw
    have hpw6 : (upd H5 pw (.tup [.str ("plus" : Str), .str "times"])) pw = some (.tup [.str ("plus" : Str), .str "times"]) := upd_same
    generalize upd H5 pw (.tup [.str ("plus" : Str), .str "times"]) = H6 at s6 hpw6 hB
    have e6 := e5.same s6
    refine lc_ex (walk_tup (K := K) (a := pw) (xs := [.str "plus", .str "times"])) (by decide) (fun i acc H' => Same H6 H' ∧ DpAll K H' acc ((List.range i).map fun j => (both24 (if j = 0 then .plus else .times)).d)) ⟨Same.new hB, .nil⟩ (fun i acc H' r _ => SqT.of (r.1 _ _ hpw6)) ?_ ?_ gName_mono
    · rintro i acc x H7 H8 Q2 hi hacc ⟨s7, hes⟩ hlB ⟨rfl, hx⟩ k2
      have hxw : ∃ wd : Wd, x = .str wd.s ∧ wd = (if i = 0 then .plus else .times) := by
        match i, hx with
        | 0, hx => cases hx; exact ⟨.plus, rfl, rfl⟩
        | 1, hx => cases hx; exact ⟨.times, rfl, rfl⟩
      obtain ⟨wd, rfl, hwd⟩ := hxw
      have e7 : Ev K _ ((wipe σ5 [5]).set 5 (some (.str wd.s))) H8 := ((e6.same s7).unset (i := 5) (x := none)).setV (i := 5) (v := .str wd.s) (by exact Nat.le_of_ble_eq_true rfl)
      have g2 : ∃ vc, ((wipe σ5 [5]).set 5 (some (V.str wd.s)))[2]? = some (some vc) ∧ Dp K H8 vc (Kd.code .num).d := (e7.dat 2 _ rfl).2
      obtain ⟨vc, g2, hvc⟩ := g2
      have g3 : ((wipe σ5 [5]).set 5 (some (V.str wd.s)))[3]? = some (some (.ref D)) := e7.val 3 _ rfl
      have g5 : ((wipe σ5 [5]).set 5 (some (V.str wd.s)))[5]? = some (some (.str wd.s)) := e7.val 5 _ rfl
      have hlD8 := SqL.of (K := K) (s7 _ _ (s6 _ _ hlD5))
      have q18 := Dp.same (s6.trans s7) _ _ q1
      have q28 := Dp.same (s6.trans s7) _ _ q2
      refine ⟨?_, _, g2, _, g2, _, g5, _, g3, _, _, _, _, rfl, rfl, hlD8, at_of (j := 0) rfl rfl, _, g3, _, _, _, _, rfl, rfl, hlD8, at_of (j := 1) rfl rfl, by show 3 ≤ sizeLine; decide, fun p1 n1 => ⟨by show 2 ≤ sizeLine; decide, fun p2 n2 => ⟨by show 4 ≤ sizeLine; decide, fun p3 n3 => ⟨by show 4 ≤ sizeLine; decide, fun p4 n4 => ?_⟩⟩⟩⟩
      · show ((σ5.set 5 none).set 5 (some (V.str wd.s))).set 5 none = σ5.set 5 none
        rw [List.set_set, List.set_set]
      have t1 := Same.new (o := .tup [.str wd.s, h1, h2]) n1
      have t2 := Same.new (o := .tup [.str ("quote" : Str), .ref p1]) n2
      have t3 := Same.new (o := .tup [.str ("fun" : Str), .int 2, vc, .ref p2]) n3
      have t4 := Same.new (o := .tup [.str ("fun" : Str), .int 1, vc, .ref p3]) n4
      have tA := t1.trans (t2.trans (t3.trans t4))
      have mu : ∀ (H9 : Hp) y, H9 B = some (.lst acc) → TSame H9 (upd H9 B (.lst (acc ++ [y]))) := fun H9 y h => TSame.mut h trivial
      have hlB' := tA _ _ hlB
      refine k2 _ _ hlB' ⟨Same.over (s7.trans tA) hB, ?_⟩
      rw [List.range_succ, List.map_append]
      refine DpAll.append (DpAll.tsame (mu _ _ hlB') _ _ ?_ (DpAll.same tA _ _ hes)) (.cons (Dp.tsame (mu _ _ hlB') _ _ (Ex.flat _) ?_) .nil)
      · have : ∀ l : List Nat, flatDL (l.map fun j => (both24 (if j = 0 then .plus else .times)).d) = true := by
          intro l
          induction l with
          | nil => rfl
          | cons j l ih => rw [List.map_cons, flatDL, Ex.flat, ih]; rfl
        exact this _
      · show Dp K _ _ (both24 (if i = 0 then .plus else .times)).d
        rw [← hwd]
        refine .tup (SqT.of upd_same) (.cons (.str _) (.cons (.int _) (.cons (Dp.same tA _ _ hvc) (.cons ?_ .nil))))
        refine .tup (Same.seqT t4 (SqT.of upd_same)) (.cons (.str _) (.cons (.int _) (.cons (Dp.same tA _ _ hvc) (.cons ?_ .nil))))
        refine .tup (Same.seqT (t3.trans t4) (SqT.of upd_same)) (.cons (.str _) (.cons ?_ .nil))
        exact .tup (Same.seqT (t2.trans (t3.trans t4)) (SqT.of upd_same)) (.cons (.str _) (.cons (Dp.same tA _ _ q18) (.cons (Dp.same tA _ _ q28) .nil)))
    rintro both H7 ⟨s7, hboth⟩ hlB hlen
    have hb : DpAll K H7 both [(both24 .plus).d, (both24 .times).d] := hboth
    obtain ⟨b1, b2, rfl⟩ : ∃ a b, both = [a, b] := match both, hlen with | [a, b], _ => ⟨a, b, rfl⟩
    have hb1 : Dp K H7 b1 (both24 .plus).d := match hb with | .cons a _ => a
    have hb2 : Dp K H7 b2 (both24 .times).d := match hb with | .cons _ (.cons a _) => a
    have s17 := s15.trans (s6.trans s7)
    have e7 := (e6.same s7).setV (i := 6) (v := .ref B) (by exact Nat.le_of_ble_eq_true rfl)
    have r1 := Dp.same (s6.trans s7) _ _ q1
    have r2 := Dp.same (s6.trans s7) _ _ q2
    have r3 := Dp.same (s6.trans s7) _ _ q3
    have hlD7 := s7 _ _ (s6 _ _ hlD5)
    clear hboth hb e6 e5 q1 q2 q3 s15 hlD5
    obtain ⟨_, vc, g2, hvc⟩ := e7.dat 2 _ rfl
    have g3 := e7.val 3 _ rfl
    have g6 := e7.val 6 _ rfl
    -- the choice
    refine ⟨_, g2, _, g2, _, g2, by show 1 ≤ sizeLine; decide, fun p0 n0 => ⟨_, g3, D, _, rfl, .inl ⟨SqL.of (Same.new n0 _ _ hlD7), fun pq nq => ?_⟩⟩⟩
    have t0 := Same.new (o := .tup [.str ("if" : Str)]) n0
    have t0' := Same.new (o := .tup [h1, h2, h3]) nq
    refine ⟨p0, pq, _, _, rfl, rfl, Same.seqT t0' (SqT.of upd_same), SqT.of upd_same, by show 1 + 3 ≤ sizeLine; decide, fun pi H8 s8 hpi => ?_⟩
    refine ⟨by show 2 ≤ sizeLine; decide, fun p2 n2 => ⟨by show 4 ≤ sizeLine; decide, fun p3 n3 => ⟨by show 4 ≤ sizeLine; decide, fun p4 n4 => ⟨by show 4 ≤ sizeLine; decide, fun p5 n5 => ?_⟩⟩⟩⟩
    have t2 := Same.new (o := .tup [.str ("quote" : Str), .ref pi]) n2
    have t3 := Same.new (o := .tup [.str ("fun" : Str), .int 3, vc, .ref p2]) n3
    have t4 := Same.new (o := .tup [.str ("fun" : Str), .int 2, vc, .ref p3]) n4
    have t5 := Same.new (o := .tup [.str ("fun" : Str), .int 1, vc, .ref p4]) n5
    have u8 := (t0.trans t0').trans s8
    have uA := u8.trans (t2.trans (t3.trans (t4.trans t5)))
    have hch : Dp K (upd (upd (upd (upd H8 p2 (.tup [.str ("quote" : Str), .ref pi])) p3 (.tup [.str ("fun" : Str), .int 3, vc, .ref p2])) p4 (.tup [.str ("fun" : Str), .int 2, vc, .ref p3])) p5 (.tup [.str ("fun" : Str), .int 1, vc, .ref p4])) (.ref p5) choice24.d := by
      refine .tup (SqT.of upd_same) (.cons (.str _) (.cons (.int _) (.cons (Dp.same uA _ _ hvc) (.cons ?_ .nil))))
      refine .tup (Same.seqT t5 (SqT.of upd_same)) (.cons (.str _) (.cons (.int _) (.cons (Dp.same uA _ _ hvc) (.cons ?_ .nil))))
      refine .tup (Same.seqT (t4.trans t5) (SqT.of upd_same)) (.cons (.str _) (.cons (.int _) (.cons (Dp.same uA _ _ hvc) (.cons ?_ .nil))))
      refine .tup (Same.seqT (t3.trans (t4.trans t5)) (SqT.of upd_same)) (.cons (.str _) (.cons ?_ .nil))
      exact .tup (Same.seqT (t2.trans (t3.trans (t4.trans t5))) hpi) (.cons (.str _) (.cons (Dp.same uA _ _ r1) (.cons (Dp.same uA _ _ r2) (.cons (Dp.same uA _ _ r3) .nil))))
    generalize upd (upd (upd (upd H8 p2 (.tup [.str ("quote" : Str), .ref pi])) p3 (.tup [.str ("fun" : Str), .int 3, vc, .ref p2])) p4 (.tup [.str ("fun" : Str), .int 2, vc, .ref p3])) p5 (.tup [.str ("fun" : Str), .int 1, vc, .ref p4]) = H9 at uA hch
    have e9 := (e7.same uA).set (i := 7) hch (Ex.flat _) (by exact Nat.le_of_ble_eq_true rfl)
    try dsimp only [tNext, gName]
    show tSeq (tAsg _ _) _ _ _ _
    refine ev_seq (i := 0) (d := (xFun 20 (.code .num) e).d) ?_ e9 fun σ10 H10 s10 e10 => ?_
    · (repeat' first | exact mk_var rfl | exact mk_vint rfl | exact mk_vbl rfl | exact mk_vstr rfl | exact mk_str | exact mk_int | exact mk_bl | exact mk_nil | apply mk_cons | apply mk_tup | apply mk_lst | apply mk_add | apply mk_sub | apply mk_ifEq | apply mk_ifB | (refine mk_mod ?_ mk_int (by decide)) | (refine mk_mul mk_int ?_ (by decide)) | exact Nat.le_of_ble_eq_true rfl)
    have v4 := e10.dat 4 _ rfl
    have v7 := e10.dat 7 _ rfl
    have v0 := e10.dat 0 _ rfl
    obtain ⟨_, w4, x4, y4⟩ := v4
    obtain ⟨_, w7, x7, y7⟩ := v7
    obtain ⟨_, w0, x0, y0⟩ := v0
    have x6 := e10.val 6 _ rfl
    have hlB10 := SqL.of (K := K) (s10 _ _ (uA _ _ hlB))
    refine ⟨_, x4, _, x6, _, _, _, _, rfl, rfl, hlB10, at_of (j := 0) rfl rfl, _, x6, _, _, _, _, rfl, rfl, hlB10, at_of (j := 1) rfl rfl, _, x7, _, x0, ?_⟩
    refine ⟨by show 4 ≤ sizeLine; decide, fun p6 n6 => ⟨by show 4 ≤ sizeLine; decide, fun p7 n7 => ⟨by show 4 ≤ sizeLine; decide, fun p8 n8 => ⟨by show 4 ≤ sizeLine; decide, fun p9 n9 => ?_⟩⟩⟩⟩
    have t6 := Same.new (o := .tup [.str ("let" : Str), .int 13, w7, w0]) n6
    have t7 := Same.new (o := .tup [.str ("let" : Str), .int 12, b2, .ref p6]) n7
    have t8 := Same.new (o := .tup [.str ("let" : Str), .int 11, b1, .ref p7]) n8
    have t9 := Same.new (o := .tup [.str ("let" : Str), .int 10, w4, .ref p8]) n9
    have tZ := t6.trans (t7.trans (t8.trans t9))
    refine k _ _ (s17.trans (uA.trans (s10.trans tZ))) ?_
    refine .tup (SqT.of upd_same) (.cons (.str _) (.cons (.int _) (.cons (Dp.same tZ _ _ y4) (.cons ?_ .nil))))
    refine .tup (Same.seqT t9 (SqT.of upd_same)) (.cons (.str _) (.cons (.int _) (.cons (Dp.same (uA.trans (s10.trans tZ)) _ _ hb1) (.cons ?_ .nil))))
    refine .tup (Same.seqT (t8.trans t9) (SqT.of upd_same)) (.cons (.str _) (.cons (.int _) (.cons (Dp.same (uA.trans (s10.trans tZ)) _ _ hb2) (.cons ?_ .nil))))
    exact .tup (Same.seqT (t7.trans (t8.trans t9)) (SqT.of upd_same)) (.cons (.str _) (.cons (.int _) (.cons (Dp.same tZ _ _ y7) (.cons (Dp.same tZ _ _ y0) .nil))))
end
end Lw
set_option Elab.async false
set_option linter.all false
set_option maxRecDepth 100000
set_option maxHeartbeats 4000000
namespace Lw
open PySem PySem.Spec PyProof.Rows L2 RZ NdefX LamX
/-! ### sums folded by functions on code: kinds -/
def kN : Kd := .num
def kC : Kd := .code .num
def k10' : Kd := .to .num (.code .num)
def k11' : Kd := .to (.code .num) (.to (.code .num) (.code .num))
def k13' : Kd := .to (.code .num) (.to (.code .num) (.to (.code .num) (.code .num)))
structure Scope24 (c : Ctx) : Prop where
  a : look c 10 = some ⟨0, k10', []⟩
  b : look c 11 = some ⟨0, k11', []⟩
  d : look c 12 = some ⟨0, k11', []⟩
  e : look c 13 = some ⟨0, k13', []⟩
  f : look c 20 = some ⟨0, kC, []⟩
theorem kin_nm {n : Nat} {x : Int} {k : Kd} {p : List Int} {lv : Int} {c : Ctx} {r : List Int} (h : look c x = some ⟨lv, k, r⟩) (hd : k.dep ≤ 60) : Kin (n + 1) (xName x) p lv c r k := kin_name (m := ⟨lv, k, r⟩) h rfl rfl hd
theorem fold_kin {c : Ctx} (S : Scope24 c) : ∀ (s : SmE) (d : Nat), s.dep ≤ d → ∀ (n : Nat) (p : List Int), 3 * d + 2 ≤ n → Kin n s.fold p 0 c [] (.code .num)
  | .num x, d, _, n, p, hn => by
    obtain ⟨n, rfl⟩ : ∃ k, n = k + 2 := ⟨n - 2, by omega⟩
    exact kin_call (k1 := .num) (by decide) (kin_nm (k := k10') S.a (by decide)) (kin_num (by decide)) (by decide)
  | .name, d, _, n, p, hn => by
    obtain ⟨n, rfl⟩ : ∃ k, n = k + 1 := ⟨n - 1, by omega⟩
    exact kin_nm (k := kC) S.f (by decide)
  | .plus a b, d, h, n, p, hn => by
    rw [SmE.dep] at h
    obtain ⟨d, rfl⟩ : ∃ k, d = k + 1 := ⟨d - 1, by omega⟩
    obtain ⟨n, rfl⟩ : ∃ k, n = k + 3 := ⟨n - 3, by omega⟩
    exact kin_call (k1 := kC) (by decide) (kin_call (k1 := kC) (by decide) (kin_nm (k := k11') S.b (by decide)) (fold_kin S a d (by omega) (n + 1) _ (by omega)) (by decide)) (fold_kin S b d (by omega) (n + 2) _ (by omega)) (by decide)
  | .times a b, d, h, n, p, hn => by
    rw [SmE.dep] at h
    obtain ⟨d, rfl⟩ : ∃ k, d = k + 1 := ⟨d - 1, by omega⟩
    obtain ⟨n, rfl⟩ : ∃ k, n = k + 3 := ⟨n - 3, by omega⟩
    exact kin_call (k1 := kC) (by decide) (kin_call (k1 := kC) (by decide) (kin_nm (k := k11') S.d (by decide)) (fold_kin S a d (by omega) (n + 1) _ (by omega)) (by decide)) (fold_kin S b d (by omega) (n + 2) _ (by omega)) (by decide)
  | .ite a b c', d, h, n, p, hn => by
    rw [SmE.dep] at h
    obtain ⟨d, rfl⟩ : ∃ k, d = k + 1 := ⟨d - 1, by omega⟩
    obtain ⟨n, rfl⟩ : ∃ k, n = k + 4 := ⟨n - 4, by omega⟩
    exact kin_call (k1 := kC) (by decide) (kin_call (k1 := kC) (by decide) (kin_call (k1 := kC) (by decide) (kin_nm (k := k13') S.e (by decide)) (fold_kin S a d (by omega) (n + 1) _ (by omega)) (by decide)) (fold_kin S b d (by omega) (n + 2) _ (by omega)) (by decide)) (fold_kin S c' d (by omega) (n + 3) _ (by omega)) (by decide)
def whole24 (s : SmE) : Ex := xQuote (xFun 0 .num (xNow (xCall (makers24 s.fold) (xQuote (xName 0)))))
def kd24 : Kd := .code (.to .num .num)
def called24 (s : SmE) (x : Int) : Ex := xQuote (xCall (xNow (whole24 s)) (xNum x))
def fin24 (s : SmE) : Ex := xFun 0 .num s.ex
theorem num24_kin {n : Nat} {p : List Int} {c : Ctx} : Kin (n + 4) num24 p 0 c [] k10' := by
  refine kin_fun (by decide) (by decide) (kin_quote (by decide) ?_ (by decide)) (by decide)
  refine kin_one (w := .carry) (ns := []) (ks := []) (k1 := .num) (by decide) (by decide) (fun _ _ _ => rfl) (by decide) rfl ?_ rfl (by decide)
  exact kin_nm (k := .num) (by rw [look_put, if_pos rfl]; rfl) (by decide)
theorem both24_kin {n : Nat} {w : Wd} (hw : w = .plus ∨ w = .times) {p : List Int} {c : Ctx} : Kin (n + 6) (both24 w) p 0 c [] k11' := by
  refine kin_fun (by decide) (by decide) (kin_fun (by decide) (by decide) (kin_quote (by decide) ?_ (by decide)) (by decide)) (by decide)
  have g1 : ∀ {n : Nat} {q : List Int}, Kin (n + 2) (hole24 1) q (0 + 1) (put (put c 1 ⟨0, .code .num, []⟩) 2 ⟨0, .code .num, []⟩) [] .num := kin_now (by decide) (kin_nm (k := .code .num) (by rw [look_put, if_neg (by decide), look_put, if_pos rfl]; rfl) (by decide)) (by decide)
  have g2 : ∀ {n : Nat} {q : List Int}, Kin (n + 2) (hole24 2) q (0 + 1) (put (put c 1 ⟨0, .code .num, []⟩) 2 ⟨0, .code .num, []⟩) [] .num := kin_now (by decide) (kin_nm (k := .code .num) (by rw [look_put, if_pos rfl]; rfl) (by decide)) (by decide)
  rcases hw with rfl | rfl
  · exact kin_two (w := .plus) (by decide) (by decide) (by decide) (fun _ _ _ => rfl) (by decide) rfl g1 g2 rfl (by decide)
  · exact kin_two (w := .times) (by decide) (by decide) (by decide) (fun _ _ _ => rfl) (by decide) rfl g1 g2 rfl (by decide)
theorem choice24_kin {n : Nat} {p : List Int} {c : Ctx} : Kin (n + 7) choice24 p 0 c [] k13' := by
  refine kin_fun (by decide) (by decide) (kin_fun (by decide) (by decide) (kin_fun (by decide) (by decide) (kin_quote (by decide) ?_ (by decide)) (by decide)) (by decide)) (by decide)
  have g : ∀ {x : Int} {n : Nat} {q : List Int}, look (put (put (put c 1 ⟨0, .code .num, []⟩) 2 ⟨0, .code .num, []⟩) 3 ⟨0, .code .num, []⟩) x = some ⟨0, .code .num, []⟩ → Kin (n + 2) (hole24 x) q (0 + 1) (put (put (put c 1 ⟨0, .code .num, []⟩) 2 ⟨0, .code .num, []⟩) 3 ⟨0, .code .num, []⟩) [] .num := fun h => kin_now (by decide) (kin_nm (k := .code .num) h (by decide)) (by decide)
  exact kin_three (w := .ite) (by decide) (by decide) (by decide) (fun _ _ _ => rfl) (by decide) rfl (g (by rw [look_put, if_neg (by decide), look_put, if_neg (by decide), look_put, if_pos rfl])) (g (by rw [look_put, if_neg (by decide), look_put, if_pos rfl])) (g (by rw [look_put, if_pos rfl])) rfl (by decide)
theorem whole_kin (s : SmE) (hs : s.dep ≤ 4) (j : Nat) (p : List Int) : Kin (j + 30) (whole24 s) p 0 [] [] kd24 := by
  refine kin_quote (by decide) (kin_fun (by decide) (by decide) (kin_now (by decide) (kin_call (k1 := kC) (by decide) ?_ ?_ (by decide)) (by decide)) (by decide)) (by decide)
  · refine kin_let (k1 := k10') (by decide) (num24_kin (n := j + 21)) ?_ (by decide)
    refine kin_let (k1 := k11') (by decide) (both24_kin (n := j + 18) (.inl rfl)) ?_ (by decide)
    refine kin_let (k1 := k11') (by decide) (both24_kin (n := j + 17) (.inr rfl)) ?_ (by decide)
    refine kin_let (k1 := k13') (by decide) (choice24_kin (n := j + 15)) ?_ (by decide)
    refine kin_fun (by decide) (by decide) (fold_kin ⟨?_, ?_, ?_, ?_, ?_⟩ s 4 hs (j + 21) _ (by omega)) (by decide)
    · rw [look_put, if_neg (by decide), look_put, if_neg (by decide), look_put, if_neg (by decide), look_put, if_neg (by decide), look_put, if_pos rfl]; rfl
    · rw [look_put, if_neg (by decide), look_put, if_neg (by decide), look_put, if_neg (by decide), look_put, if_pos rfl]; rfl
    · rw [look_put, if_neg (by decide), look_put, if_neg (by decide), look_put, if_pos rfl]; rfl
    · rw [look_put, if_neg (by decide), look_put, if_pos rfl]; rfl
    · rw [look_put, if_pos rfl]; rfl
  · exact kin_quote (by decide) (kin_nm (n := j + 24) (k := .num) rfl (by decide)) (by decide)
/-! how great they are -/
def SmE.sz : SmE → Nat
  | .num _ => 1
  | .name => 1
  | .plus a b => 1 + a.sz + b.sz
  | .times a b => 1 + a.sz + b.sz
  | .ite a b c => 1 + a.sz + b.sz + c.sz
def SmE.it : SmE → Nat
  | .num _ => 0
  | .name => 0
  | .plus a b => a.it + b.it
  | .times a b => a.it + b.it
  | .ite a b c => 1 + a.it + b.it + c.it
theorem SmE.ex_size : ∀ s : SmE, s.ex.size = s.sz
  | .num _ => rfl
  | .name => rfl
  | .plus a b => by simp only [SmE.ex, Ex.size, Ex.sizeL, SmE.sz, a.ex_size, b.ex_size]; omega
  | .times a b => by simp only [SmE.ex, Ex.size, Ex.sizeL, SmE.sz, a.ex_size, b.ex_size]; omega
  | .ite a b c => by simp only [SmE.ex, Ex.size, Ex.sizeL, SmE.sz, a.ex_size, b.ex_size, c.ex_size]; omega
theorem SmE.ex_dep : ∀ s : SmE, s.ex.dep = s.dep
  | .num _ => rfl
  | .name => rfl
  | .plus a b => by simp only [SmE.ex, Ex.dep, Ex.depL, SmE.dep, a.ex_dep, b.ex_dep]; omega
  | .times a b => by simp only [SmE.ex, Ex.dep, Ex.depL, SmE.dep, a.ex_dep, b.ex_dep]; omega
  | .ite a b c => by simp only [SmE.ex, Ex.dep, Ex.depL, SmE.dep, a.ex_dep, b.ex_dep, c.ex_dep]; omega
theorem SmE.it_le : ∀ s : SmE, 3 * s.it + 1 ≤ s.sz
  | .num _ => Nat.le_of_ble_eq_true rfl
  | .name => Nat.le_of_ble_eq_true rfl
  | .plus a b => by have := a.it_le; have := b.it_le; simp only [SmE.it, SmE.sz]; omega
  | .times a b => by have := a.it_le; have := b.it_le; simp only [SmE.it, SmE.sz]; omega
  | .ite a b c => by have := a.it_le; have := b.it_le; have := c.it_le; simp only [SmE.it, SmE.sz]; omega
theorem SmE.fold_size : ∀ s : SmE, s.fold.size ≤ 3 * s.sz + s.it
  | .num _ => Nat.le_of_ble_eq_true rfl
  | .name => Nat.le_of_ble_eq_true rfl
  | .plus a b => by have := a.fold_size; have := b.fold_size; simp only [SmE.fold, xCall, xName, Ex.size, Ex.sizeL, SmE.it, SmE.sz]; omega
  | .times a b => by have := a.fold_size; have := b.fold_size; simp only [SmE.fold, xCall, xName, Ex.size, Ex.sizeL, SmE.it, SmE.sz]; omega
  | .ite a b c => by have := a.fold_size; have := b.fold_size; have := c.fold_size; simp only [SmE.fold, xCall, xName, Ex.size, Ex.sizeL, SmE.it, SmE.sz]; omega
theorem SmE.fold_dep : ∀ s : SmE, s.fold.dep ≤ 3 * s.dep + 1
  | .num _ => Nat.le_of_ble_eq_true rfl
  | .name => Nat.le_of_ble_eq_true rfl
  | .plus a b => by have := a.fold_dep; have := b.fold_dep; simp only [SmE.fold, xCall, xName, Ex.dep, Ex.depL, SmE.dep]; omega
  | .times a b => by have := a.fold_dep; have := b.fold_dep; simp only [SmE.fold, xCall, xName, Ex.dep, Ex.depL, SmE.dep]; omega
  | .ite a b c => by have := a.fold_dep; have := b.fold_dep; have := c.fold_dep; simp only [SmE.fold, xCall, xName, Ex.dep, Ex.depL, SmE.dep]; omega
theorem SmE.fold_good : ∀ s : SmE, s.good → s.fold.good = true
  | .num n, h => by
    have h1 : 0 ≤ n ∧ n ≤ 999 := ⟨h.1, by have := h.2; omega⟩
    simp [SmE.fold, xCall, xName, xNum, Ex.good, Ex.goodL, Wd.ar, h1]
  | .name, _ => rfl
  | .plus a b, h => by simp [SmE.fold, xCall, xName, Ex.good, Ex.goodL, Wd.ar, a.fold_good h.1, b.fold_good h.2]
  | .times a b, h => by simp [SmE.fold, xCall, xName, Ex.good, Ex.goodL, Wd.ar, a.fold_good h.1, b.fold_good h.2]
  | .ite a b c, h => by simp [SmE.fold, xCall, xName, Ex.good, Ex.goodL, Wd.ar, a.fold_good h.1, b.fold_good h.2.1, c.fold_good h.2.2]
theorem whole_size (s : SmE) : (whole24 s).size = s.fold.size + 42 := by
  simp only [whole24, makers24, num24, both24, choice24, hole24, xQuote, xFun, xNow, xCall, xLet, xName, xIf, xCarry, Ex.size, Ex.sizeL]
  omega
theorem whole_dep (s : SmE) (hs : s.dep ≤ 4) : (whole24 s).dep ≤ 30 := by
  have := s.fold_dep
  simp only [whole24, makers24, num24, both24, choice24, hole24, xQuote, xFun, xNow, xCall, xLet, xName, xIf, xCarry, Ex.dep, Ex.depL]
  omega
theorem whole_good (s : SmE) (h : s.good) : (whole24 s).good = true := by
  have h1 := s.fold_good h
  simp [whole24, makers24, num24, both24, choice24, hole24, xQuote, xFun, xNow, xCall, xLet, xName, xIf, xCarry, Ex.good, Ex.goodL, Wd.ar, h1, Kd.dep]
theorem whole_let (s : SmE) (hg : s.good) (hs : s.dep ≤ 4) (hz : s.sz < 100) : ∃ rows, Let (whole24 s) kd24 rows := by
  obtain ⟨rows, h1, h2⟩ := whole_kin s hs 11 []
  have hf := s.fold_size
  have hi := s.it_le
  have hw := whole_size s
  exact ⟨rows, whole_good s hg, by omega, by have := whole_dep s hs; omega, h1, by omega⟩
theorem called_let (s : SmE) (x : Int) (hx : 0 ≤ x ∧ x < 1000) (hg : s.good) (hs : s.dep ≤ 4) (hz : s.sz < 100) : ∃ rows, Let (called24 s x) (.code .num) rows := by
  have q : Kin 41 (called24 s x) [] 0 [] [] (.code .num) := by
    refine kin_quote (by decide) (kin_call (k1 := .num) (by decide) (kin_now (by decide) (whole_kin s hs 8 _) (by decide)) (kin_num (n := 38) (by decide)) (by decide)) (by decide)
  obtain ⟨rows, h1, h2⟩ := q
  have hf := s.fold_size
  have hi := s.it_le
  have hw := whole_size s
  have hsz : (called24 s x).size = (whole24 s).size + 4 := by simp only [called24, xQuote, xCall, xNow, xNum, Ex.size, Ex.sizeL]; omega
  have hdp : (called24 s x).dep = (whole24 s).dep + 3 := by simp only [called24, xQuote, xCall, xNow, xNum, Ex.dep, Ex.depL]; omega
  have hgd : (called24 s x).good = true := by
    have h3 := whole_good s hg
    have h4 : 0 ≤ x ∧ x ≤ 999 := by omega
    simp [called24, xQuote, xCall, xNow, xNum, Ex.good, Ex.goodL, Wd.ar, h3, h4]
  exact ⟨rows, hgd, by omega, by have := whole_dep s hs; omega, h1, by omega⟩
end Lw
set_option Elab.async false
set_option linter.all false
set_option maxRecDepth 100000
set_option maxHeartbeats 4000000
namespace Lw
open PySem PySem.Spec PyProof.Rows L2 RZ NdefX LamX
/-! ### what they come to -/
def SmE.calls : SmE → Nat
  | .num _ => 1
  | .name => 0
  | .plus a b => a.calls + b.calls + 2
  | .times a b => a.calls + b.calls + 2
  | .ite a b c => a.calls + b.calls + c.calls + 3
theorem SmE.calls_le : ∀ s : SmE, s.calls ≤ 3 * s.sz
  | .num _ => Nat.le_of_ble_eq_true rfl
  | .name => Nat.le_of_ble_eq_true rfl
  | .plus a b => by have := a.calls_le; have := b.calls_le; simp only [SmE.calls, SmE.sz]; omega
  | .times a b => by have := a.calls_le; have := b.calls_le; simp only [SmE.calls, SmE.sz]; omega
  | .ite a b c => by have := a.calls_le; have := b.calls_le; have := c.calls_le; simp only [SmE.calls, SmE.sz]; omega
structure EnvS (E : En) : Prop where
  a : ∃ e, look E 10 = some (.fn num24 e) ∧ e.length ≤ 1000
  b : ∃ e, look E 11 = some (.fn (both24 .plus) e) ∧ e.length ≤ 1000
  d : ∃ e, look E 12 = some (.fn (both24 .times) e) ∧ e.length ≤ 1000
  e : ∃ e, look E 13 = some (.fn choice24 e) ∧ e.length ≤ 1000
  f : look E 20 = some (.code (xName 0))
theorem put_le {α : Type} {l : List (Int × α)} {k : Int} {y : α} {n : Nat} (h : l.length ≤ n) : (put l k y).length ≤ n + 1 := Nat.le_trans (put_len l k y) (Nat.succ_le_succ h)
theorem app10 {n l m : Nat} {e : En} {x : Int} (he : e.length ≤ 1000) (h0 : l ≠ 0) : evCall (ev (n + 4)).1 (.fn num24 e) (.int x) l m = .ok (.code (xNum x)) (l - 1) m := by
  have h1 : (put e 1 (Th.int x)).length ≤ 100000 := by have := put_le (k := 1) (y := Th.int x) he; omega
  rw [show num24 = xFun 1 .num (xQuote (xCarry (xName 1))) from rfl, evCall_fun h0 (by omega)]
  exact ev_quote (evc_carry h1 (ev_name (by rw [look_put, if_pos rfl])) rfl) (by show 1 ≤ 400; decide) (by show 0 ≤ 40; decide)
theorem app11 {n l m : Nat} {e : En} {A : Ex} {w : Wd} (he : e.length ≤ 1000) (h0 : l ≠ 0) : evCall (ev (n + 1)).1 (.fn (both24 w) e) (.code A) l m = .ok (.fn (xFun 2 (.code .num) (xQuote (.node w [] [] [hole24 1, hole24 2]))) (put e 1 (.code A))) (l - 1) m := by
  rw [show both24 w = xFun 1 (.code .num) (xFun 2 (.code .num) (xQuote (.node w [] [] [hole24 1, hole24 2]))) from rfl, evCall_fun h0 (by omega)]
  exact ev_fun
theorem hole_ev {n l m : Nat} {E : En} {A : Ex} {k : Int} (hE : E.length ≤ 100000) (h : look E k = some (.code A)) : (ev (n + 2)).2 (hole24 k) E 1 l m = .ok A l m := evc_now hE (ev_name h)
theorem app11b {n l m : Nat} {e : En} {A B : Ex} {w : Wd} (hw : w = .plus ∨ w = .times) (he : e.length ≤ 1000) (h0 : l ≠ 0) (hs : (Ex.node w [] [] [A, B]).size ≤ 400) (hd : (Ex.node w [] [] [A, B]).dep ≤ 40) :
    evCall (ev (n + 5)).1 (.fn (xFun 2 (.code .num) (xQuote (.node w [] [] [hole24 1, hole24 2]))) (put e 1 (.code A))) (.code B) l m = .ok (.code (.node w [] [] [A, B])) (l - 1) m := by
  have h1 : (put e 1 (Th.code A)).length ≤ 1001 := put_le he
  have h2 : (put (put e 1 (Th.code A)) 2 (.code B)).length ≤ 100000 := by have := put_le (k := 2) (y := Th.code B) h1; omega
  rw [evCall_fun h0 (by omega)]
  have hwl : w.later = 0 := by rcases hw with rfl | rfl <;> rfl
  refine ev_quote (evc_two (l1 := l - 1) (m1 := m) h2 (by rcases hw with rfl | rfl <;> rfl) (by rcases hw with rfl | rfl <;> decide) (fun _ => by rcases hw with rfl | rfl <;> decide) ?_ ?_) hs hd
  · rw [hwl]
    exact hole_ev h2 (by rw [look_put, if_neg (by decide), look_put, if_pos rfl])
  · rw [hwl]
    exact hole_ev h2 (by rw [look_put, if_pos rfl])
theorem app13 {n l m : Nat} {e : En} {A : Ex} (he : e.length ≤ 1000) (h0 : l ≠ 0) : evCall (ev (n + 1)).1 (.fn choice24 e) (.code A) l m = .ok (.fn (xFun 2 (.code .num) (xFun 3 (.code .num) (xQuote (xIf (hole24 1) (hole24 2) (hole24 3))))) (put e 1 (.code A))) (l - 1) m := by
  rw [show choice24 = xFun 1 (.code .num) (xFun 2 (.code .num) (xFun 3 (.code .num) (xQuote (xIf (hole24 1) (hole24 2) (hole24 3))))) from rfl, evCall_fun h0 (by omega)]
  exact ev_fun
theorem app13b {n l m : Nat} {e : En} {B : Ex} (he : e.length ≤ 2000) (h0 : l ≠ 0) : evCall (ev (n + 1)).1 (.fn (xFun 2 (.code .num) (xFun 3 (.code .num) (xQuote (xIf (hole24 1) (hole24 2) (hole24 3))))) e) (.code B) l m = .ok (.fn (xFun 3 (.code .num) (xQuote (xIf (hole24 1) (hole24 2) (hole24 3)))) (put e 2 (.code B))) (l - 1) m := by
  rw [evCall_fun h0 (by omega)]
  exact ev_fun
theorem app13c {n l m : Nat} {e : En} {A B D : Ex} (he : e.length ≤ 1000) (h0 : l ≠ 0) (hs : (xIf A B D).size ≤ 400) (hd : (xIf A B D).dep ≤ 40) :
    evCall (ev (n + 5)).1 (.fn (xFun 3 (.code .num) (xQuote (xIf (hole24 1) (hole24 2) (hole24 3)))) (put (put e 1 (.code A)) 2 (.code B))) (.code D) l m = .ok (.code (xIf A B D)) (l - 1) m := by
  have h1 : (put e 1 (Th.code A)).length ≤ 1001 := put_le he
  have h2 : (put (put e 1 (Th.code A)) 2 (.code B)).length ≤ 1002 := put_le h1
  have h3 : (put (put (put e 1 (Th.code A)) 2 (.code B)) 3 (.code D)).length ≤ 100000 := by have := put_le (k := 3) (y := Th.code D) h2; omega
  rw [evCall_fun h0 (by omega)]
  refine ev_quote (evc_three (l1 := l - 1) (m1 := m) (l2 := l - 1) (m2 := m) h3 (w := .ite) rfl (by decide) (fun _ => by decide) ?_ ?_ ?_) hs hd
  · exact hole_ev h3 (by rw [look_put, if_neg (by decide), look_put, if_neg (by decide), look_put, if_pos rfl])
  · exact hole_ev h3 (by rw [look_put, if_neg (by decide), look_put, if_pos rfl])
  · exact hole_ev h3 (by rw [look_put, if_pos rfl])
theorem fold_ev {E : En} (S : EnvS E) : ∀ (s : SmE) (d : Nat), s.dep ≤ d → d ≤ 20 → s.sz ≤ 200 → ∀ n l m : Nat, 3 * d + 8 ≤ n → s.calls ≤ l → (ev n).1 s.fold E l m = .ok (.code s.ex) (l - s.calls) m
  | .num x, d, _, _, _, n, l, m, hn, hl => by
    obtain ⟨n, rfl⟩ : ∃ k, n = k + 5 := ⟨n - 5, by omega⟩
    obtain ⟨e, h1, h2⟩ := S.a
    have hl' : 1 ≤ l := hl
    exact ev_call (ev_name h1) ev_num (app10 h2 (by omega))
  | .name, d, _, _, _, n, l, m, hn, hl => by
    obtain ⟨n, rfl⟩ : ∃ k, n = k + 1 := ⟨n - 1, by omega⟩
    exact ev_name S.f
  | .plus a b, d, h, hd, hz, n, l, m, hn, hl => by
    simp only [SmE.dep, SmE.sz, SmE.calls] at h hz hl
    obtain ⟨d, rfl⟩ : ∃ k, d = k + 1 := ⟨d - 1, by omega⟩
    obtain ⟨n, rfl⟩ : ∃ k, n = k + 7 := ⟨n - 7, by omega⟩
    obtain ⟨e, h1, h2⟩ := S.b
    have ha := fold_ev S a d (by omega) (by omega) (by omega) (n + 5) l m (by omega) (by omega)
    have hb := fold_ev S b d (by omega) (by omega) (by omega) (n + 6) (l - a.calls - 1) m (by omega) (by omega)
    have hsz : (Ex.node .plus [] [] [a.ex, b.ex]).size ≤ 400 := by have := a.ex_size; have := b.ex_size; simp only [Ex.size, Ex.sizeL]; omega
    have hdp : (Ex.node .plus [] [] [a.ex, b.ex]).dep ≤ 40 := by have := a.ex_dep; have := b.ex_dep; simp only [Ex.dep, Ex.depL]; omega
    have r := ev_call (n := n + 6) (ev_call (n := n + 5) (ev_name h1) ha (app11 (n := n + 4) h2 (by omega))) hb (app11b (n := n + 1) (.inl rfl) h2 (by omega) hsz hdp)
    rw [show SmE.fold (.plus a b) = xCall (xCall (xName 11) a.fold) b.fold from rfl, r]
    congr 1
    simp only [SmE.calls]
    omega
  | .times a b, d, h, hd, hz, n, l, m, hn, hl => by
    simp only [SmE.dep, SmE.sz, SmE.calls] at h hz hl
    obtain ⟨d, rfl⟩ : ∃ k, d = k + 1 := ⟨d - 1, by omega⟩
    obtain ⟨n, rfl⟩ : ∃ k, n = k + 7 := ⟨n - 7, by omega⟩
    obtain ⟨e, h1, h2⟩ := S.d
    have ha := fold_ev S a d (by omega) (by omega) (by omega) (n + 5) l m (by omega) (by omega)
    have hb := fold_ev S b d (by omega) (by omega) (by omega) (n + 6) (l - a.calls - 1) m (by omega) (by omega)
    have hsz : (Ex.node .times [] [] [a.ex, b.ex]).size ≤ 400 := by have := a.ex_size; have := b.ex_size; simp only [Ex.size, Ex.sizeL]; omega
    have hdp : (Ex.node .times [] [] [a.ex, b.ex]).dep ≤ 40 := by have := a.ex_dep; have := b.ex_dep; simp only [Ex.dep, Ex.depL]; omega
    have r := ev_call (n := n + 6) (ev_call (n := n + 5) (ev_name h1) ha (app11 (n := n + 4) h2 (by omega))) hb (app11b (n := n + 1) (.inr rfl) h2 (by omega) hsz hdp)
    rw [show SmE.fold (.times a b) = xCall (xCall (xName 12) a.fold) b.fold from rfl, r]
    congr 1
    simp only [SmE.calls]
    omega
  | .ite a b c, d, h, hd, hz, n, l, m, hn, hl => by
    simp only [SmE.dep, SmE.sz, SmE.calls] at h hz hl
    obtain ⟨d, rfl⟩ : ∃ k, d = k + 1 := ⟨d - 1, by omega⟩
    obtain ⟨n, rfl⟩ : ∃ k, n = k + 8 := ⟨n - 8, by omega⟩
    obtain ⟨e, h1, h2⟩ := S.e
    have ha := fold_ev S a d (by omega) (by omega) (by omega) (n + 5) l m (by omega) (by omega)
    have hb := fold_ev S b d (by omega) (by omega) (by omega) (n + 6) (l - a.calls - 1) m (by omega) (by omega)
    have hc := fold_ev S c d (by omega) (by omega) (by omega) (n + 7) (l - a.calls - 1 - b.calls - 1) m (by omega) (by omega)
    have hsz : (xIf a.ex b.ex c.ex).size ≤ 400 := by have := a.ex_size; have := b.ex_size; have := c.ex_size; simp only [xIf, Ex.size, Ex.sizeL]; omega
    have hdp : (xIf a.ex b.ex c.ex).dep ≤ 40 := by have := a.ex_dep; have := b.ex_dep; have := c.ex_dep; simp only [xIf, Ex.dep, Ex.depL]; omega
    have h3 : (put e 1 (Th.code a.ex)).length ≤ 1001 := put_le h2
    have r := ev_call (n := n + 7) (ev_call (n := n + 6) (ev_call (n := n + 5) (ev_name h1) ha (app13 (n := n + 4) h2 (by omega))) hb (app13b (n := n + 5) (by omega) (by omega))) hc (app13c (n := n + 2) h2 (by omega) hsz hdp)
    rw [show SmE.fold (.ite a b c) = xCall (xCall (xCall (xName 13) a.fold) b.fold) c.fold from rfl, r]
    congr 1
    simp only [SmE.calls]
    omega
theorem val_ev {E : En} {x : Int} (hE : look E 0 = some (.int x)) (hx : 0 ≤ x ∧ x < 1000) : ∀ (s : SmE), s.good → ∀ n l m : Nat, s.dep + 1 ≤ n → (ev n).1 s.ex E l m = .ok (.int (s.val x)) l m
  | .num k, _, n, l, m, hn => by
    obtain ⟨n, rfl⟩ : ∃ k, n = k + 1 := ⟨n - 1, by omega⟩
    exact ev_num
  | .name, _, n, l, m, hn => by
    obtain ⟨n, rfl⟩ : ∃ k, n = k + 1 := ⟨n - 1, by omega⟩
    exact ev_name hE
  | .plus a b, h, n, l, m, hn => by
    simp only [SmE.dep] at hn
    obtain ⟨n, rfl⟩ : ∃ k, n = k + 1 := ⟨n - 1, by omega⟩
    exact ev_op (.inl rfl) (val_ev hE hx a h.1 n l m (by omega)) (val_ev hE hx b h.2 n l m (by omega)) rfl
  | .times a b, h, n, l, m, hn => by
    simp only [SmE.dep] at hn
    obtain ⟨n, rfl⟩ : ∃ k, n = k + 1 := ⟨n - 1, by omega⟩
    have hb := SmE.val_bd hx a h.1
    refine ev_op (.inr (.inl rfl)) (val_ev hE hx a h.1 n l m (by omega)) (val_ev hE hx b h.2 n l m (by omega)) ?_
    unfold reck
    rw [if_neg (by decide), if_pos rfl, if_pos ⟨by omega, by omega⟩]
    rfl
  | .ite a b c, h, n, l, m, hn => by
    simp only [SmE.dep] at hn
    obtain ⟨n, rfl⟩ : ∃ k, n = k + 1 := ⟨n - 1, by omega⟩
    refine ev_if (val_ev hE hx a h.1 n l m (by omega)) ?_
    rw [SmE.val]
    by_cases h0 : a.val x = 0
    · rw [if_pos h0, if_pos h0]
      exact val_ev hE hx c h.2.2 n l m (by omega)
    · rw [if_neg h0, if_neg h0]
      exact val_ev hE hx b h.2.1 n l m (by omega)
theorem whole_ev (s : SmE) (hs : s.dep ≤ 4) (hz : s.sz < 100) (n l : Nat) (hn : 60 ≤ n) (hl : 400 ≤ l) : ∃ l', (ev n).1 (whole24 s) [] l 0 = .ok (.code (fin24 s)) l' 1 := by
  obtain ⟨n, rfl⟩ : ∃ k, n = k + 60 := ⟨n - 60, by omega⟩
  have hc := s.calls_le
  let E0 : En := put [] 0 (.int ((0 : Nat) : Int))
  let E1 : En := put E0 10 (.fn num24 E0)
  let E2 : En := put E1 11 (.fn (both24 .plus) E1)
  let E3 : En := put E2 12 (.fn (both24 .times) E2)
  let E4 : En := put E3 13 (.fn choice24 E3)
  let E5 : En := put E4 20 (.code (xName 0))
  have l0 : E0.length ≤ 1 := put_le (Nat.le_refl 0)
  have l1 : E1.length ≤ 2 := put_le l0
  have l2 : E2.length ≤ 3 := put_le l1
  have l3 : E3.length ≤ 4 := put_le l2
  have l4 : E4.length ≤ 5 := put_le l3
  have S : EnvS E5 := by
    refine ⟨⟨E0, ?_, by omega⟩, ⟨E1, ?_, by omega⟩, ⟨E2, ?_, by omega⟩, ⟨E3, ?_, by omega⟩, ?_⟩
    · rw [look_put, if_neg (by decide), look_put, if_neg (by decide), look_put, if_neg (by decide), look_put, if_neg (by decide), look_put, if_pos rfl]
    · rw [look_put, if_neg (by decide), look_put, if_neg (by decide), look_put, if_neg (by decide), look_put, if_pos rfl]
    · rw [look_put, if_neg (by decide), look_put, if_neg (by decide), look_put, if_pos rfl]
    · rw [look_put, if_neg (by decide), look_put, if_pos rfl]
    · rw [look_put, if_pos rfl]
  have hf := fold_ev S s 4 hs (by omega) (by omega) (n + 56) (l - 1) 1 (by omega) (by omega)
  have hcall : evCall (ev (n + 56)).1 (.fn (xFun 20 (.code .num) s.fold) E4) (.code (xName 0)) l 1 = .ok (.code s.ex) (l - 1 - s.calls) 1 := by
    rw [evCall_fun (by omega) (by omega)]
    exact hf
  refine ⟨l - 1 - s.calls, ?_⟩
  have hsz := s.ex_size
  have hdp := s.ex_dep
  refine ev_quote (n := n + 59) (evc_fun (Nat.zero_le _) (evc_now (n := n + 57) (by show E0.length ≤ 100000; omega) (ev_call (n := n + 56) (f := .fn (xFun 20 (.code .num) s.fold) E4) (v := .code (xName 0)) (l1 := l) (m1 := 1) (l2 := l) (m2 := 1) ?_ ?_ hcall))) (by simp only [fin24, xFun, Ex.size, Ex.sizeL]; omega) (by simp only [fin24, xFun, Ex.dep, Ex.depL]; omega)
  · refine ev_let (n := n + 55) (t := .fn num24 E0) (l1 := l) (m1 := 1) rfl (show E0.length ≤ 100000 by omega) ?_
    refine ev_let (n := n + 54) (t := .fn (both24 .plus) E1) (l1 := l) (m1 := 1) rfl (show E1.length ≤ 100000 by omega) ?_
    refine ev_let (n := n + 53) (t := .fn (both24 .times) E2) (l1 := l) (m1 := 1) rfl (show E2.length ≤ 100000 by omega) ?_
    exact ev_let (n := n + 52) (t := .fn choice24 E3) (l1 := l) (m1 := 1) rfl (show E3.length ≤ 100000 by omega) rfl
  · exact ev_quote (n := n + 55) (c := xName 0) (evc_name (n := n + 54) (k := ((0 : Nat) : Int)) (by show E0.length ≤ 100000; omega) (by rw [look_put, if_pos rfl])) (by decide) (by decide)
theorem ren_sum {m : Nat} : ∀ (s : SmE) (n : Nat), s.dep + 1 ≤ n → ren n m [(0, 0)] s.ex = some (s.ex, m)
  | .num k, n, hn => by
    obtain ⟨n, rfl⟩ : ∃ k, n = k + 1 := ⟨n - 1, by omega⟩
    rfl
  | .name, n, hn => by
    obtain ⟨n, rfl⟩ : ∃ k, n = k + 1 := ⟨n - 1, by omega⟩
    rfl
  | .plus a b, n, hn => by
    simp only [SmE.dep] at hn
    obtain ⟨n, rfl⟩ : ∃ k, n = k + 1 := ⟨n - 1, by omega⟩
    simp [SmE.ex, ren, renIn, renMap, Ex.w, Ex.ns, Ex.ks, Ex.es, Wd.binds, bindsI, putAll, ren_sum a n (by omega), ren_sum b n (by omega)]
  | .times a b, n, hn => by
    simp only [SmE.dep] at hn
    obtain ⟨n, rfl⟩ : ∃ k, n = k + 1 := ⟨n - 1, by omega⟩
    simp [SmE.ex, ren, renIn, renMap, Ex.w, Ex.ns, Ex.ks, Ex.es, Wd.binds, bindsI, putAll, ren_sum a n (by omega), ren_sum b n (by omega)]
  | .ite a b c, n, hn => by
    simp only [SmE.dep] at hn
    obtain ⟨n, rfl⟩ : ∃ k, n = k + 1 := ⟨n - 1, by omega⟩
    simp [SmE.ex, ren, renIn, renMap, Ex.w, Ex.ns, Ex.ks, Ex.es, Wd.binds, bindsI, putAll, ren_sum a n (by omega), ren_sum b n (by omega), ren_sum c n (by omega)]
theorem ren_fin (s : SmE) (n : Nat) (hn : s.dep + 2 ≤ n) : ren n 0 [] (fin24 s) = some (fin24 s, 1) := by
  obtain ⟨n, rfl⟩ : ∃ k, n = k + 1 := ⟨n - 1, by omega⟩
  have h := ren_sum (m := 1) s n (by omega)
  show (match renIn (ren n) .fn [0] [s.ex] 0 [] with | none => none | some (es, m') => some (Ex.node .fn (nums 0 1) [.num] es, m')) = _
  have e : renIn (ren n) .fn [0] [s.ex] 0 [] = some ([s.ex], 1) := by
    show renMap (fun k e => ren n k [(0, 0)] e) 1 [s.ex] = _
    rw [renMap, h]
    rfl
  rw [e]
  rfl
theorem ren_called (s : SmE) (x : Int) (n : Nat) (hn : s.dep + 3 ≤ n) : ren n 0 [] (xCall (fin24 s) (xNum x)) = some (xCall (fin24 s) (xNum x), 1) := by
  obtain ⟨n, rfl⟩ : ∃ k, n = k + 1 := ⟨n - 1, by omega⟩
  have h := ren_fin s n (by omega)
  have h2 : ren n 1 [] (xNum x) = some (xNum x, 1) := by
    obtain ⟨n, rfl⟩ : ∃ k, n = k + 1 := ⟨n - 1, by omega⟩
    rfl
  show (match renIn (ren n) .call [] [fin24 s, xNum x] 0 [] with | none => none | some (es, m') => some (Ex.node .call [] [] es, m')) = _
  have e : renIn (ren n) .call [] [fin24 s, xNum x] 0 [] = some ([fin24 s, xNum x], 1) := by
    show renMap (fun k e => ren n k [] e) 0 [fin24 s, xNum x] = _
    rw [renMap, h]
    show (match renMap (fun k e => ren n k [] e) 1 [xNum x] with | none => none | some (r', m2) => some (fin24 s :: r', m2)) = _
    rw [renMap, h2]
    rfl
  rw [e]
  rfl
theorem whole_out (s : SmE) (hs : s.dep ≤ 4) (hz : s.sz < 100) : ∃ n, outc n (whole24 s) kd24 900 = some (.fin (.quote (fin24 s))) := by
  refine evOut_ok (n := 60) (by decide) ?_
  obtain ⟨l', h⟩ := whole_ev s hs hz 60 900 (by decide) (by decide)
  unfold evOut
  rw [h]
  show (shown (.code (fin24 s)) kd24).map Oc.fin = _
  rw [kd24, shown, ren_fin s 41 (by omega)]
  rfl
theorem called_out (s : SmE) (x : Int) (hs : s.dep ≤ 4) (hz : s.sz < 100) : ∃ n, outc n (called24 s x) (.code .num) 900 = some (.fin (.quote (xCall (fin24 s) (xNum x)))) := by
  refine evOut_ok (n := 70) (by decide) ?_
  obtain ⟨l', h⟩ := whole_ev s hs hz 67 900 (by decide) (by decide)
  have hsz := s.ex_size
  have hdp := s.ex_dep
  have q : (ev 70).1 (called24 s x) [] 900 0 = .ok (.code (xCall (fin24 s) (xNum x))) l' 1 :=
    ev_quote (n := 69) (evc_two (n := 68) (w := .call) (l1 := l') (m1 := 1) (Nat.zero_le _) rfl (by decide) (fun _ => by decide) (evc_now (n := 67) (Nat.zero_le _) h) (evc_num (n := 67) (Nat.zero_le _)))
      (by simp only [xCall, fin24, xFun, xNum, Ex.size, Ex.sizeL]; omega) (by simp only [xCall, fin24, xFun, xNum, Ex.dep, Ex.depL]; omega)
  unfold evOut
  rw [q]
  show (shown (.code (xCall (fin24 s) (xNum x))) (.code .num)).map Oc.fin = _
  rw [shown, ren_called s x 41 (by omega)]
  rfl
theorem fin_out (s : SmE) (x : Int) (hx : 0 ≤ x ∧ x < 1000) (hg : s.good) (hs : s.dep ≤ 4) : ∃ n, outc n (xCall (fin24 s) (xNum x)) .num 900 = some (.fin (.num (s.val x))) := by
  refine evOut_ok (n := 10) (by decide) ?_
  have h := val_ev (E := put [] 0 (.int x)) (by rw [look_put, if_pos rfl]) hx s hg 9 899 0 (by omega)
  have q : (ev 10).1 (xCall (fin24 s) (xNum x)) [] 900 0 = .ok (.int (s.val x)) 899 0 := by
    refine ev_call (n := 9) (f := .fn (fin24 s) []) (v := .int x) (l1 := 900) (m1 := 0) (l2 := 900) (m2 := 0) rfl rfl ?_
    rw [fin24, evCall_fun (by decide) (Nat.zero_le _)]
    exact h
  unfold evOut
  rw [q]
  rfl
theorem SmE.ex_ok : ∀ s : SmE, s.ex.ok = true
  | .num _ => rfl
  | .name => rfl
  | .plus a b => by simp [SmE.ex, Ex.ok, Ex.okL, Wd.ar, a.ex_ok, b.ex_ok]
  | .times a b => by simp [SmE.ex, Ex.ok, Ex.okL, Wd.ar, a.ex_ok, b.ex_ok]
  | .ite a b c => by simp [SmE.ex, Ex.ok, Ex.okL, Wd.ar, a.ex_ok, b.ex_ok, c.ex_ok]
theorem fin_ok (s : SmE) (x : Int) : (xCall (fin24 s) (xNum x)).ok = true := by simp [xCall, fin24, xFun, xNum, Ex.ok, Ex.okL, Wd.ar, s.ex_ok]
theorem shal_ex : ∀ (s : SmE) (n : Nat), s.dep + 2 ≤ n → shal n s.ex.d = true
  | .num k, n, hn => by
    obtain ⟨n, rfl⟩ : ∃ k, n = k + 2 := ⟨n - 2, by omega⟩
    rfl
  | .name, n, hn => by
    obtain ⟨n, rfl⟩ : ∃ k, n = k + 2 := ⟨n - 2, by omega⟩
    rfl
  | .plus a b, n, hn => by
    simp only [SmE.dep] at hn
    obtain ⟨n, rfl⟩ : ∃ k, n = k + 2 := ⟨n - 2, by omega⟩
    have h1 := shal_ex a (n + 1) (by omega)
    have h2 := shal_ex b (n + 1) (by omega)
    show shal (n + 2) (.tuple [.str Wd.plus.s, a.ex.d, b.ex.d]) = true
    simp [shal, h1, h2]
  | .times a b, n, hn => by
    simp only [SmE.dep] at hn
    obtain ⟨n, rfl⟩ : ∃ k, n = k + 2 := ⟨n - 2, by omega⟩
    have h1 := shal_ex a (n + 1) (by omega)
    have h2 := shal_ex b (n + 1) (by omega)
    show shal (n + 2) (.tuple [.str Wd.times.s, a.ex.d, b.ex.d]) = true
    simp [shal, h1, h2]
  | .ite a b c, n, hn => by
    simp only [SmE.dep] at hn
    obtain ⟨n, rfl⟩ : ∃ k, n = k + 2 := ⟨n - 2, by omega⟩
    have h1 := shal_ex a (n + 1) (by omega)
    have h2 := shal_ex b (n + 1) (by omega)
    have h3 := shal_ex c (n + 1) (by omega)
    show shal (n + 2) (.tuple [.str Wd.ite.s, a.ex.d, b.ex.d, c.ex.d]) = true
    simp [shal, h1, h2, h3]
theorem shal_fin (s : SmE) (hs : s.dep ≤ 4) : shal 30 (Oc.fin (.quote (fin24 s))).md = true := by
  have h := shal_ex s 28 (by omega)
  show shal 30 (.tuple [.str ("end" : Str), .tuple [.str Wd.fn.s, .int 0, .str "num", s.ex.d]]) = true
  simp [shal, h]
end Lw
set_option Elab.async false
set_option linter.all false
set_option maxRecDepth 100000
set_option maxHeartbeats 4000000
namespace Lw
open PySem PySem.Spec PyProof.Rows L2 RZ NdefX LamX
def spLaw (K : PySem.W.Frag) (T : List NTab) : Sp := fun vs H Q _ => ∃ (S : Addr) (xs : List Int), vs = [.ref S] ∧ SqL K H S (xs.map V.int) ∧ xs.length ≤ sizeLine ∧ TabsN T H ∧ ∀ H', Q (.bl true) H'
section
variable {P : Program} {w : World} {K : PySem.W.Frag} {mg : Str → Option Value} {base : Heap} {dF dK dL dB : Addr} {T : List NTab}
abbrev ns_law : List Str := ["_law_script", "_law_row", "_law_turn", "_law_e", "_law_walk", "_law_whole", "_law_again", "_law_number", "_law_called"]
theorem sc_law : FnScope ns_law ["_law_script"] (defScope s_law) := ⟨rfl, rfl, rfl, by decide +kernel, rfl, by decide +kernel, by decide +kernel⟩
theorem ok_law {f : Addr} {fd : FuncData} (F : Fun K "law" "law" s_law f fd) (C : Cst K w mg dF dK dL dB) (GT : Dfn P w K mg base "_law_taken" 1 psTk (spTaken K)) (GA : Dfn P w K mg base "_law_alike" 30 psAl (spAlike K 30))
    (GS : Dfn P w K mg base "_law_sum_of" 6 ["_law_row", "_law_deep"] (spSumOf K 6)) (GN : Dfn P w K mg base "_law_many" 6 ["_law_e"] (spMany K 5)) (GF : Dfn P w K mg base "_law_folded" 5 ["_law_e"] (spFolded K 5)) (GV : Dfn P w K mg base "_law_come_to" 5 ["_law_e", "_law_number"] (spComeTo K 5)) (GMk : Dfn P w K mg base "_law_makers" 1 ["_law_inner"] (spMakers K))
    (GL : DfnW P w K mg base "levels" "most" 156 ["program", "most"] (spLevels K T)) (GM : DfnW P w K mg base "made" "most" 157 ["program", "most"] (spMade K T)) : FnOk P w K mg base CX0 158 f fd ["_law_script"] (spLaw K T) := by
  refine F.ok sc_law (fun vs H Q E h => ?_) (fun cdv A outer s H vs Q E hr h => ?_)
  · obtain ⟨S, xs, rfl, _⟩ := h
    rfl
  · obtain ⟨S, xs, rfl, hS, hx, hT, k⟩ := h
    have hr1 : Room 1 _ := hr.mono (by decide)
    have hr5 : Room 5 _ := hr.mono (by decide)
    have hr6 : Room 6 _ := hr.mono (by decide)
    have hr30 : Room 30 _ := hr.mono (by decide)
    have hr156 : Room 156 _ := hr.mono (by decide)
    refine ⟨_, (pss_cons (ps_set (i := 1) sc_law.nd rfl (Or.inl rfl) (pe_lst (pa_cons (pv 0) (pa_cons (pe_int) (pa_cons (pe_int) (pa_cons (pe_int) (pa_nil))))))) (pss_cons (ps_for PassesOwn.never rfl (pi_range1 (by rfl) C.range (pa_cons (pe_int) (pa_nil))) (pg_name (i := 2) sc_law.nd rfl (Or.inl rfl))
  (pss_cons (ps_set (i := 3) sc_law.nd rfl (Or.inl rfl) (pe_callD GS hr6 (by rfl) (pa_cons (pv 1) (pa_cons (pe_callD GT hr1 (by rfl) (pa_cons (pv 1) (pa_cons (pe_int) (pa_nil)))) (pa_nil))))) (C8.pss_cut (ps_set (i := 3) sc_law.nd rfl (Or.inl rfl) (pe_ifExp (pt_cmpR op_lt (pe_callD GN hr6 (by rfl) (pa_cons (pv 3) (pa_nil))) (pe_int) (nomark _)) (pv 3) (pe_tup (pa_cons (pe_str) (pa_cons (pe_int) (pa_nil)))))) (pss_cons (ps_set (i := 4) sc_law.nd rfl (Or.inl rfl) (pe_callD GMk hr1 (by rfl) (pa_cons (pe_callD GF hr5 (by rfl) (pa_cons (pv 3) (pa_nil))) (pa_nil)))) (pss_cons (ps_set (i := 5) sc_law.nd rfl (Or.inl rfl) (pe_tup (pa_cons (pe_str) (pa_cons (pe_tup (pa_cons (pe_str) (pa_cons (pe_int) (pa_cons (pe_str) (pa_cons (pe_tup (pa_cons (pe_str) (pa_cons (pe_tup (pa_cons (pe_str) (pa_cons (pv 4) (pa_cons (pe_tup (pa_cons (pe_str) (pa_cons (pe_tup (pa_cons (pe_str) (pa_cons (pe_int) (pa_nil)))) (pa_nil)))) (pa_nil))))) (pa_nil)))) (pa_nil)))))) (pa_nil))))) (pss_cons (ps_if (pt_not (pt_val (pe_callD GA hr30 (by rfl) (pa_cons (pe_callDKw GM hr (by rfl) (pa_cons (pv 5) (pa_nil)) (pk_cons (pe_int) pk_nil)) (pa_cons (pe_tup (pa_cons (pe_str) (pa_cons (pe_tup (pa_cons (pe_str) (pa_cons (pe_int) (pa_cons (pe_str) (pa_cons (pv 3) (pa_nil)))))) (pa_nil)))) (pa_nil))))))
  (pss_one (ps_ret (pe_bl)))
  pss_nil) (pss_one (ps_for PassesOwn.never rfl (pi_range1 (by rfl) C.range (pa_cons (pe_int) (pa_nil))) (pg_name (i := 6) sc_law.nd rfl (Or.inl rfl))
  (pss_cons (ps_set (i := 7) sc_law.nd rfl (Or.inl rfl) (pe_ix ix_list (pe_lst (pa_cons (pe_callD GT hr1 (by rfl) (pa_cons (pv 1) (pa_cons (pe_int) (pa_nil)))) (pa_cons (pe_callD GT hr1 (by rfl) (pa_cons (pv 1) (pa_cons (pe_int) (pa_nil)))) (pa_nil)))) (pv 6) (fun _ _ => rfl))) (pss_cons (ps_set (i := 8) sc_law.nd rfl (Or.inl rfl) (pe_tup (pa_cons (pe_str) (pa_cons (pe_tup (pa_cons (pe_str) (pa_cons (pe_tup (pa_cons (pe_str) (pa_cons (pv 5) (pa_nil)))) (pa_cons (pe_tup (pa_cons (pe_str) (pa_cons (pv 7) (pa_nil)))) (pa_nil))))) (pa_nil))))) (pss_one (ps_if (pt_not (pt_val (pe_callD GA hr30 (by rfl) (pa_cons (pe_ix ix_tup (pe_callDKw GL hr156 (by rfl) (pa_cons (pv 8) (pa_nil)) (pk_cons (pe_int) pk_nil)) (pe_int) (fun _ _ => rfl)) (pa_cons (pe_tup (pa_cons (pe_str) (pa_cons (pe_tup (pa_cons (pe_str) (pa_cons (pe_callD GV hr5 (by rfl) (pa_cons (pv 3) (pa_cons (pv 7) (pa_nil)))) (pa_nil)))) (pa_nil)))) (pa_nil))))))
  (pss_one (ps_ret (pe_bl)))
  pss_nil)))))))))))) (pss_one (ps_ret (pe_bl))))), ?_⟩
    refine ⟨_, rfl, by show 4 ≤ sizeLine; decide, fun R hR => ?_⟩
    have c0 := lc_start (K := K) (T := T) (R := R) 7 hS hx hT hR
    generalize upd H R (.lst [V.ref S, .int 0, .int 0, .int 0]) = H0 at c0
    refine ⟨4, rfl, by decide, by decide, for_it (walk_range (lo := 0) (n := 4)) (fun i σ H' => LC K T R S xs [some (.v (.ref S)), some (.v (.ref R)), none, none, none, none, none, none, none] σ H')
      c0 (fun _ _ _ _ _ => trivial) ?_ ?_⟩
    rotate_left
    · intro σ H1 _
      exact k H1
    rintro i x σ H9 H1 hi c1 ⟨rfl, rfl⟩
    have c2 := c1.setV (i := 2) (v := .int (0 + (i : Int)))
    show tSeq _ _ _ (σ.set 2 (some (.int (0 + (i : Int))))) _
    generalize σ.set 2 (some (.int (0 + (i : Int)))) = σ at c2
    -- a sum
    refine ⟨_, c2.ev.val 1 _ rfl, ?_⟩
    refine lc_draw c2 (lc_row rfl) lc_int (by decide) (by decide) fun r1 H2 _ c3 a0 a1 => ?_
    obtain ⟨d, rfl⟩ : ∃ d : Nat, r1 = (d : Nat) := ⟨r1.toNat, by omega⟩
    refine ⟨R, S, xs, d, rfl, c3.row, by omega, fun H3 v e ch row sm hv => ?_⟩
    have c4 := (c3.chg ch row).set (i := 3) hv (Ex.flat _)
    obtain ⟨s0, rfl, g0, d0⟩ := sm.to
    refine ⟨fun σ' H' => ∃ s : SmE, s.good ∧ s.dep ≤ 4 ∧ s.sz < 100 ∧ LC K T R S xs [some (.v (.ref S)), some (.v (.ref R)), some (.v (.int (0 + (i : Int)))), some (.d s.ex.d), none, none, none, none, none] σ' H', ?_, ?_⟩
    · obtain ⟨_, v3, hv3, hd3⟩ := c4.ev.dat 3 _ rfl
      refine ⟨_, hv3, v3, s0.ex, rfl, hd3, s0.ex_ok, by rw [s0.ex_dep]; omega, fun H4 s4 => ⟨_, _, rfl, rfl, _, rfl, ite2 (fun hc => ?_) (fun hc => ?_)⟩⟩
      · have hz : s0.sz < 100 := by
          have := of_decide_eq_true hc
          rw [s0.ex_size] at this
          omega
        have c5 := c4.same s4
        exact ⟨_, hv3, s0, g0, by omega, hz, (c5.set (i := 3) (Dp.same s4 _ _ hd3) (Ex.flat _)).sub (by repeat' first | exact Sub.nil | apply Sub.keep | apply Sub.drop)⟩
      · refine lc_mk (c4.same s4) (d := SmE.name.ex.d) (by repeat' first | exact mk_var rfl | exact mk_vint rfl | exact mk_vbl rfl | exact mk_vstr rfl | exact mk_str | exact mk_int | exact mk_bl | exact mk_nil | apply mk_cons | apply mk_tup | apply mk_lst | apply mk_add | apply mk_sub | apply mk_ifEq | apply mk_ifB | (refine mk_mod ?_ mk_int (by decide)) | (refine mk_mul mk_int ?_ (by decide)) | exact Nat.le_of_ble_eq_true rfl) fun v5 H5 s5 c5 hv5 => ?_
        exact ⟨.name, trivial, by decide, by decide, (c5.set (i := 3) hv5 (Ex.flat _)).sub (by repeat' first | exact Sub.nil | apply Sub.keep | apply Sub.drop)⟩
    clear c4 c3 c2 c1 c0 sm
    rintro σ4 H4 ⟨s, hg, hs, hz, c4⟩
    -- the makers
    obtain ⟨_, v3, hv3, hd3⟩ := c4.ev.dat 3 _ rfl
    refine ⟨_, hv3, v3, s, rfl, hd3, by omega, fun H5 v5 s5 hv5 => ⟨v5, s.fold, rfl, hv5, fun H6 v6 s6 hv6 => ?_⟩⟩
    have c6 := (c4.same (s5.trans s6)).set (i := 4) hv6 (Ex.flat _)
    try dsimp only [tNext, gName]
    show tSeq (tAsg _ _) _ _ _ _
    refine lc_seq (i := 5) (d := (whole24 s).d) ?_ c6 fun σ7 H7 _ c7 => ?_
    · (repeat' first | exact mk_var rfl | exact mk_vint rfl | exact mk_vbl rfl | exact mk_vstr rfl | exact mk_str | exact mk_int | exact mk_bl | exact mk_nil | apply mk_cons | apply mk_tup | apply mk_lst | apply mk_add | apply mk_sub | apply mk_ifEq | apply mk_ifB | (refine mk_mod ?_ mk_int (by decide)) | (refine mk_mul mk_int ?_ (by decide)) | exact Nat.le_of_ble_eq_true rfl)
    obtain ⟨rows, hlet⟩ := whole_let s hg hs hz
    obtain ⟨n, ho⟩ := whole_out s hs hz
    -- made
    obtain ⟨_, v8, hv8, hd8⟩ := c7.ev.dat 5 _ rfl
    refine ⟨_, hv8, v8, _, _, rows, 900, n, _, rfl, hd8, hlet, by decide, by decide, ho, c7.tab, fun H9 v9 e9 T9 hd9 => ?_⟩
    have c9 := c7.ext e9 T9
    try dsimp only [tNext, gName]
    show tCons (tTup _) tNil _ _ _
    refine lc_mkc (d := (Oc.fin (.quote (fin24 s))).md) c9 ?_ fun v10 H10 s10 c10 hv10 => ?_
    · (repeat' first | exact mk_var rfl | exact mk_vint rfl | exact mk_vbl rfl | exact mk_vstr rfl | exact mk_str | exact mk_int | exact mk_bl | exact mk_nil | apply mk_cons | apply mk_tup | apply mk_lst | apply mk_add | apply mk_sub | apply mk_ifEq | apply mk_ifB | (refine mk_mod ?_ mk_int (by decide)) | (refine mk_mul mk_int ?_ (by decide)) | exact Nat.le_of_ble_eq_true rfl)
    refine ⟨v9, v10, _, rfl, Dp.same s10 _ _ hd9, hv10, shal_fin s hs, fun H11 s11 => ⟨_, rfl, iteF ?_⟩⟩
    have c11 := c10.same s11
    -- two numbers
    refine ⟨2, rfl, by decide, by decide, for_it (walk_range (lo := 0) (n := 2)) (fun j σ H' => LC K T R S xs [some (.v (.ref S)), some (.v (.ref R)), none, some (.d s.ex.d), none, some (.d (whole24 s).d), none, none, none] σ H')
      (c11.sub (by repeat' first | exact Sub.nil | apply Sub.keep | apply Sub.drop)) (fun _ _ _ _ _ => trivial) ?_ ?_⟩
    rotate_left
    · intro σ H' c
      exact c.sub (by repeat' first | exact Sub.nil | apply Sub.keep | apply Sub.drop)
    rintro j y σ5 H12 H13 hj c12 ⟨rfl, rfl⟩
    have c13 := c12.setV (i := 6) (v := .int (0 + (j : Int)))
    show tSeq _ _ _ (σ5.set 6 (some (.int (0 + (j : Int))))) _
    generalize σ5.set 6 (some (.int (0 + (j : Int)))) = σ6 at c13
    refine lc_draw c13 (lc_row rfl) lc_int (by decide) (by decide) fun x1 H14 _ c14 p0 p1 => ?_
    refine lc_draw c14 (lc_row rfl) lc_int (by decide) (by decide) fun x2 H15 _ c15 q0 q1 => ⟨by show 2 ≤ sizeLine; decide, fun D hD => ?_⟩
    have s16 := Same.new (o := .lst [.int x1, .int x2]) hD
    have hl16 : (upd H15 D (.lst [.int x1, .int x2])) D = some (.lst [.int x1, .int x2]) := upd_same
    have c16 := c15.same s16
    generalize upd H15 D (.lst [.int x1, .int x2]) = H16 at c16 hl16
    obtain ⟨x, hx, hxl⟩ : ∃ x : Int, (0 ≤ x ∧ x < 1000) ∧ ([.int x1, .int x2] : List V)[j]? = some (.int x) := by
      have hj2 : j < 2 := hj
      have hj3 : j = 0 ∨ j = 1 := by clear c16; omega
      cases hj3 with
      | inl e => exact ⟨x1, ⟨p0, by clear c16; omega⟩, by rw [e]; rfl⟩
      | inr e => exact ⟨x2, ⟨q0, by clear c16; omega⟩, by rw [e]; rfl⟩
    refine ⟨_, c16.ev.val 6 _ rfl, D, _, _, .int x, rfl, rfl, SqL.of hl16, at_of (j := j) (by omega) hxl, ?_⟩
    have c17 := c16.set (i := 7) (Dp.int (K := K) (H := H16) x)
    try dsimp only [tNext, gName]
    show tSeq (tAsg _ _) _ _ _ _
    refine lc_seq (i := 8) (d := (called24 s x).d) ?_ c17 fun σ8 H17 _ c18 => ?_
    · (repeat' first | exact mk_var rfl | exact mk_vint rfl | exact mk_vbl rfl | exact mk_vstr rfl | exact mk_str | exact mk_int | exact mk_bl | exact mk_nil | apply mk_cons | apply mk_tup | apply mk_lst | apply mk_add | apply mk_sub | apply mk_ifEq | apply mk_ifB | (refine mk_mod ?_ mk_int (by decide)) | (refine mk_mul mk_int ?_ (by decide)) | exact Nat.le_of_ble_eq_true rfl)
    obtain ⟨rows1, hlet1⟩ := called_let s x hx hg hs hz
    obtain ⟨n1, ho1⟩ := called_out s x hs hz
    obtain ⟨n2, ho2⟩ := fin_out s x hx hg hs
    obtain ⟨_, v18, hv18, hd18⟩ := c18.ev.dat 8 _ rfl
    refine ⟨_, hv18, v18, _, _, rows1, 900, n1, _, _, [_, xCall (fin24 s) (xNum x)], rfl, hd18, hlet1, by decide, by decide, ho1, .go (fin_ok s x) ho2 (.stop fun _ h => nomatch h), by show 2 ≤ 1000; decide, c18.tab, fun H19 v19 e19 T19 hd19 => ?_⟩
    have c19 := c18.ext e19 T19
    cases hd19 with
    | tup q19 hh =>
    cases hh with
    | cons h1 h2 =>
    obtain ⟨v2, rfl, hv2⟩ := dp1 h2
    refine ⟨_, _, _, _, rfl, rfl, q19, at_of (j := 1) rfl rfl, ?_⟩
    obtain ⟨_, w3, hw3, hdw3⟩ := c19.ev.dat 3 _ rfl
    refine ⟨_, hw3, _, c19.int (i := 7) rfl, w3, s, x, rfl, hdw3, hg, hx, by omega, fun H20 s20 => ⟨by show 2 ≤ sizeLine; decide, fun p1' hp1 => ⟨by show 2 ≤ sizeLine; decide, fun p2' hp2 => ?_⟩⟩⟩
    have t1 := Same.new (o := .tup [.str ("num" : Str), .int (s.val x)]) hp1
    have t2 := Same.new (o := .tup [.str ("end" : Str), .ref p1']) hp2
    refine ⟨v2, .ref p2', (Oc.fin (.num (s.val x))).d, rfl, Dp.same (s20.trans (t1.trans t2)) _ _ hv2, ?_, by cbv, fun H21 s21 => ⟨_, rfl, iteF ?_⟩⟩
    · exact .tup (SqT.of upd_same) (.cons (.str _) (.cons (.tup (Same.seqT t2 (SqT.of upd_same)) (.cons (.str _) (.cons (.int _) .nil))) .nil))
    exact (c19.same (s20.trans (t1.trans (t2.trans s21)))).sub (by repeat' first | exact Sub.nil | apply Sub.keep | apply Sub.drop)
end
end Lw
set_option Elab.async false
set_option linter.all false
set_option maxRecDepth 100000
set_option maxHeartbeats 4000000
namespace Lw
open PySem PySem.Spec PyProof.Rows L2 RZ NdefX LamX
section
variable {K : PySem.W.Frag} {w : World} {h : Heap} {mg : Str → Option Value}
theorem lawAt {l : PySem.W.OpenLaw} {f : Addr} {n : Nat} (hn : n ≤ sizeLine) (X : K.In h) (G : h.Ns mainGlobals mg) (hmg : mg "law" = some (.ref f)) (c : He.SaysX faQ fnQ tsQ tfQ exQ w h K) : LawAtS l w K CX0 158 n "_law_script" mg f h := by
  have C := cst_of X G c
  have e : f = He.ga K "law" := by
    have := hmg.symm.trans (fg_law X G c)
    cases this
    rfl
  subst e
  obtain ⟨fd, F0⟩ := c.t.d.defs m_law
  have F : Fun K "law" "law" s_law (He.ga K "law") fd := fun_of F0
  have F1 : FunD K "law" "law" (defArgs s_law) (defBody s_law) (defScope s_law) [] [] (He.ga K "law") fd := F0
  have hmem : He.cT K ("renumbered", none) ∈ [He.cT K ("renumbered", none)] := List.mem_singleton.mpr rfl
  have htf : (("renumbered", none) : He.Defn) ∈ tfQ := List.mem_singleton.mpr rfl
  refine ⟨fd, [He.cT K ("renumbered", none)], spLaw K (tabR (He.cT K ("renumbered", none)).2), fun p hp => ?_, fun p hp => ?_, fun p hp => ?_, fun s u => FunD.bindsA (ps := ["_law_script"]) F1 (fun _ _ _ _ _ _ us hl => match us, hl with | [_], _ => rfl) s [u] rfl, fun H a ns hl _ hH hS => ?_, fun base hK hG hTB => ?_⟩
  · rw [List.mem_singleton.mp hp]; exact c.empty _ htf
  · rw [List.mem_singleton.mp hp]; exact c.out _ htf
  · rw [List.mem_singleton.mp hp]; exact PySem.W.codeHd_of_K X (c.hd _ htf)
  · refine ⟨a, ns, rfl, hS, Nat.le_trans hl hn, fun p hp => ?_, fun _ => rfl⟩
    rw [List.mem_singleton.mp hp]
    exact TabN.nil (hH _ hmem)
  · have TB := hTB _ hmem
    have D : CoreD l.prog w K mg base (tabR (He.cT K ("renumbered", none)).2) := coreD_of X G c TB
    have R := runC_of X G c
    have t1 : Dfn l.prog w K mg base "_law_taken" 1 psTk (spTaken K) := .of (at_law_taken X G c) fun _ _ F => ok_taken F C
    have t2 := ok_alike (P := l.prog) (base := base) (at_law_alike X G c) C 30
    have t3 := ok_sum_of (P := l.prog) (base := base) (at_law_sum_of X G c) C t1 5
    have t4 : Dfn l.prog w K mg base "_law_parts" 1 ["_law_e"] (spParts K) := .of (at_law_parts X G c) fun _ _ F => ok_law_parts F C
    have t5 := ok_law_many (P := l.prog) (w := w) (base := base) (at_law_many X G c) (fr_sum X G c) t4 5
    have t6 := ok_folded (P := l.prog) (w := w) (base := base) (at_law_folded X G c) 5
    have t7 := ok_come_to (P := l.prog) (w := w) (base := base) (at_law_come_to X G c) 5
    have t8 : Dfn l.prog w K mg base "_law_makers" 1 ["_law_inner"] (spMakers K) := .of (at_law_makers X G c) fun _ _ F => ok_makers F C
    have r1 : Dfn l.prog w K mg base "need_code" 156 ["program"] (spNeedCode K) := .of (at_need_code X G c) fun _ _ F => ok_need_code F C D.kind_of
    have r2 : DfnW l.prog w K mg base "made" "most" 157 ["program", "most"] (spMade K (tabR (He.cT K ("renumbered", none)).2)) := .of (atW_of (w := w) X G c.t.d m_made i_fg_made (fun _ _ _ _ _ _ _ _ => rfl)) fun _ _ _ F => ok_made F R r1 D.need_most D.outcome
    have r3 : DfnW l.prog w K mg base "levels" "most" 156 ["program", "most"] (spLevels K (tabR (He.cT K ("renumbered", none)).2)) := .of (atW_of (w := w) X G c.t.d m_levels i_fg_levels (fun _ _ _ _ _ _ _ _ => rfl)) fun _ _ _ F => ok_levels F C R D.kind_of D.need_most D.outcome
    exact ok_law F C t1 t2 t3 t5 t6 t7 t8 r3 r2
end
end Lw
set_option maxHeartbeats 0
namespace Lw
open PySem PySem.W PySem.Calls PyProof.Rows
abbrev RQ : OpenRow := OpenLaw.row PySem.Challenge.rw_laterwright_k24_known_languages
abbrev hkQ : Hook := He.hookX 6 faQ fnQ tsQ tfQ exQ
def obQ (s : SharedT) : He.AlX := He.obsX 6 faQ fnQ tsQ tfQ exQ (HandSHeadRun.getT s)
theorem obQ_eq (s : SharedT) : obQ s = hkQ.obs s.abs := He.obsX_eq (HandSHeadRun.getT_eq s)
theorem runQa (w : World) : HandSHeadRun.RunEq RQ (view RQ.prog [64]) hkQ obQ 20000 looseQ (w.withFollow "special-get-raises" false) := by
  intro os
  kernel_rfl
theorem runQb (w : World) : HandSHeadRun.RunEq RQ (view RQ.prog [64]) hkQ obQ 20000 looseQ (w.withFollow "special-get-raises" true) := by
  intro os
  kernel_rfl
theorem runQ (w : World) : HandSHeadRun.RunEq RQ (view RQ.prog [64]) hkQ obQ 20000 looseQ w := byRow2 "special-get-raises" runQa runQb w
end Lw
open PySem PySem.W PySem.Calls PyProof.Rows
theorem PySem.Challenge.cw_laterwright_k24_known_languages_holds : PySem.Challenge.rw_laterwright_k24_known_languages.Holds := by
  w_on; o_law
  refine HandSHeadRun.head_any (r := OpenLaw.row PySem.Challenge.rw_laterwright_k24_known_languages) (q := view (OpenLaw.row PySem.Challenge.rw_laterwright_k24_known_languages).prog [64]) (H := Lw.hkQ) (ob := Lw.obQ) (M := 20000) (loose := Lw.looseQ) (d := HandSHeadRun.topDef (OpenLaw.row PySem.Challenge.rw_laterwright_k24_known_languages).prog 64) (kwd := []) Lw.obQ_eq
    (by kernel_rfl) (fun s => by kernel_rfl) Lw.runQ (by kernel_rfl) (by kernel_rfl) (by kernel_rfl) (by rfl) (by first | assumption | decide +kernel) (by decide +kernel) ⟨rfl, rfl, rfl, rfl, rfl, by decide +kernel⟩ ?hw ?hc
  case hw => w_witness2
  case hc =>
    refine LamX.walk_ofTsE (l := PySem.Challenge.rw_laterwright_k24_known_languages) (k := 158) (x := "_law_script") (CX := fun _ => L2.CX0) rfl (by decide) (by kernel_rfl) ⟨rfl, by decide, by decide⟩ ?F (fun _ _ _ _ _ z => z)
    intro w mg fa h Y G hmg0
    obtain ⟨K, KX, c⟩ := Y
    have hmg : mg ("law" : PySem.Str) = some (.ref fa) := by
      have e : (HandSHeadRun.topDef (OpenLaw.row PySem.Challenge.rw_laterwright_k24_known_languages).prog 64).name = ("law" : PySem.Str) := by kernel_rfl
      rw [← e]
      exact hmg0
    exact ⟨K, KX, Lw.lawAt (by decide) KX G hmg c⟩
