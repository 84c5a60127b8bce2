import PyProof.Rows.All
import HandS.ForMost
import HandS.ForExc
import HandS.Wide
import HandS.EndBits
import HandS.IsInst
import HandS.Evl
import HandS.Style
import HandS.SortInts
import PyProof.LongRange
import KE.GoesMore
import PySem.Challenge.RW_longyears_k02_whole_each_day_one_date
set_option Elab.async false
set_option linter.all false
set_option maxRecDepth 100000
set_option maxHeartbeats 4000000
/-! the base: what is forgotten behind a call, ranges of any size, lists read -/
namespace Ly
open PySem PySem.Spec PyProof.Rows L2

/-! ### forgetting -/
/-- no dict with tuple keys is tracked -/
def Pl : HO → Bool
  | .dT _ => false
  | .frz _ (.lst _) => true
  | .frz _ (.tup _) => true
  | .frz _ (.dK _) => true
  | .frz _ _ => false
  | _ => true
def NoT (H : Hp) : Prop := ∀ b o, H b = some o → Pl o = true
theorem NoT.upd {H : Hp} {p : Addr} {o : HO} (h : NoT H) (ho : Pl o = true) : NoT (upd H p o) := fun b u e => by
  by_cases hb : b = p
  · subst hb
    rw [upd_same] at e
    cases e
    exact ho
  · rw [upd_ne hb] at e
    exact h b u e
theorem NoT.tup {H : Hp} {p : Addr} {xs : List V} (h : NoT H) : NoT (L2.upd H p (.tup xs)) := h.upd rfl
theorem NoT.lst {H : Hp} {p : Addr} {xs : List V} (h : NoT H) : NoT (L2.upd H p (.lst xs)) := h.upd rfl
theorem NoT.dK {H : Hp} {p : Addr} {xs : List (Key × V)} (h : NoT H) : NoT (L2.upd H p (.dK xs)) := h.upd rfl
theorem NoT.of_only {H : Hp} (h : L2.Only H) : NoT H := fun b u e => by
  rcases h b with z | ⟨o, xs, z⟩
  · rw [z] at e; cases e
  · rw [z] at e; cases e; rfl
/-- the smaller heap H1 may stand for H' behind a call from H -/
structure Fg (H H' H1 : Hp) : Prop where
  sub : ∀ b o, H1 b = some o → H' b = some o
  tups : ∀ b xs, H b = some (.tup xs) → H1 b = some (.tup xs)
  frzs : ∀ b o u, H b = some (.frz o u) → H1 b = some (.frz o u)
  tbls : ∀ b ps, H b = some (.tbl ps) → ∃ more, H1 b = some (.tbl (ps ++ more))
  own : ∀ b C dx fs, H1 b = some (.ins C dx fs) → H1 dx = some (.own b)
  noT : NoT H1
theorem Fg.ok {P : Program} {w : World} {H H' H1 : Hp} {h : Heap} (f : Fg H H' H1) (ok : HOk P w H' h) : HOk P w H1 h := fun a o e => by
  have q := ok a o (f.sub a o e)
  have n := f.noT a o e
  cases o with
  | ins C dx fs =>
    obtain ⟨_, r⟩ := q
    exact ⟨f.own a C dx fs e, r⟩
  | dT kvs => exact absurd (show false = true from n) (by decide)
  | frz ob u =>
    obtain ⟨q1, q2⟩ := q
    refine ⟨q1, ?_⟩
    cases u with
    | lst xs => exact q2
    | tup xs => exact q2
    | dK xs => exact q2
    | _ => exact absurd (show false = true from n) (by decide)
  | _ => exact q
theorem Fg.un {fs : List Addr} {H H' H1 : Hp} {h h' : Heap} (f : Fg H H' H1) (u : Un fs [] H H' h h') : Un fs [] H H1 h h' where
  keep := u.keep
  slot := u.slot
  free := fun b o e n hx => by
    have q := u.free b o e n hx
    cases r : H1 b with
    | none => rfl
    | some x => rw [f.sub b x r] at q; cases q
  there := u.there
  tups := f.tups
  frzs := f.frzs
  tbls := f.tbls
section
variable {P : Program} {w : World} {K : PySem.W.Frag} {mg : Str → Option Value} {base : Heap} {CX : CXT} {k : Nat} {f : Addr} {fd : FuncData} {ps : List Str} {sp : Sp}
/-- behind a call what is not wanted may be forgotten -/
theorem FnOk.fg (F : FnOk P w K mg base CX k f fd ps sp) :
    FnOk P w K mg base CX k f fd ps (fun vs H Q E => sp vs H (fun v H' => ∃ H1, ((∀ b C dx fs, H b = some (.ins C dx fs) → H dx = some (.own b)) → Fg H H' H1) ∧ Q v H1) E) :=
  ⟨fun vs H Q E h => F.len vs H _ E h, fun A outer s H args us vs Q E hr he hb hv hs => by
    refine codeAny_mono (F.run A outer s H args us vs _ E hr he hb hv hs) fun r s' hq => ?_
    cases r with
    | error e => exact hq
    | ok fl =>
      cases fl with
      | ret u =>
        obtain ⟨v, H', os, bare, un, hok, rv, H1, hf, q⟩ := hq
        have hf' := hf fun b C dx fs e => by
          obtain ⟨z, _⟩ := he.hok b _ e
          exact z
        exact ⟨v, H1, os, bare, hf'.un un, hf'.ok hok, rv, q⟩
      | next => exact hq
      | brk => exact hq
      | cont => exact hq⟩
/-- all is as it was -/
theorem Fg.same {H H' : Hp} (n : NoT H) (s : Same H H') : (∀ b C dx fs, H b = some (.ins C dx fs) → H dx = some (.own b)) → Fg H H' H := fun o =>
  ⟨s, fun _ _ e => e, fun _ _ _ e => e, fun _ _ e => ⟨#[], by rw [e]; simp⟩, o, n⟩
/-- what is wanted behind a body that may leave things behind -/
def fgQ (H : Hp) (Q : VK) : VK := fun v H' => ∃ H1, ((∀ b C dx fs, H b = some (.ins C dx fs) → H dx = some (.own b)) → Fg H H' H1) ∧ Q v H1
theorem fg_same {H H' : Hp} {Q : VK} {v : V} (n : NoT H) (s : Same H H') (q : Q v H) : fgQ H Q v H' := ⟨H, Fg.same n s, q⟩
theorem fg_all {H H' : Hp} {Q : VK} {v : V} (n : NoT H) (s : Same H H') (n' : NoT H') (o : ∀ b C dx fs, H' b = some (.ins C dx fs) → H b = some (.ins C dx fs)) (q : Q v H') : fgQ H Q v H' :=
  ⟨H', fun ow => ⟨fun _ _ e => e, fun b xs e => s b _ e, fun b o u e => s b _ e, fun b ps e => ⟨#[], by rw [s b _ e]; simp⟩, fun b C dx fs e => s _ _ (ow b C dx fs (o b C dx fs e)), n'⟩, q⟩
theorem Fun.okF {x qual : Str} {st : Stmt} {N : List Str} (F : Fun K x qual st f fd) (S : FnScope N ps (defScope st)) (len : ∀ vs H Q E, sp vs H Q E → vs.length = ps.length)
    (hbody : ∀ (cdv : Value) (A : Around) (outer : List Env) (s : Shared) (H : Hp) (vs : List V) (Q : VK) (E : XK), Room k (A.deeper (envOfC qual (defScope st) s.heap.objs.size f cdv)) → sp vs H Q E →
      ∃ t, PSs (cxOf CX0 P w K mg base N qual (defScope st) f cdv A outer s H E).nox (defBody st) t ∧ t { nx := fun _ H' => fgQ H Q .non H', rt := fgQ H Q } (start N vs) H) : FnOk P w K mg base CX0 (k + 1) f fd ps sp := by
  have F2 : FnOk P w K mg base CX0 (k + 1) f fd ps (fun vs H Q2 E => ∃ Q, Q2 = fgQ H Q ∧ sp vs H Q E) := by
    refine F.ok S (fun vs H Q E h => ?_) (fun cdv A outer s H vs Q E hr h => ?_)
    · obtain ⟨Q0, _, h⟩ := h
      exact len vs H Q0 E h
    · obtain ⟨Q0, rfl, h⟩ := h
      exact hbody cdv A outer s H vs Q0 E hr h
  exact (FnOk.fg F2).imp fun vs H Q E h => ⟨Q, rfl, h⟩
theorem Fun.okFX {x qual : Str} {st : Stmt} {N : List Str} (F : Fun K x qual st f fd) (S : FnScope N ps (defScope st)) (len : ∀ vs H Q E, sp vs H Q E → vs.length = ps.length)
    (hbody : ∀ (cdv : Value) (A : Around) (outer : List Env) (s : Shared) (H : Hp) (vs : List V) (Q : VK) (E : XK), Room k (A.deeper (envOfC qual (defScope st) s.heap.objs.size f cdv)) → sp vs H Q E →
      ∃ t, PSs (cxOf (L2.CX P w) P w K mg base N qual (defScope st) f cdv A outer s H E) (defBody st) t ∧ t { nx := fun _ H' => fgQ H Q .non H', rt := fgQ H Q } (start N vs) H) : FnOk P w K mg base (L2.CX P w) (k + 1) f fd ps sp := by
  have F2 : FnOk P w K mg base (L2.CX P w) (k + 1) f fd ps (fun vs H Q2 E => ∃ Q, Q2 = fgQ H Q ∧ sp vs H Q E) := by
    refine F.okX S (fun vs H Q E h => ?_) (fun cdv A outer s H vs Q E hr h => ?_)
    · obtain ⟨Q0, _, h⟩ := h
      exact len vs H Q0 E h
    · obtain ⟨Q0, rfl, h⟩ := h
      exact hbody cdv A outer s H vs Q0 E hr h
  exact (FnOk.fg F2).imp fun vs H Q E h => ⟨Q, rfl, h⟩

/-! ### a def by its name -/
/-- the def x stands in the module and keeps its promise -/
def Df (P : Program) (w : World) (K : PySem.W.Frag) (mg : Str → Option Value) (base : Heap) (CX : CXT) (x : Str) (k : Nat) (ps : List Str) (sp : Sp) : Prop :=
  ∃ (f : Addr) (fd : FuncData), FnOk P w K mg base CX k f fd ps sp ∧ mg x = some (.ref f) ∧ PySem.W.keepIn K (.ref f) = true ∧ Binds K fd ps []
/-- the def x as it stands in the text -/
def Tx (K : PySem.W.Frag) (mg : Str → Option Value) (x : Str) (st : Stmt) (ps : List Str) : Prop :=
  ∃ (f : Addr) (fd : FuncData), Fun K x x st f fd ∧ mg x = some (.ref f) ∧ Binds K fd ps []
theorem Df.imp {P : Program} {w : World} {K : PySem.W.Frag} {mg : Str → Option Value} {base : Heap} {CX : CXT} {x : Str} {k : Nat} {ps : List Str} {sp sp' : Sp} (D : Df P w K mg base CX x k ps sp)
    (h : ∀ vs H Q E, sp' vs H Q E → sp vs H Q E) : Df P w K mg base CX x k ps sp' := by
  obtain ⟨f, fd, F, a, b, c⟩ := D
  exact ⟨f, fd, F.imp h, a, b, c⟩
theorem Df.mono {P : Program} {w : World} {K : PySem.W.Frag} {mg : Str → Option Value} {base : Heap} {CX : CXT} {x : Str} {j k : Nat} {ps : List Str} {sp : Sp} (D : Df P w K mg base CX x j ps sp) (h : j ≤ k) : Df P w K mg base CX x k ps sp := by
  obtain ⟨f, fd, F, a, b, c⟩ := D
  exact ⟨f, fd, F.mono h, a, b, c⟩
end
section
variable {X : Cx} {CX : CXT} {k j : Nat} {ps : List Str} {sp : Sp} {E : XK} {x : Str} {p pos : Pos} {e : Expr} {es : List Expr} {t : TA}
theorem pe_callD (D : Df X.prog X.w X.K X.mg X.base CX x k ps sp) (hr : Room j X.A) (hj : k ≤ j) (hg : Gl X x) (hx : Passes CX X E) (ha : PA X (e :: es) t)
    (hdb : (x == ("__debug__" : Str)) = false := by decide) (he : starEach (e :: es) X.env = (false, eval e X.env) :: starEach es X.env := by rfl) (hpl : (backTo pos (starEach es X.env)).any (·.1) = false := by rfl) :
    PE X (.Call (.Name x p) (e :: es) [] pos) (tCall sp [] E t) := by
  obtain ⟨f, fd, F, hm, hk, hb⟩ := D
  exact pe_call F (hr.mono hj) hg hm hk hb .nil hx ha hdb he hpl
end

/-! ### ranges of any size -/
theorem turn_long {P : Program} {w : World} {K : PySem.W.Frag} {tg : Expr} (it : Addr) (lo : Int) (n : Nat) : Turn P w K tg (Itr lo n) [it] it (fun i h => IsLongIter h it (lo + (i : Nat) * 1) ((n : Int) - (i : Nat)) 1) where
  mem := by simp
  obj := fun i h st b hb => by
    have e : b = it := by simpa using hb
    subst e
    exact ⟨_, st, fun v z => by
      have z' : Data.fields _ = Data.cell v := z
      cases z'⟩
  keep := fun i h h' st k => k it (by simp) _ st
  item := by
    intro X hP hw hK hc i pins s σ H E I hf st hg
    subst hP hw hK
    obtain ⟨f0, f1, f2, f3, f4, f5⟩ := hf it (by simp)
    have W := Walks.longrange (prog := X.prog) (w := X.w) (I.ok.hd hc) it lo 1 n
    refine W.item i s _ _ hg st fun v h' tk hv st' kk => ?_
    obtain ⟨t, rfl⟩ := hv
    have I1 : Inv X pins σ H { s with heap := h', toks := tk } := I.turned (fun b o hb e => kk b o (by simpa using hb) e) f0 f1 f3 f4 f5
    refine ⟨_, rfl, go_of (s := { s with heap := h', toks := tk }) (n := "longrange_iterator") st' rfl rfl (by decide) ⟨.int (lo + i), H, I1, ⟨t, ?_⟩, ⟨rfl, rfl⟩, st', fun b hb => (hf b hb).1⟩⟩
    rw [Int.mul_one]
  done := by
    intro X hP hw hK hc i pins s σ H E I hf st hg
    subst hP hw hK
    obtain ⟨f0, f1, f2, f3, f4, f5⟩ := hf it (by simp)
    exact wpAny_pyNext_long_end (I.ok.hd hc) st (by have : n ≤ i := hg; omega) fun h' eb => ⟨rfl, I.turned (t' := s.toks) (fun b o hb e => eb b o hb e) f0 f1 f3 f4 f5⟩
  self := fun _ _ _ _ _ st h => wpAny_pyIter_longiter st h
section
variable {X : Cx} {tg : Expr}
theorem range_itW {pins : List (Addr × Obj)} {σ : L2.St} {H : Hp} {s : Shared} {R : It → Hp → Prop} {E : Value → Shared → Prop} {lo hi : Int} {t u v : Tok} {tk : Nat} (I : Inv X pins σ H s)
    (q : R (Itr lo (hi - lo).toNat) H) : wpAny (model X.prog X.w) X.A (pyIter (.ref s.heap.objs.size)) (PIE X pins σ tg R) E { s with heap := s.heap.push { cls := .type "range", data := .fields #[.int lo t, .int hi u, .int 1 v] }, toks := tk } := by
  have I1 : Inv X pins σ H { s with heap := s.heap.push { cls := .type "range", data := .fields #[.int lo t, .int hi u, .int 1 v] }, toks := tk } := I.kept fun b o e => Heap.get?_push_of_some _ e
  have e1 : lo + ((0 : Nat) : Int) * 1 = lo := by simp
  have e2 : (((hi - lo).toNat : Nat) : Int) - ((0 : Nat) : Int) = Builtin.Range.rangeSize lo hi 1 := by rw [rangeSize_one]; split <;> omega
  have fp : ∀ b ∈ [(s.heap.push { cls := .type "range", data := .fields #[.int lo t, .int hi u, .int 1 v] }).objs.size], FpOk X pins H b := fun b hb => by
    have e : b = (s.heap.push { cls := .type "range", data := .fields #[.int lo t, .int hi u, .int 1 v] }).objs.size := by simpa using hb
    subst e
    exact I1.fpOk (Nat.le_refl _) (I1.hok.fresh (Nat.le_refl _))
  cases hsm : Builtin.Range.small lo hi 1 with
  | true =>
    refine wpAny_pyIter_range (IsRange.new ..) hsm ?_
    refine ⟨(s.heap.push { cls := .type "range", data := .fields #[.int lo t, .int hi u, .int 1 v] }).objs.size, [(s.heap.push { cls := .type "range", data := .fields #[.int lo t, .int hi u, .int 1 v] }).objs.size], _, _, H, rfl,
      I1.kept (t' := tk) fun b o e => Heap.get?_push_of_some _ e, turn_range _ lo (hi - lo).toNat, ?_, fp, q⟩
    show IsRangeIter _ _ (lo + ((0 : Nat) : Int) * 1) ((((hi - lo).toNat : Nat) : Int) - ((0 : Nat) : Int)) 1
    rw [e1, e2]
    exact Heap.get?_push_size _ rfl
  | false =>
    refine wpAny_pyIter_longrange (IsRange.new ..) hsm ?_
    refine ⟨(s.heap.push { cls := .type "range", data := .fields #[.int lo t, .int hi u, .int 1 v] }).objs.size, [(s.heap.push { cls := .type "range", data := .fields #[.int lo t, .int hi u, .int 1 v] }).objs.size], _, _, H, rfl,
      I1.kept (t' := tk) fun b o e => Heap.get?_push_of_some _ e, turn_long _ lo (hi - lo).toNat, ?_, fp, q⟩
    show IsLongIter _ _ (lo + ((0 : Nat) : Int) * 1) ((((hi - lo).toNat : Nat) : Int) - ((0 : Nat) : Int)) 1
    rw [e1, e2]
    exact Heap.get?_push_size _ rfl
def iRgW1 (ta : TA) : TI := fun σ H R => ta σ H fun vs H1 => ∃ j : Int, vs = [.int j] ∧ R (Itr 0 j.toNat) H1
def iRgW2 (ta : TA) : TI := fun σ H R => ta σ H fun vs H1 => ∃ i j : Int, vs = [.int i, .int j] ∧ R (Itr i (j - i).toNat) H1
theorem pi_rgW1 {a : Expr} {ta : TA} {p pos : Pos} (hg : Gl X "range") (hm : X.mg "range" = none) (ha : PA X [a] ta) (hs : starEach [a] X.env = [(false, eval a X.env)] := by rfl) : PI X tg (.Call (.Name "range" p) [a] [] pos) (iRgW1 ta) := by
  refine ⟨fun pins s σ H R I h => ?_⟩
  refine Call_ (ld_blt I hg hm boot_range (PyProof.Rows.callWith_type1 (thn (ha.run pos pins s σ H _ I h) fun us s1 ⟨vs, H1, I1, r1, q1⟩ => ?_) hs rfl))
  obtain ⟨j, e, q⟩ := q1
  subst e
  cases r1 with
  | cons r rr =>
    cases rr
    obtain ⟨t, rfl⟩ := r
    exact call_range_1 (range_itW I1 (by simpa using q))
theorem pi_rgW2 {a b : Expr} {ta : TA} {p pos : Pos} (hg : Gl X "range") (hm : X.mg "range" = none) (ha : PA X [a, b] ta) (hs : starEach [a, b] X.env = [(false, eval a X.env), (false, eval b X.env)] := by rfl) (hs2 : starEach [b] X.env = [(false, eval b X.env)] := by rfl) :
    PI X tg (.Call (.Name "range" p) [a, b] [] pos) (iRgW2 ta) := by
  refine ⟨fun pins s σ H R I h => ?_⟩
  refine Call_ (ld_blt I hg hm boot_range (PyProof.Rows.callWith_type1 (thn (ha.run pos pins s σ H _ I h) fun us s1 ⟨vs, H1, I1, r1, q1⟩ => ?_) (by rw [hs, hs2]) (by rw [hs2]; rfl)))
  obtain ⟨i, j, e, q⟩ := q1
  subst e
  cases r1 with
  | cons r rr =>
    cases rr with
    | cons r' rr =>
      cases rr
      obtain ⟨t, rfl⟩ := r
      obtain ⟨t', rfl⟩ := r'
      exact call_range_2 (range_itW I1 q)

/-! ### list + list, whatever they are -/
def rCatS (K : PySem.W.Frag) : R2 := fun x y H Q => ∃ l b xs zs, x = .ref l ∧ y = .ref b ∧ SqL K H l xs ∧ SqL K H b zs ∧ xs.length + zs.length ≤ sizeLine ∧ ∀ p, H p = none → Q (.ref p) (upd H p (.lst (xs ++ zs)))
theorem op_catS : OpR X (binaryOp .Add) (rCatS X.K) := by
  intro pins s σ H x y v u Q I rx ry h
  obtain ⟨l, b, xs, zs, rfl, rfl, hH, hB, hz, q⟩ := h
  cases rx
  cases ry
  obtain ⟨its, r, ⟨o, n, e, hc, hd, hs⟩, _⟩ := I.list hH
  obtain ⟨its2, r2, ⟨o2, n2, e2, hc2, hd2, hs2⟩, _⟩ := I.list hB
  obtain ⟨cls, dd, data, sl⟩ := o
  obtain ⟨cls2, dd2, data2, sl2⟩ := o2
  simp only at hc hd hc2 hd2 hs hs2
  subst hc hc2 hs hs2
  have ea : its.toArray ++ its2.toArray = (its ++ its2).toArray := by simp
  have l1 := r.length
  have l2 := r2.length
  refine concat_meets ⟨_, e, rfl⟩ ⟨_, e2, rfl⟩ noFill_list_add seq_list_add PySem.F.slot_list_add PySem.F.entry_list_add (PySem.F.args_list_add_2 _ _) (list_addW l b its.toArray its2.toArray n n2 dd dd2 sl sl2 (by rw [List.size_toArray, List.size_toArray]; omega)) ⟨e, e2, ?_⟩
  rw [ea]
  exact ⟨.ref _, _, I.lnew (t' := s.toks) (r.append r2) (by rw [List.length_append]; omega), rfl, q _ I.fresh⟩
end
end Ly
set_option Elab.async false
set_option linter.all false
set_option maxRecDepth 100000
set_option maxHeartbeats 4000000
/-! enumerate of a tuple -/
namespace PySem
open Sem (wp)
open AutoSeq1 (wpAny_loadPart')
theorem ly_meets_enumT (l : Addr) (items : Array Value) (n : Nat) (dct : Option Addr) (sl : Array (Option Value)) :
    Meets (Builtin.«enumerate.__new__» ⟨[.type "enumerate", .ref l], []⟩) (fun _ R s => s.heap.get? l = some { cls := .type "tuple", dict := dct, data := .seq items n, slots := sl } ∧
      R (.ok (.ret (.ref (s.heap.push { cls := .type "tuple_iterator", data := .fields #[.ref l, .int 0 0] }).objs.size)))
        { s with heap := (s.heap.push { cls := .type "tuple_iterator", data := .fields #[.ref l, .int 0 0] }).push { cls := .type "enumerate", data := .fields #[.none, .bool false, .ref s.heap.objs.size, rawInt 0, .none, .none] } }) :=
  .of_wp fun prog w A R s h => by
    obtain ⟨hp, g, d, tk, os⟩ := s; obtain ⟨hl, h⟩ := h
    have hsub := sub_enumerate
    have hL : Heap.IsTuple (Shared.heap ⟨hp, g, d, tk, os⟩) l items := ⟨_, hl, rfl, n, rfl⟩
    wp_walk using wpAny_loadPart' hl
    refine wpAny_stack_any fun st => wpAny_pure ?_
    split
    · rename_i c _ _ _ _ _
      cases (c == Value.type "enumerate")
      · wp_walk using wpAny_loadPart' hl, wpAny_pyIter_tuple hL
        exact ⟨_, rfl, h⟩
      · wp_walk using wpAny_loadPart' hl, wpAny_pyIter_tuple hL
        exact ⟨_, rfl, h⟩
    · wp_walk using wpAny_loadPart' hl, wpAny_pyIter_tuple hL
      exact ⟨_, rfl, h⟩
section
variable {prog : Program} {w : World} {A : Around} {E : Value → Shared → Prop} {s : Shared}
theorem ly_call_enumT {l : Addr} {items : Array Value} {Q : Value → Shared → Prop} (hL : s.heap.IsTuple l items)
    (h : ∀ h', IsEnum h' (s.heap.objs.size + 1) s.heap.objs.size 0 .none → h'.IsTupleIter s.heap.objs.size l 0 → h'.objs.size = s.heap.objs.size + 2 →
      (∀ b o, s.heap.get? b = some o → h'.get? b = some o) → Q (.ref (s.heap.objs.size + 1)) { s with heap := h' }) :
    wpAny (model prog w) A (call (.type "enumerate") [.ref l]) Q E s := by
  obtain ⟨⟨c, dct, dt, sl⟩, hl, hc, n, hd⟩ := hL
  replace hc : c = .type "tuple" := hc
  replace hd : dt = .seq items n := hd
  subst hc hd
  refine callType_new F.called_enumerate (by decide) (F.typeCall_enumerate_1 _) (F.newCall_enumerate_1 _) (fun obj => F.args_object_init_2 obj _) F.entry_enumerate_new
    (ly_meets_enumT l items n dct sl) ⟨hl, ?_⟩
  have hz : (s.heap.push { cls := .type "tuple_iterator", data := .fields #[.ref l, .int 0 0] }).objs.size = s.heap.objs.size + 1 := Heap.size_push ..
  show _ ∧ _
  rw [hz]
  have he : IsEnum ((s.heap.push { cls := .type "tuple_iterator", data := .fields #[.ref l, .int 0 0] }).push
      { cls := .type "enumerate", data := .fields #[.none, .bool false, .ref s.heap.objs.size, rawInt 0, .none, .none] }) (s.heap.objs.size + 1) s.heap.objs.size 0 .none := by
    have := Heap.get?_push_size (s.heap.push { cls := .type "tuple_iterator", data := .fields #[.ref l, .int 0 0] })
      (o := { cls := .type "enumerate", data := .fields #[.none, .bool false, .ref s.heap.objs.size, rawInt 0, .none, .none] }) rfl
    rw [hz] at this; exact this
  refine ⟨⟨_, he, rfl⟩, h _ he ⟨_, Heap.get?_push_of_some _ (Heap.get?_push_size _ rfl), rfl, rfl⟩ (by rw [Heap.size_push, hz]) fun b o x => Heap.get?_push_of_some _ (Heap.get?_push_of_some _ x)⟩
end
end PySem
namespace Ly
open PySem PySem.Spec PyProof.Rows L2
def IteT (K : PySem.W.Frag) (a : Addr) : It :=
  ⟨fun i H => ∃ (xs : List V) (x : V), SqT K H a xs ∧ xs[i]? = some x, fun i H v H' => ∃ T x, v = .ref T ∧ H T = none ∧ H' = upd H T (.tup [.int (i : Nat), x]) ∧ ∀ xs, SqT K H a xs → xs[i]? = some x, fun i H => ∃ xs : List V, SqT K H a xs ∧ xs.length ≤ i⟩
theorem turn_enumT {P : Program} {w : World} {K : PySem.W.Frag} {elts : List Expr} {kk : Nat} {tpos : Pos} (a e it : Addr) :
    Turn P w K (.Tuple elts kk tpos) (IteT K a) [e, it] e (fun i h => (∃ old, IsEnum h e it ((i : Nat) : Int) old) ∧ h.IsTupleIter it a i ∧ e ≠ it) where
  mem := by simp
  obj := fun i h st b hb => by
    obtain ⟨⟨old, he⟩, ⟨o, ho, hc, hd⟩, _⟩ := st
    have e' : b = e ∨ b = it := by simpa using hb
    rcases e' with z | z
    · rw [z]; exact ⟨_, he, fun v q => nomatch q⟩
    · rw [z]; exact ⟨o, ho, fun v q => by rw [hd] at q; cases q⟩
  keep := fun i h h' st k => let ⟨⟨old, he⟩, hi, hne⟩ := st; ⟨⟨old, k e (by simp) _ he⟩, hi.at fun o q => k it (by simp) o q, hne⟩
  item := by
    intro X hP hw hK hc i pins s σ H E I hf st hg
    subst hP hw hK
    obtain ⟨⟨old, he⟩, hit, hne⟩ := st
    obtain ⟨xs, x, hq, hx⟩ := hg
    obtain ⟨its, rv, p, hz⟩ := I.tuple hq
    obtain ⟨u, hu, ru⟩ := rv.get hx
    have hel : e < s.heap.objs.size := Heap.lt_size he
    have hil : it < s.heap.objs.size := by obtain ⟨_, q, _⟩ := hit; exact Heap.lt_size q
    have hpt : s.heap.IsTuple a its.toArray := p
    have hai : a ≠ it := fun z => by
      obtain ⟨o, ho, hc1, _⟩ := hpt
      obtain ⟨o2, ho2, hc2, _⟩ := hit
      rw [z, ho2] at ho; cases ho
      rw [hc1] at hc2; exact absurd hc2 (by decide)
    have hae : a ≠ e := fun z => by
      obtain ⟨o, ho, hc1, _⟩ := hpt
      have he2 := he
      unfold IsEnum at he2
      rw [z, he2] at ho; cases ho
      exact absurd (show Value.type "enumerate" = Value.type "tuple" from hc1) (by decide)
    have D := Draws.tuple (prog := X.prog) (w := X.w) (A := X.A.in1) (I.ok.hd hc) it a hai its.toArray
    have hlt : i < its.toArray.size := by
      rw [List.size_toArray]
      exact (List.getElem?_eq_some_iff.mp hu).1
    refine wpAny_pyNext_enum_itemD D he ⟨hit, hpt⟩ hlt hne (by simp; exact ⟨hne, Ne.symm hae⟩) fun x' h' tk hx' ho hst' hT hsz hk => ?_
    have hxu : x' = u := by
      have h1 : its.toArray[i]? = some u := by simpa using hu
      rw [h1] at hx'
      exact (Option.some.inj hx').symm
    subst hxu
    refine ⟨_, rfl, wpAny_letOwnedTupleGo_enum (s := { s with heap := h', toks := tk + 1 }) ho fun h'' he' sb => ?_⟩
    have hT2 : h''.get? s.heap.objs.size = some { cls := .type "tuple", data := .seq #[.int i tk, x'] } := (sb.2 _ (Nat.ne_of_gt hel)).trans hT
    have new : ObjOk X.prog X.w (upd H s.heap.objs.size (.tup [.int (i : Nat), x])) h'' s.heap.objs.size (.tup [.int (i : Nat), x]) :=
      ⟨by show 2 ≤ sizeLine; decide, [.int i tk, x'], .cons ⟨_, rfl⟩ (.cons ru .nil), ⟨_, hT2, rfl, _, rfl⟩⟩
    have I1 : Inv X pins σ (upd H s.heap.objs.size (.tup [.int (i : Nat), x])) { s with heap := h'', toks := tk + 1 } :=
      I.turnedNew (ch := [e, it]) (fun b ob hb q => (sb.2 b (fun z => hb (by simp [z]))).trans (hk b ob (fun z => hb (by simp [z])) (fun z => hb (by simp [z])) q)) hf (Nat.le_refl _) new
    refine ⟨.ref s.heap.objs.size, _, I1, rfl, ⟨_, x, rfl, I.hok.fresh (Nat.le_refl _), rfl, fun ys hy => by rw [I.tuple_inj hy hq]; exact hx⟩, ⟨⟨x', ?_⟩, hst'.1.at fun o q => (sb.2 it (Ne.symm hne)).trans q, hne⟩, fun b hb => ?_⟩
    · have e1 : ((i + 1 : Nat) : Int) = (i : Int) + 1 := by omega
      rw [e1]; exact he'
    · have hb' : b < s.heap.objs.size := by
        have e' : b = e ∨ b = it := by simpa using hb
        rcases e' with z | z
        · rw [z]; exact hel
        · rw [z]; exact hil
      rw [upd_ne (Nat.ne_of_lt hb')]
      exact (hf b hb).1
  done := by
    intro X hP hw hK hc i pins s σ H E I hf st hg
    subst hP hw hK
    obtain ⟨⟨old, he⟩, hit, hne⟩ := st
    obtain ⟨xs, hq, hx⟩ := hg
    obtain ⟨its, rv, p, hz⟩ := I.tuple hq
    obtain ⟨f0, f1, f2, f3, f4, f5⟩ := hf it (by simp)
    have hl := rv.length
    have hpt : s.heap.IsTuple a its.toArray := p
    have hai : a ≠ it := fun z => by
      obtain ⟨o, ho, hc1, _⟩ := hpt
      obtain ⟨o2, ho2, hc2, _⟩ := hit
      rw [z, ho2] at ho; cases ho
      rw [hc1] at hc2; exact absurd hc2 (by decide)
    have hT : s.TypeIs (.ref e) "enumerate" := ⟨_, he, rfl⟩
    unfold pyNext
    refine wpAny_bind (wpAny_attempt (wpAny_callSpecial?_slot (name := Str.ofString "__next__") hT F.slot_enumerate_next
      (wpAny_call_entry F.slot_enumerate_next hT F.entry_enumerate_next ?_ (F.args_enumerate_next_1 _))))
    show wpAny _ _ (field (.ref e) 2 >>= _) _ _ _
    refine wpAny_bind (wpAny_field he rfl (x := .ref it) rfl ?_)
    refine wpAny_bind (wpAny_nextOf_tuple_end (A := X.A.in1) (I.ok.hd hc) hit hpt (by simp; omega) fun h' x he' hx' => ?_)
    obtain ⟨o, ho, hc'⟩ := hx'
    refine wpAny_bind (wpAny_isInstance (T := "StopIteration") (b := true) ⟨o, ho, hc'⟩ isSubtype_stop ?_)
    exact wpAny_pure ⟨rfl, I.turned (t' := s.toks) (fun b o hb q => he' b o hb q) f0 f1 f3 f4 f5⟩
  self := fun A i s Q E st h => let ⟨⟨_, he⟩, _⟩ := st; wpAny_pyIter_enum he h
/-- enumerate(xs), a list or a tuple -/
def iEnumS (K : PySem.W.Frag) (ta : TA) : TI := fun σ H R => ta σ H fun vs H1 => ∃ a xs, vs = [.ref a] ∧ ((SqL K H1 a xs ∧ R (Ite K a) H1) ∨ (SqT K H1 a xs ∧ R (IteT K a) H1))
theorem pi_enumS {X : Cx} {e : Expr} {ta : TA} {p pos tpos : Pos} {elts : List Expr} {kk : Nat} (hg : Gl X "enumerate") (hm : X.mg "enumerate" = none) (ha : PA X [e] ta) (hs : starEach [e] X.env = [(false, eval e X.env)] := by rfl) :
    PI X (.Tuple elts kk tpos) (.Call (.Name "enumerate" p) [e] [] pos) (iEnumS X.K ta) := by
  refine ⟨fun pins s σ H R I h => ?_⟩
  refine Call_ (ld_blt I hg hm boot_enumerate (PyProof.Rows.callWith_type1 (thn (ha.run pos pins s σ H _ I h) fun us s1 ⟨vs, H1, I1, r1, q1⟩ => ?_) hs rfl))
  obtain ⟨a, xs, ex, q⟩ := q1
  subst ex
  cases r1 with
  | cons r rr =>
    cases rr
    cases r
    have fp : ∀ b ∈ [s1.heap.objs.size + 1, s1.heap.objs.size], FpOk X pins H1 b := fun b hb => by
      have e' : b = s1.heap.objs.size + 1 ∨ b = s1.heap.objs.size := by simpa using hb
      have hle : s1.heap.objs.size ≤ b := by
        rcases e' with z | z
        · rw [z]; exact Nat.le_add_right _ _
        · rw [z]; exact Nat.le_refl _
      exact I1.fpOk hle (I1.hok.fresh hle)
    rcases q with ⟨hq, q⟩ | ⟨hq, q⟩
    · obtain ⟨its, rv, p', hz⟩ := I1.list hq
      refine call_enumerate_list p'.isList fun h' he hit hsz hk => wpAny_pyIter_enum he ?_
      have I2 : Inv X pins σ H1 { s1 with heap := h' } := I1.kept (t' := s1.toks) hk
      exact ⟨s1.heap.objs.size + 1, [s1.heap.objs.size + 1, s1.heap.objs.size], _, _, H1, rfl, I2, turn_enum a (s1.heap.objs.size + 1) s1.heap.objs.size, ⟨⟨.none, he⟩, hit, Nat.succ_ne_self _⟩, fp, q⟩
    · obtain ⟨its, rv, p', hz⟩ := I1.tuple hq
      refine ly_call_enumT p' fun h' he hit hsz hk => wpAny_pyIter_enum he ?_
      have I2 : Inv X pins σ H1 { s1 with heap := h' } := I1.kept (t' := s1.toks) hk
      exact ⟨s1.heap.objs.size + 1, [s1.heap.objs.size + 1, s1.heap.objs.size], _, _, H1, rfl, I2, turn_enumT a (s1.heap.objs.size + 1) s1.heap.objs.size, ⟨⟨.none, he⟩, hit, Nat.succ_ne_self _⟩, fp, q⟩
end Ly
set_option Elab.async false
set_option linter.all false
set_option maxRecDepth 100000
set_option maxHeartbeats 4000000
/-! what is known of values: kinds, lands, decks -/
namespace Ly
open PySem PySem.Spec PyProof.Rows L2

/-! ### kinds -/
inductive Kn (K : PySem.W.Frag) (H : Hp) : V → String → Prop where
  | non : Kn K H .non "NoneType"
  | bl (b : Bool) : Kn K H (.bl b) "bool"
  | int (i : Int) : Kn K H (.int i) "int"
  | str (x : Str) : Kn K H (.str x) "str"
  | lst {a : Addr} {xs : List V} : SqL K H a xs → Kn K H (.ref a) "list"
  | tup {a : Addr} {xs : List V} : SqT K H a xs → Kn K H (.ref a) "tuple"
theorem Kn.ty {K : PySem.W.Frag} {H : Hp} {x : V} {n : String} (h : Kn K H x n) : TyX K H x (.type n) := by
  cases h with
  | non => exact .base .non
  | bl b => exact .base (.bl b)
  | int i => exact .base (.int i)
  | str x => exact .base (.str x)
  | lst h =>
    rcases h with (h | ⟨o, h⟩) | ⟨o, its, n, hk, hc, _⟩
    · exact .base (.lst h)
    · exact .base (.frz h)
    · exact .kList hk hc
  | tup h =>
    rcases h with (h | ⟨o, h⟩) | ⟨o, its, n, hk, hc, _⟩
    · exact .base (.tup h)
    · exact .fTuple h
    · exact .kTuple hk hc
def kindIs (n m : String) : Bool := n == m || (n == "bool" && m == "int")
theorem Kn.kit {K : PySem.W.Frag} {H : Hp} {x : V} {n m : String} (h : Kn K H x n) (hm : m ∈ ["int", "bool", "str", "list", "tuple"]) : PySem.W.kitOne K (.type n) (.type m) = some (kindIs n m) := by
  have hm' : m = "int" ∨ m = "bool" ∨ m = "str" ∨ m = "list" ∨ m = "tuple" := by simpa using hm
  have hn : n = "NoneType" ∨ n = "bool" ∨ n = "int" ∨ n = "str" ∨ n = "list" ∨ n = "tuple" := by
    cases h <;> simp
  rcases hn with rfl | rfl | rfl | rfl | rfl | rfl <;> rcases hm' with rfl | rfl | rfl | rfl | rfl <;> exact kit_ty (by decide +kernel)
def isFrom : V → Int → Int → Bool
  | .int i, lo, hi => decide (lo ≤ i) && decide (i ≤ hi)
  | _, _, _ => false
theorem isFrom_int (i lo hi : Int) : isFrom (.int i) lo hi = (decide (lo ≤ i) && decide (i ≤ hi)) := rfl
theorem isFrom_yes {i lo hi : Int} (h1 : lo ≤ i) (h2 : i ≤ hi) : isFrom (.int i) lo hi = true := by
  rw [isFrom_int, decide_eq_true h1, decide_eq_true h2]; rfl
theorem isFrom_no1 {i lo hi : Int} (h1 : ¬ lo ≤ i) : isFrom (.int i) lo hi = false := by
  rw [isFrom_int, decide_eq_false h1]; rfl
theorem isFrom_mid {i lo hi : Int} (h1 : lo ≤ i) : isFrom (.int i) lo hi = decide (i ≤ hi) := by
  rw [isFrom_int, decide_eq_true h1]; rfl

/-! ### growth -/
theorem Same.nt {H H' : Hp} (_ : Same H H') : True := trivial
theorem Same.t {K : PySem.W.Frag} {H H' : Hp} {a : Addr} {xs : List V} (e : Same H H') (h : SqT K H a xs) : SqT K H' a xs := by
  rcases h with (h | ⟨o, h⟩) | h
  · exact .inl (.inl (e _ _ h))
  · exact .inl (.inr ⟨o, e _ _ h⟩)
  · exact .inr h
theorem Same.l {K : PySem.W.Frag} {H H' : Hp} {a : Addr} {xs : List V} (e : Same H H') (h : SqL K H a xs) : SqL K H' a xs := L2.Same.seq e h
theorem same_new {H : Hp} {p : Addr} {o : HO} (h : H p = none) : Same H (upd H p o) := fun b x e => by
  rw [upd_ne (ne_of_none e h)]
  exact e
/-- the list at d may change, all else is kept -/
structure Gr (d : Addr) (H H' : Hp) : Prop where
  keep : ∀ b o, b ≠ d → H b = some o → H' b = some o
  lst : (∃ xs, H d = some (.lst xs))
  nt : NoT H → NoT H'
theorem Gr.ne {d : Addr} {H H' : Hp} (g : Gr d H H') {b : Addr} {o : HO} (h : H b = some o) (ho : ∀ xs, o ≠ .lst xs) : b ≠ d := fun e => by
  obtain ⟨xs, q⟩ := g.lst
  rw [e, q] at h
  exact ho xs (Option.some.inj h).symm
theorem Gr.t {K : PySem.W.Frag} {d : Addr} {H H' : Hp} {a : Addr} {xs : List V} (g : Gr d H H') (h : SqT K H a xs) : SqT K H' a xs := by
  rcases h with (h | ⟨o, h⟩) | h
  · exact .inl (.inl (g.keep _ _ (g.ne h fun _ z => nomatch z) h))
  · exact .inl (.inr ⟨o, g.keep _ _ (g.ne h fun _ z => nomatch z) h⟩)
  · exact .inr h
theorem Gr.l {K : PySem.W.Frag} {d : Addr} {H H' : Hp} {a : Addr} {xs : List V} (g : Gr d H H') (hne : a ≠ d) (h : SqL K H a xs) : SqL K H' a xs := by
  rcases h with (h | ⟨o, h⟩) | h
  · exact .inl (.inl (g.keep _ _ hne h))
  · exact .inl (.inr ⟨o, g.keep _ _ hne h⟩)
  · exact .inr h
theorem Gr.trans {d : Addr} {H H1 H2 : Hp} (a : Gr d H H1) (b : Gr d H1 H2) : Gr d H H2 := ⟨fun c o n e => b.keep c o n (a.keep c o n e), a.lst, fun n => b.nt (a.nt n)⟩
theorem Gr.refl {d : Addr} {H : Hp} {xs : List V} (h : H d = some (.lst xs)) : Gr d H H := ⟨fun _ _ _ e => e, ⟨xs, h⟩, fun n => n⟩
theorem Gr.put {d : Addr} {H H' : Hp} {ys : List V} (g : Gr d H H') : Gr d H (upd H' d (.lst ys)) := ⟨fun b o n e => by rw [upd_ne n]; exact g.keep b o n e, g.lst, fun n => (g.nt n).lst⟩
theorem Gr.new {d : Addr} {H H' : Hp} {p : Addr} {o : HO} (g : Gr d H H') (h : H' p = none) (ho : Pl o = true) : Gr d H (upd H' p o) := ⟨fun b x n e => by
  have q := g.keep b x n e
  rw [upd_ne (ne_of_none q h)]
  exact q, g.lst, fun n => (g.nt n).upd ho⟩
theorem Gr.same {d : Addr} {H H1 H2 : Hp} (g : Gr d H H1) (s : Same H1 H2) (n : NoT H1 → NoT H2) : Gr d H H2 := ⟨fun b o n e => s b o (g.keep b o n e), g.lst, fun k => n (g.nt k)⟩
theorem Gr.free {d : Addr} {H H' : Hp} {p : Addr} (g : Gr d H H') {ys : List V} (hd : H' d = some (.lst ys)) (h : H' p = none) : H p = none := by
  cases q : H p with
  | none => rfl
  | some o =>
    by_cases e : p = d
    · rw [e, hd] at h; cases h
    · rw [g.keep p o e q] at h; cases h

/-! ### the deck -/
def Dk (n : Nat) (H : Hp) (d : Addr) : Prop := NoT H ∧ ∃ x y z : Int, H d = some (.lst [.int x, .int y, .int z]) ∧ 0 ≤ y ∧ y < 2147483579 ∧ 0 ≤ z ∧ z ≤ (n : Int)
theorem Dk.nt {n : Nat} {H : Hp} {d : Addr} (h : Dk n H d) : NoT H := h.1
theorem Dk.mono {n m : Nat} {H : Hp} {d : Addr} (h : Dk n H d) (e : n ≤ m) : Dk m H d := by
  obtain ⟨a, x, y, z, h1, h2, h3, h4, h5⟩ := h
  exact ⟨a, x, y, z, h1, h2, h3, h4, by omega⟩
theorem Dk.lst {n : Nat} {H : Hp} {d : Addr} (h : Dk n H d) : ∃ xs, H d = some (.lst xs) := by
  obtain ⟨_, x, y, z, h1, _⟩ := h
  exact ⟨_, h1⟩
/-- a new thing beside the deck -/
theorem Dk.new {n : Nat} {H : Hp} {d p : Addr} {o : HO} (h : Dk n H d) (hp : H p = none) (ho : Pl o = true) : Dk n (upd H p o) d := by
  obtain ⟨a, x, y, z, h1, h2⟩ := h
  exact ⟨a.upd ho, x, y, z, by rw [upd_ne (ne_of_none h1 hp)]; exact h1, h2⟩
theorem Dk.same {n : Nat} {H H' : Hp} {d : Addr} (h : Dk n H d) (s : Same H H') (n' : NoT H') : Dk n H' d := by
  obtain ⟨a, x, y, z, h1, h2⟩ := h
  exact ⟨n', x, y, z, s _ _ h1, h2⟩
theorem Dk.ne_t {n : Nat} {H : Hp} {d a : Addr} {xs : List V} (h : Dk n H d) (ht : H a = some (.tup xs)) : a ≠ d := fun e => by
  obtain ⟨_, x, y, z, h1, _⟩ := h
  rw [e, h1] at ht; cases ht

/-! ### lands -/
def LandOk (d t b s : Int) : Prop := (1 ≤ d ∧ d ≤ 400) ∧ (0 ≤ t ∧ t < b) ∧ (1 ≤ b ∧ b ≤ 60) ∧ -1000000 ≤ s ∧ s ≤ 1000000
/-- the land at a -/
def Ld (K : PySem.W.Frag) (H : Hp) (a : Addr) (d t b s : Int) : Prop := SqT K H a [.int d, .int t, .int b, .int s]
def Far (y : Int) : Prop := -1000000000000000000000000000000 ≤ y ∧ y ≤ 1000000000000000000000000000000
/-- the day on which a year begins -/
def fday (d t b s y : Int) : Int := ((d * b + t) * y + s) / b
/-- the year of a day -/
def yof (d t b s n : Int) : Int := ((n + 1) * b - s - 1) / (d * b + t)
theorem step_pos {d t b s : Int} (h : LandOk d t b s) : 1 ≤ d * b + t ∧ d * b + t ≤ 24060 := by
  obtain ⟨⟨h1, h2⟩, ⟨h3, h4⟩, ⟨h5, h6⟩, _⟩ := h
  have a1 : 1 * 1 ≤ d * b := Int.mul_le_mul h1 h5 (by decide) (by omega)
  have a2 : d * b ≤ 400 * 60 := Int.mul_le_mul h2 h6 (by omega) (by decide)
  omega
end Ly
namespace Ly
theorem fday_begin {d t b s : Int} (h : LandOk d t b s) (y : Int) : fday d t b s y = d * y + (t * y + s) / b := by
  obtain ⟨_, _, ⟨h5, _⟩, _⟩ := h
  unfold fday
  have e : (d * b + t) * y + s = (t * y + s) + b * (d * y) := by
    rw [Int.add_mul, Int.mul_comm d b, Int.mul_assoc]; omega
  rw [e, Int.add_mul_ediv_left _ _ (by omega)]
  omega
end Ly
set_option Elab.async false
set_option linter.all false
set_option maxRecDepth 100000
set_option maxHeartbeats 4000000
/-! the same data; comprehensions over enumerate -/
namespace Ly
open PySem PySem.Spec PyProof.Rows L2
/-- x and y are the same data, at most k deep -/
inductive Sm (K : PySem.W.Frag) (H : Hp) : Nat → V → V → Prop where
  | non (k : Nat) : Sm K H k .non .non
  | bl (k : Nat) (b : Bool) : Sm K H k (.bl b) (.bl b)
  | int (k : Nat) (i : Int) : Sm K H k (.int i) (.int i)
  | str (k : Nat) (x : Str) (h : PyData.strOk x = true) : Sm K H k (.str x) (.str x)
  | lst {k : Nat} {a b : Addr} {xs ys : List V} : SqL K H a xs → SqL K H b ys → xs.length = ys.length → (∀ (i : Nat) x y, xs[i]? = some x → ys[i]? = some y → Sm K H k x y) → Sm K H (k + 1) (.ref a) (.ref b)
  | tup {k : Nat} {a b : Addr} {xs ys : List V} : SqT K H a xs → SqT K H b ys → xs.length = ys.length → (∀ (i : Nat) x y, xs[i]? = some x → ys[i]? = some y → Sm K H k x y) → Sm K H (k + 1) (.ref a) (.ref b)
theorem Sm.mono {K : PySem.W.Frag} {H H' : Hp} (s : Same H H') : ∀ {k : Nat} {x y : V}, Sm K H k x y → Sm K H' k x y := by
  intro k x y h
  induction h with
  | non k => exact .non k
  | bl k b => exact .bl k b
  | int k i => exact .int k i
  | str k x h => exact .str k x h
  | lst h1 h2 h3 _ ih => exact .lst (Same.l s h1) (Same.l s h2) h3 ih
  | tup h1 h2 h3 _ ih => exact .tup (Same.t s h1) (Same.t s h2) h3 ih
theorem Sm.kinds {K : PySem.W.Frag} {H : Hp} {k : Nat} {x y : V} (h : Sm K H k x y) : ∃ n, Kn K H x n ∧ Kn K H y n := by
  cases h with
  | non => exact ⟨_, .non, .non⟩
  | bl _ b => exact ⟨_, .bl b, .bl b⟩
  | int _ i => exact ⟨_, .int i, .int i⟩
  | str _ x _ => exact ⟨_, .str x, .str x⟩
  | lst h1 h2 => exact ⟨_, .lst h1, .lst h2⟩
  | tup h1 h2 => exact ⟨_, .tup h1, .tup h2⟩
theorem Sm.up {K : PySem.W.Frag} {H : Hp} : ∀ {k j : Nat} {x y : V}, Sm K H k x y → k ≤ j → Sm K H j x y := by
  intro k j x y h
  induction h generalizing j with
  | non k => intro _; exact .non _
  | bl k b => intro _; exact .bl _ b
  | int k i => intro _; exact .int _ i
  | str k x h => intro _; exact .str _ x h
  | lst h1 h2 h3 _ ih =>
    intro e
    obtain ⟨j, rfl⟩ : ∃ i, j = i + 1 := ⟨j - 1, by omega⟩
    exact .lst h1 h2 h3 fun i x y a b => ih i x y a b (by omega)
  | tup h1 h2 h3 _ ih =>
    intro e
    obtain ⟨j, rfl⟩ : ∃ i, j = i + 1 := ⟨j - 1, by omega⟩
    exact .tup h1 h2 h3 fun i x y a b => ih i x y a b (by omega)
/-- lists of ints -/
theorem Sm.ints {K : PySem.W.Frag} {H : Hp} {a b : Addr} {ns : List Int} (h1 : SqL K H a (ns.map V.int)) (h2 : SqL K H b (ns.map V.int)) : Sm K H 1 (.ref a) (.ref b) :=
  .lst h1 h2 rfl fun i x y e1 e2 => by
    rw [e1] at e2
    cases e2
    rw [List.getElem?_map] at e1
    cases q : ns[i]? with
    | none => rw [q] at e1; cases e1
    | some z => rw [q] at e1; cases e1; exact .int 0 z
theorem Sm.tints {K : PySem.W.Frag} {H : Hp} {a b : Addr} {ns : List Int} (h1 : SqT K H a (ns.map V.int)) (h2 : SqT K H b (ns.map V.int)) : Sm K H 1 (.ref a) (.ref b) :=
  .tup h1 h2 rfl fun i x y e1 e2 => by
    rw [e1] at e2
    cases e2
    rw [List.getElem?_map] at e1
    cases q : ns[i]? with
    | none => rw [q] at e1; cases e1
    | some z => rw [q] at e1; cases e1; exact .int 0 z
def sortOf (n : String) : Int := if n = "bool" then 1 else if n = "int" then 2 else if n = "str" then 3 else if n = "list" then 4 else if n = "tuple" then 5 else 6
/-! ### comprehensions over enumerate -/
section
variable {K : PySem.W.Frag} {a : Addr} {xs : List V} {g : TG} {tt : TT} {te : TE} {vs : List Nat} {σ : L2.St} {H1 : Hp} {D : Addr} {Qd : Hp → Prop}
theorem lc_enumL (Pv : Nat → Hp → Prop) (h0 : Pv 0 (upd H1 D (.lst []))) (hl : ∀ i H, i ≤ xs.length → Pv i H → SqL K H a xs)
    (hs : ∀ (i : Nat) x T H, xs[i]? = some x → H T = none → Pv i H → g (.ref T) (wipe σ vs) (upd H T (.tup [.int (i : Nat), x])) fun σ2 H2 => wipe σ2 vs = wipe σ vs ∧ tt σ2 H2 fun b H3 =>
      if b = true then te σ2 H3 fun y H4 => ∃ acc, H4 D = some (.lst acc) ∧ acc.length < sizeLine ∧ Pv (i + 1) (upd H4 D (.lst (acc ++ [y]))) else Pv (i + 1) H3) (hd : ∀ H, Pv xs.length H → Qd H) :
    ∃ W : Nat → Nat → Hp → Prop, (∃ m, W 0 m (upd H1 D (.lst []))) ∧ ∀ i m H, W i m H →
      ((Ite K a).stop i H ∧ Qd H) ∨ ((Ite K a).go i H ∧ ∃ Nx : Hp → Prop, (∀ H', Nx H' → ∃ m', m' < m ∧ W (i + 1) m' H') ∧ ∀ x H', (Ite K a).yld i H x H' → g x (wipe σ vs) H' fun σ2 H2 => wipe σ2 vs = wipe σ vs ∧ tt σ2 H2 fun b H3 =>
        if b = true then te σ2 H3 fun y H4 => ∃ acc, H4 D = some (.lst acc) ∧ acc.length < sizeLine ∧ Nx (upd H4 D (.lst (acc ++ [y]))) else Nx H3) := by
  refine ⟨fun i m H => m = xs.length - i ∧ i ≤ xs.length ∧ Pv i H, ⟨xs.length, by simp, Nat.zero_le _, h0⟩, ?_⟩
  rintro i m H ⟨rfl, hi, p⟩
  have q := hl i H hi p
  by_cases hlt : i < xs.length
  · refine .inr ⟨⟨xs, xs[i], q, by simp [hlt]⟩, Pv (i + 1), fun H' p' => ⟨xs.length - (i + 1), by omega, rfl, hlt, p'⟩, fun x H' y => ?_⟩
    obtain ⟨T, z, e1, e2, e3, y⟩ := y
    subst e1 e3
    exact hs i z T _ (y xs q) e2 p
  · have e : i = xs.length := by omega
    subst e
    exact .inl ⟨⟨xs, q, Nat.le_refl _⟩, hd H p⟩
theorem lc_enumT (Pv : Nat → Hp → Prop) (h0 : Pv 0 (upd H1 D (.lst []))) (hl : ∀ i H, i ≤ xs.length → Pv i H → SqT K H a xs)
    (hs : ∀ (i : Nat) x T H, xs[i]? = some x → H T = none → Pv i H → g (.ref T) (wipe σ vs) (upd H T (.tup [.int (i : Nat), x])) fun σ2 H2 => wipe σ2 vs = wipe σ vs ∧ tt σ2 H2 fun b H3 =>
      if b = true then te σ2 H3 fun y H4 => ∃ acc, H4 D = some (.lst acc) ∧ acc.length < sizeLine ∧ Pv (i + 1) (upd H4 D (.lst (acc ++ [y]))) else Pv (i + 1) H3) (hd : ∀ H, Pv xs.length H → Qd H) :
    ∃ W : Nat → Nat → Hp → Prop, (∃ m, W 0 m (upd H1 D (.lst []))) ∧ ∀ i m H, W i m H →
      ((IteT K a).stop i H ∧ Qd H) ∨ ((IteT K a).go i H ∧ ∃ Nx : Hp → Prop, (∀ H', Nx H' → ∃ m', m' < m ∧ W (i + 1) m' H') ∧ ∀ x H', (IteT K a).yld i H x H' → g x (wipe σ vs) H' fun σ2 H2 => wipe σ2 vs = wipe σ vs ∧ tt σ2 H2 fun b H3 =>
        if b = true then te σ2 H3 fun y H4 => ∃ acc, H4 D = some (.lst acc) ∧ acc.length < sizeLine ∧ Nx (upd H4 D (.lst (acc ++ [y]))) else Nx H3) := by
  refine ⟨fun i m H => m = xs.length - i ∧ i ≤ xs.length ∧ Pv i H, ⟨xs.length, by simp, Nat.zero_le _, h0⟩, ?_⟩
  rintro i m H ⟨rfl, hi, p⟩
  have q := hl i H hi p
  by_cases hlt : i < xs.length
  · refine .inr ⟨⟨xs, xs[i], q, by simp [hlt]⟩, Pv (i + 1), fun H' p' => ⟨xs.length - (i + 1), by omega, rfl, hlt, p'⟩, fun x H' y => ?_⟩
    obtain ⟨T, z, e1, e2, e3, y⟩ := y
    subst e1 e3
    exact hs i z T _ (y xs q) e2 p
  · have e : i = xs.length := by omega
    subst e
    exact .inl ⟨⟨xs, q, Nat.le_refl _⟩, hd H p⟩
end
end Ly
namespace Ly
open PySem
theorem sh_bl (b : Bool) : SeqAt.shaped (.bool b) = true := by first | rfl | (cases b <;> decide)
theorem sh_int (i : Int) : SeqAt.shaped (.int i) = true := by first | rfl | simp [SeqAt.shaped, PyData.canLay0, PyData.depth]
theorem sh_str {x : Str} (h : PyData.strOk x = true) : SeqAt.shaped (.str x) = true := by simp [SeqAt.shaped, PyData.canLay0, PyData.depth, h]
theorem ev_bl (b : Bool) : PyData.eqv (.bool b) (.bool b) = true := by simp [PyData.eqv]
theorem ev_int (i : Int) : PyData.eqv (.int i) (.int i) = true := by simp [PyData.eqv]
theorem ev_str (x : Str) : PyData.eqv (.str x) (.str x) = true := by simp [PyData.eqv]
end Ly
set_option Elab.async false
set_option linter.all false
/-! the mathematics of lands -/
namespace Ly
theorem LandOk.b {d t b s : Int} (h : LandOk d t b s) : 1 ≤ b ∧ b ≤ 60 := h.2.2.1
theorem LandOk.d {d t b s : Int} (h : LandOk d t b s) : 1 ≤ d ∧ d ≤ 400 := h.1
theorem LandOk.t {d t b s : Int} (h : LandOk d t b s) : 0 ≤ t ∧ t < b := h.2.1
theorem LandOk.s {d t b s : Int} (h : LandOk d t b s) : -1000000 ≤ s ∧ s ≤ 1000000 := h.2.2.2
/-- year y begins by day m just where y is at most the year of m -/
theorem gal {d t b s : Int} (h : LandOk d t b s) (y m : Int) : fday d t b s y ≤ m ↔ y ≤ yof d t b s m := by
  have hb := h.b
  have hs := step_pos h
  unfold fday yof
  rw [Int.le_ediv_iff_mul_le (by omega)]
  have e : ((d * b + t) * y + s) / b ≤ m ↔ ((d * b + t) * y + s) / b < m + 1 := by omega
  rw [e, Int.ediv_lt_iff_lt_mul (by omega), Int.mul_comm (d * b + t) y]
  omega
theorem yof_low {d t b s : Int} (h : LandOk d t b s) (m : Int) : fday d t b s (yof d t b s m) ≤ m := (gal h _ m).mpr (Int.le_refl _)
theorem yof_high {d t b s : Int} (h : LandOk d t b s) (m : Int) : m < fday d t b s (yof d t b s m + 1) := by
  have := mt (gal h (yof d t b s m + 1) m).mp (by omega)
  omega
theorem yof_eq {d t b s : Int} (h : LandOk d t b s) {y m : Int} (h1 : fday d t b s y ≤ m) (h2 : m < fday d t b s (y + 1)) : yof d t b s m = y := by
  have a := (gal h y m).mp h1
  have c := mt (gal h (y + 1) m).mpr (by omega)
  omega
/-- T: the long years told so far -/
def tof (t b s y : Int) : Int := (t * y + s) / b
theorem fday_tof {d t b s : Int} (h : LandOk d t b s) (y : Int) : fday d t b s y = d * y + tof t b s y := fday_begin h y
theorem tof_step {d t b s : Int} (h : LandOk d t b s) (y : Int) : tof t b s (y + 1) = tof t b s y ∨ tof t b s (y + 1) = tof t b s y + 1 := by
  have hb := h.b
  have ht := h.t
  unfold tof
  have e : t * (y + 1) + s = (t * y + s) + t := by rw [Int.mul_add, Int.mul_one]; omega
  rw [e]
  generalize t * y + s = A
  have h1 : A / b ≤ (A + t) / b := Int.ediv_le_ediv (by omega) (by omega)
  have h2 : (A + t) / b ≤ (A + b * 1) / b := Int.ediv_le_ediv (by omega) (by omega)
  rw [Int.add_mul_ediv_left _ _ (by omega)] at h2
  omega
theorem flen {d t b s : Int} (h : LandOk d t b s) (y : Int) : fday d t b s (y + 1) - fday d t b s y = d + (tof t b s (y + 1) - tof t b s y) := by
  rw [fday_tof h, fday_tof h, Int.mul_add, Int.mul_one]; omega
theorem flen2 {d t b s : Int} (h : LandOk d t b s) (y : Int) : fday d t b s (y + 1) - fday d t b s y = d ∨ fday d t b s (y + 1) - fday d t b s y = d + 1 := by
  rw [flen h]
  rcases tof_step h y with e | e <;> omega
theorem fday_lt {d t b s : Int} (h : LandOk d t b s) (y : Int) : fday d t b s y < fday d t b s (y + 1) := by
  have := flen2 h y
  have := h.d
  omega
theorem yof_begin {d t b s : Int} (h : LandOk d t b s) (y : Int) : yof d t b s (fday d t b s y) = y := yof_eq h (Int.le_refl _) (fday_lt h y)
theorem yof_ahead {d t b s : Int} (h : LandOk d t b s) (y : Int) : yof d t b s (fday d t b s y - 1) = y - 1 := by
  have e := fday_lt h (y - 1)
  rw [Int.sub_add_cancel] at e
  exact yof_eq h (by omega) (by rw [Int.sub_add_cancel]; omega)
theorem fday_round {d t b s : Int} (h : LandOk d t b s) (y : Int) : fday d t b s (y + b) = fday d t b s y + (d * b + t) := by
  have hb := h.b
  unfold fday
  have e : (d * b + t) * (y + b) + s = ((d * b + t) * y + s) + b * (d * b + t) := by
    rw [Int.mul_add, Int.mul_comm (d * b + t) b]; omega
  rw [e, Int.add_mul_ediv_left _ _ (by omega)]
/-- the day behind: the same year, or the next one's first -/
theorem yof_succ {d t b s : Int} (h : LandOk d t b s) (m : Int) :
    yof d t b s (m + 1) = if m + 1 - fday d t b s (yof d t b s m) = fday d t b s (yof d t b s m + 1) - fday d t b s (yof d t b s m) then yof d t b s m + 1 else yof d t b s m := by
  have h1 := yof_low h m
  have h2 := yof_high h m
  split
  · rename_i e
    have e2 : m + 1 = fday d t b s (yof d t b s m + 1) := by omega
    rw [e2]
    exact yof_begin h _
  · exact yof_eq h (by omega) (by omega)
theorem ediv_abs {x k : Int} (hk : 1 ≤ k) {B : Int} (hB : 0 ≤ B) (h1 : -B ≤ x) (h2 : x ≤ B) : -B ≤ x / k ∧ x / k ≤ B := by
  constructor
  · rw [Int.le_ediv_iff_mul_le (by omega)]
    have : -B * k ≤ -B * 1 := Int.mul_le_mul_of_nonpos_left (by omega) hk
    omega
  · have h3 : x / k < B + 1 := by
      rw [Int.ediv_lt_iff_lt_mul (by omega)]
      have : (B + 1) * 1 ≤ (B + 1) * k := Int.mul_le_mul_of_nonneg_left hk (by omega)
      omega
    omega
theorem mul_abs {x k : Int} {M B : Int} (hk0 : 0 ≤ k) (hk : k ≤ M) (hB : 0 ≤ B) (h1 : -B ≤ x) (h2 : x ≤ B) : -(B * M) ≤ x * k ∧ x * k ≤ B * M := by
  have a1 : x * k ≤ B * k := Int.mul_le_mul_of_nonneg_right h2 hk0
  have a2 : B * k ≤ B * M := Int.mul_le_mul_of_nonneg_left hk hB
  have a3 : -B * k ≤ x * k := Int.mul_le_mul_of_nonneg_right h1 hk0
  have a4 : -B * k = -(B * k) := Int.neg_mul ..
  omega
theorem yof_abs {d t b s : Int} (h : LandOk d t b s) {m B : Int} (hB : 0 ≤ B) (h1 : -B ≤ m) (h2 : m ≤ B) : -(60 * B + 2000000) ≤ yof d t b s m ∧ yof d t b s m ≤ 60 * B + 2000000 := by
  have hb := h.b
  have hs := h.s
  have hp := step_pos h
  have hm := mul_abs (x := m + 1) (k := b) (M := 60) (B := B + 1) (by omega) (by omega) (by omega) (by omega) (by omega)
  unfold yof
  exact ediv_abs hp.1 (by omega) (by omega) (by omega)
theorem fday_abs {d t b s : Int} (h : LandOk d t b s) {y B : Int} (hB : 0 ≤ B) (h1 : -B ≤ y) (h2 : y ≤ B) : -(24060 * B + 2000000) ≤ fday d t b s y ∧ fday d t b s y ≤ 24060 * B + 2000000 := by
  have hb := h.b
  have hs := h.s
  have hp := step_pos h
  have hm := mul_abs (x := y) (k := d * b + t) (M := 24060) (B := B) (by omega) (by omega) (by omega) (by omega) (by omega)
  unfold fday
  rw [Int.mul_comm (d * b + t) y]
  exact ediv_abs hb.1 (by omega) (by omega) (by omega)
theorem tof_abs {d t b s : Int} (h : LandOk d t b s) {y B : Int} (hB : 0 ≤ B) (h1 : -B ≤ y) (h2 : y ≤ B) : -(B + 1000001) ≤ tof t b s y ∧ tof t b s y ≤ B + 1000001 := by
  have hb := h.b
  have hs := h.s
  have ht := h.t
  have hm := mul_abs (x := y) (k := t) (M := b) (B := B) (by omega) (by omega) (by omega) (by omega) (by omega)
  unfold tof
  rw [Int.mul_comm t y]
  have e1 : (B * b + 1000000 * b) / b = B + 1000000 := by rw [← Int.add_mul, Int.mul_ediv_cancel _ (by omega)]
  have e2 : (-(B * b) - 1000000 * b) / b = -B - 1000000 := by rw [← Int.neg_mul, ← Int.sub_mul, Int.mul_ediv_cancel _ (by omega)]
  have m1 : (y * t + s) / b ≤ (B * b + 1000000 * b) / b := Int.ediv_le_ediv (by omega) (by omega)
  have m2 : (-(B * b) - 1000000 * b) / b ≤ (y * t + s) / b := Int.ediv_le_ediv (by omega) (by omega)
  omega
theorem fday_abs2 {d t b s : Int} (h : LandOk d t b s) {y B : Int} (hB : 0 ≤ B) (h1 : -B ≤ y) (h2 : y ≤ B) : -(401 * B + 1000001) ≤ fday d t b s y ∧ fday d t b s y ≤ 401 * B + 1000001 := by
  have hd := h.d
  have ht := tof_abs h hB h1 h2
  have hm := mul_abs (x := y) (k := d) (M := 400) (B := B) (by omega) (by omega) (by omega) (by omega) (by omega)
  rw [fday_tof h, Int.mul_comm d y]
  omega
/-- of so many years as many are long as their part, below or above -/
theorem tof_part {d t b s : Int} (h : LandOk d t b s) (y : Int) {n : Int} (hn : 0 ≤ n) : n * t / b ≤ tof t b s (y + n) - tof t b s y ∧ tof t b s (y + n) - tof t b s y ≤ (n * t + b - 1) / b := by
  have hb := h.b
  unfold tof
  have e : t * (y + n) + s = (t * y + s) + n * t := by rw [Int.mul_add, Int.mul_comm t n]; omega
  rw [e]
  generalize t * y + s = A
  generalize n * t = N
  have hA := Int.emod_add_mul_ediv A b
  have hN := Int.emod_add_mul_ediv N b
  have a0 := Int.emod_nonneg A (show b ≠ 0 by omega)
  have a1 := Int.emod_lt_of_pos A (show 0 < b by omega)
  have n0 := Int.emod_nonneg N (show b ≠ 0 by omega)
  have n1 := Int.emod_lt_of_pos N (show 0 < b by omega)
  constructor
  · have : A / b + N / b ≤ (A + N) / b := by
      rw [Int.le_ediv_iff_mul_le (by omega), Int.add_mul, Int.mul_comm (A / b), Int.mul_comm (N / b)]
      omega
    omega
  · generalize hC : (N + b - 1) / b = C
    have h2 : N ≤ b * C := by
      have h3 := Int.emod_add_mul_ediv (N + b - 1) b
      have h4 := Int.emod_lt_of_pos (N + b - 1) (show 0 < b by omega)
      rw [hC] at h3
      omega
    have : (A + N) / b < A / b + C + 1 := by
      rw [Int.ediv_lt_iff_lt_mul (by omega), Int.add_mul, Int.add_mul, Int.mul_comm (A / b), Int.mul_comm C]
      omega
    omega
theorem tof_round {d t b s : Int} (h : LandOk d t b s) (y : Int) : tof t b s (y + b) = tof t b s y + t := by
  have hb := h.b
  unfold tof
  have e : t * (y + b) + s = (t * y + s) + b * t := by rw [Int.mul_add, Int.mul_comm t b]; omega
  rw [e, Int.add_mul_ediv_left _ _ (by omega)]
end Ly
set_option Elab.async false
set_option linter.all false
set_option maxRecDepth 100000
set_option maxHeartbeats 4000000
namespace Ly
open PySem PySem.Spec PyProof.Rows L2
theorem cells_int {ns : List Int} {k : Int} {i : Nat} {x : V} (h : (cutV ([V.int 0] ++ ns.map V.int) none (some k))[i]? = some x) : ∃ c, x = .int c := by
  have m := List.mem_of_getElem? h
  unfold cutV at m
  have m2 := List.mem_of_mem_drop (List.mem_of_mem_take m)
  rcases List.mem_append.mp m2 with e | e
  · exact ⟨0, by simpa using e⟩
  · obtain ⟨c, _, e⟩ := List.mem_map.mp e
    exact ⟨c, e.symm⟩
theorem sz63 {n : Nat} (h : n ≤ 63) : 1 + n ≤ sizeLine := by rw [sizeLine_eq]; omega
theorem sz_small {n : Nat} (h : n < 100000) : n < sizeLine := by rw [sizeLine_eq]; omega
/-- so many ones -/
def ones (n : Nat) : List V := List.replicate n (.int 1)
theorem ones_len (n : Nat) : (ones n).length = n := List.length_replicate
theorem ones_succ (n : Nat) : ones n ++ [.int 1] = ones (n + 1) := by
  unfold ones
  rw [List.replicate_succ']
end Ly
set_option Elab.async false
set_option linter.all false
set_option maxRecDepth 100000
set_option maxHeartbeats 4000000
namespace K02
open PySem PySem.Spec PyProof.Rows L2 Ly
def topS (i : Nat) : Stmt := PySem.Challenge.pw_longyears_k02_whole_each_day_one_date.main.body.getD i (.Pass ⟨0, 0, 0, 0⟩)
abbrev s_is_from : Stmt := topS 10
theorem sc_is_from : FnScope ["thing", "low", "high"] ["thing", "low", "high"] (defScope s_is_from) := ⟨rfl, rfl, rfl, by decide +kernel, rfl, by decide +kernel, by decide +kernel⟩
abbrev s_is_land : Stmt := topS 11
theorem sc_is_land : FnScope ["thing"] ["thing"] (defScope s_is_land) := ⟨rfl, rfl, rfl, by decide +kernel, rfl, by decide +kernel, by decide +kernel⟩
abbrev s_need_land : Stmt := topS 12
theorem sc_need_land : FnScope ["land"] ["land"] (defScope s_need_land) := ⟨rfl, rfl, rfl, by decide +kernel, rfl, by decide +kernel, by decide +kernel⟩
abbrev s_need_year : Stmt := topS 13
theorem sc_need_year : FnScope ["year"] ["year"] (defScope s_need_year) := ⟨rfl, rfl, rfl, by decide +kernel, rfl, by decide +kernel, by decide +kernel⟩
abbrev s_need_day : Stmt := topS 14
theorem sc_need_day : FnScope ["day"] ["day"] (defScope s_need_day) := ⟨rfl, rfl, rfl, by decide +kernel, rfl, by decide +kernel, by decide +kernel⟩
abbrev s_step_of : Stmt := topS 15
theorem sc_step_of : FnScope ["land"] ["land"] (defScope s_step_of) := ⟨rfl, rfl, rfl, by decide +kernel, rfl, by decide +kernel, by decide +kernel⟩
abbrev s_first_day : Stmt := topS 16
theorem sc_first_day : FnScope ["land", "year"] ["land", "year"] (defScope s_first_day) := ⟨rfl, rfl, rfl, by decide +kernel, rfl, by decide +kernel, by decide +kernel⟩
abbrev s_year_of : Stmt := topS 17
theorem sc_year_of : FnScope ["land", "day"] ["land", "day"] (defScope s_year_of) := ⟨rfl, rfl, rfl, by decide +kernel, rfl, by decide +kernel, by decide +kernel⟩
abbrev s_dated : Stmt := topS 18
theorem sc_dated : FnScope ["land", "day", "year"] ["land", "day"] (defScope s_dated) := ⟨rfl, rfl, rfl, by decide +kernel, rfl, by decide +kernel, by decide +kernel⟩
abbrev s_begin : Stmt := topS 19
theorem sc_begin : FnScope ["land", "year"] ["land", "year"] (defScope s_begin) := ⟨rfl, rfl, rfl, by decide +kernel, rfl, by decide +kernel, by decide +kernel⟩
abbrev s_date : Stmt := topS 20
theorem sc_date : FnScope ["land", "day"] ["land", "day"] (defScope s_date) := ⟨rfl, rfl, rfl, by decide +kernel, rfl, by decide +kernel, by decide +kernel⟩
abbrev s_is_long : Stmt := topS 21
theorem sc_is_long : FnScope ["land", "year"] ["land", "year"] (defScope s_is_long) := ⟨rfl, rfl, rfl, by decide +kernel, rfl, by decide +kernel, by decide +kernel⟩
abbrev s_law_deck : Stmt := topS 23
theorem sc_law_deck : FnScope ["cell", "turn"] ["cell", "turn"] (defScope s_law_deck) := ⟨rfl, rfl, rfl, by decide +kernel, rfl, by decide +kernel, by decide +kernel⟩
abbrev s_law_pick : Stmt := topS 24
theorem sc_law_pick : FnScope ["deck", "size", "found", "number"] ["deck", "size"] (defScope s_law_pick) := ⟨rfl, rfl, rfl, by decide +kernel, rfl, by decide +kernel, by decide +kernel⟩
abbrev s_law_one : Stmt := topS 25
theorem sc_law_one : FnScope ["deck", "some"] ["deck", "some"] (defScope s_law_one) := ⟨rfl, rfl, rfl, by decide +kernel, rfl, by decide +kernel, by decide +kernel⟩
abbrev s_law_sort : Stmt := topS 26
theorem sc_law_sort : FnScope ["thing"] ["thing"] (defScope s_law_sort) := ⟨rfl, rfl, rfl, by decide +kernel, rfl, by decide +kernel, by decide +kernel⟩
abbrev s_law_same : Stmt := topS 27
theorem sc_law_same : FnScope ["told", "due", "k", "part"] ["told", "due"] (defScope s_law_same) := ⟨rfl, rfl, rfl, by decide +kernel, rfl, by decide +kernel, by decide +kernel⟩
abbrev s_law_land : Stmt := topS 28
theorem sc_law_land : FnScope ["deck", "long_so", "bottoms", "shifts", "bottom", "shift"] ["deck", "long_so", "bottoms", "shifts"] (defScope s_law_land) := ⟨rfl, rfl, rfl, by decide +kernel, rfl, by decide +kernel, by decide +kernel⟩
abbrev s_law_any : Stmt := topS 29
theorem sc_law_any : FnScope ["deck", "long_so", "bottoms", "shifts"] ["deck"] (defScope s_law_any) := ⟨rfl, rfl, rfl, by decide +kernel, rfl, by decide +kernel, by decide +kernel⟩
abbrev s_law_begin : Stmt := topS 30
theorem sc_law_begin : FnScope ["land", "year"] ["land", "year"] (defScope s_law_begin) := ⟨rfl, rfl, rfl, by decide +kernel, rfl, by decide +kernel, by decide +kernel⟩
abbrev s_law_length : Stmt := topS 31
theorem sc_law_length : FnScope ["land", "year"] ["land", "year"] (defScope s_law_length) := ⟨rfl, rfl, rfl, by decide +kernel, rfl, by decide +kernel, by decide +kernel⟩
abbrev s_law_far : Stmt := topS 32
theorem sc_law_far : FnScope ["deck", "number"] ["deck"] (defScope s_law_far) := ⟨rfl, rfl, rfl, by decide +kernel, rfl, by decide +kernel, by decide +kernel⟩
abbrev s_law_step : Stmt := topS 33
theorem sc_law_step : FnScope ["land"] ["land"] (defScope s_law_step) := ⟨rfl, rfl, rfl, by decide +kernel, rfl, by decide +kernel, by decide +kernel⟩
abbrev s_law_walk_right : Stmt := topS 34
theorem sc_law_walk_right : FnScope ["land", "day", "year", "place", "turn"] ["land", "day"] (defScope s_law_walk_right) := ⟨rfl, rfl, rfl, by decide +kernel, rfl, by decide +kernel, by decide +kernel⟩
abbrev s_law : Stmt := topS 35
theorem sc_law : FnScope ["script", "cell", "deck", "land", "turn", "year", "day", "long_so", "many", "longs", "low", "one"] ["script"] (defScope s_law) := ⟨rfl, rfl, rfl, by decide +kernel, rfl, by decide +kernel, by decide +kernel⟩
structure All (K : PySem.W.Frag) (mg : Str → Option Value) : Prop where
  t_is_from : Tx K mg "is_from" s_is_from ["thing", "low", "high"]
  t_is_land : Tx K mg "is_land" s_is_land ["thing"]
  t_need_land : Tx K mg "need_land" s_need_land ["land"]
  t_need_year : Tx K mg "need_year" s_need_year ["year"]
  t_need_day : Tx K mg "need_day" s_need_day ["day"]
  t_step_of : Tx K mg "step_of" s_step_of ["land"]
  t_first_day : Tx K mg "first_day" s_first_day ["land", "year"]
  t_year_of : Tx K mg "year_of" s_year_of ["land", "day"]
  t_dated : Tx K mg "dated" s_dated ["land", "day"]
  t_begin : Tx K mg "begin" s_begin ["land", "year"]
  t_date : Tx K mg "date" s_date ["land", "day"]
  t_is_long : Tx K mg "is_long" s_is_long ["land", "year"]
  t_law_deck : Tx K mg "_law_deck" s_law_deck ["cell", "turn"]
  t_law_pick : Tx K mg "_law_pick" s_law_pick ["deck", "size"]
  t_law_one : Tx K mg "_law_one" s_law_one ["deck", "some"]
  t_law_sort : Tx K mg "_law_sort" s_law_sort ["thing"]
  t_law_same : Tx K mg "_law_same" s_law_same ["told", "due"]
  t_law_land : Tx K mg "_law_land" s_law_land ["deck", "long_so", "bottoms", "shifts"]
  t_law_any : Tx K mg "_law_any" s_law_any ["deck"]
  t_law_begin : Tx K mg "_law_begin" s_law_begin ["land", "year"]
  t_law_length : Tx K mg "_law_length" s_law_length ["land", "year"]
  t_law_far : Tx K mg "_law_far" s_law_far ["deck"]
  t_law_step : Tx K mg "_law_step" s_law_step ["land"]
  t_law_walk_right : Tx K mg "_law_walk_right" s_law_walk_right ["land", "day"]
  t_law : Tx K mg "law" s_law ["script"]
  b_bool : mg "bool" = none
  b_enumerate : mg "enumerate" = none
  b_int : mg "int" = none
  b_isinstance : mg "isinstance" = none
  b_len : mg "len" = none
  b_list : mg "list" = none
  b_range : mg "range" = none
  b_str : mg "str" = none
  b_tuple : mg "tuple" = none
  c_MOST_DAYS : ∃ t, mg "MOST_DAYS" = some (.int 400 t)
  c_MOST_BOTTOM : ∃ t, mg "MOST_BOTTOM" = some (.int 60 t)
  c_MOST_SHIFT : ∃ t, mg "MOST_SHIFT" = some (.int 1000000 t)
  c_FAR : ∃ t, mg "FAR" = some (.int 1000000000000000000000000000000 t)
local macro_rules | `(tactic| walk_at "g") => `(tactic| (repeat (first
  | refine ⟨_, _, _, _, rfl, rfl, (by assumption), (by rfl), ?_⟩
  | refine ⟨_, _, rfl, rfl, ⟨by omega, by omega⟩, ?_⟩
  | refine ⟨_, _, rfl, rfl, Or.inl ⟨by omega, by omega⟩, ?_⟩
  | refine ⟨_, _, rfl, rfl, Or.inr ⟨by omega, by omega⟩, ?_⟩
  | refine ⟨_, _, rfl, rfl, (by show (0 : Int) < _; omega), ?_⟩
  | refine ⟨_, _, rfl, rfl, ?_⟩
  | refine ⟨_, _, rfl, ?_⟩
  | refine ⟨_, rfl, ?_⟩
  | refine ⟨rfl, ?_⟩)))
local macro_rules | `(tactic| walk_at "vi") => `(tactic| (show V.int _ = V.int _; congr 1; (try dsimp only); omega))
section
variable {P : Program} {w : World} {K : PySem.W.Frag} {mg : Str → Option Value} {base : Heap}
def sp_is_from (K : PySem.W.Frag) : Sp := fun vs H Q _ => ∃ (x : V) (lo hi : Int) (n : String), vs = [x, .int lo, .int hi] ∧ Kn K H x n ∧ Q (.bl (isFrom x lo hi)) H
theorem d_is_from (A : All K mg) : Df P w K mg base CX0 "is_from" 1 ["thing", "low", "high"] (sp_is_from K) := by
  obtain ⟨f, fd, F, hm, hb⟩ := A.t_is_from
  refine ⟨f, fd, F.ok sc_is_from (fun vs H Q E h => ?_) (fun cdv A' outer s H vs Q E hr h => ?_), hm, F.kp, hb⟩
  · obtain ⟨x, lo, hi, n, rfl, _⟩ := h; rfl
  · obtain ⟨x, lo, hi, n, rfl, hk, q⟩ := h
    refine ⟨_, (pss_one (ps_ret (pe_and (pe_callB call_isi (by rfl) A.b_isinstance (by decide +kernel) (pa_cons (pv 0) (pa_cons (pe_bltn (v := .ty "int") (by rfl) A.b_int (by decide +kernel) rfl) pa_nil))) (pe_and (pe_not (pe_callB call_isi (by rfl) A.b_isinstance (by decide +kernel) (pa_cons (pv 0) (pa_cons (pe_bltn (v := .ty "bool") (by rfl) A.b_bool (by decide +kernel) rfl) pa_nil)))) (pe_one (pe_chain op_le op_le (pv 1) (pv 0) (pv 2))))))), ?_⟩
    refine ⟨x, rfl, x, _, _, _, _, rfl, .ty _, hk.ty, hk.kit (by decide), _, rfl, ?_⟩
    cases hk with
    | int i =>
      refine iteT ?_
      refine ⟨_, rfl, _, _, _, _, _, rfl, .ty _, (Kn.int i).ty, (Kn.int (K := K) (H := H) i).kit (by decide), _, rfl, _, rfl, ?_⟩
      refine iteT ?_
      refine ⟨_, rfl, _, rfl, _, _, rfl, rfl, _, rfl, ?_⟩
      refine ite2 (fun e => ?_) (fun e => ?_)
      · refine ⟨_, rfl, _, _, rfl, rfl, ?_⟩
        rw [isFrom_mid (of_decide_eq_true e)] at q
        exact q
      · rw [isFrom_no1 fun z => e (decide_eq_true z)] at q
        exact q
    | bl b =>
      refine iteT ?_
      refine ⟨_, rfl, _, _, _, _, _, rfl, .ty _, (Kn.bl b).ty, (Kn.bl (K := K) (H := H) b).kit (by decide), _, rfl, _, rfl, ?_⟩
      exact iteF q
    | non => exact iteF q
    | str z => exact iteF q
    | lst h => exact iteF q
    | tup h => exact iteF q

def sp_is_land (K : PySem.W.Frag) : Sp := fun vs H Q _ => ∃ (a : Addr) (d t b s : Int), vs = [.ref a] ∧ Ld K H a d t b s ∧ LandOk d t b s ∧ Q (.bl true) H
theorem d_is_land (A : All K mg) : Df P w K mg base CX0 "is_land" 2 ["thing"] (sp_is_land K) := by
  obtain ⟨f, fd, F, hm, hb⟩ := A.t_is_land
  refine ⟨f, fd, F.ok sc_is_land (fun vs H Q E h => ?_) (fun cdv A' outer s H vs Q E hr h => ?_), hm, F.kp, hb⟩
  · obtain ⟨a, d, t, b, s, rfl, _⟩ := h; rfl
  · obtain ⟨a, d, t, b, s, rfl, hl, hk, q⟩ := h
    obtain ⟨⟨k1, k2⟩, ⟨k3, k4⟩, ⟨k5, k6⟩, k7, k8⟩ := hk
    have kt : Kn K H (.ref a) "tuple" := .tup hl
    refine ⟨_, (pss_cons (ps_if (PW.pt (pw_or (pt_not (pt_val (pe_callB call_isi (by rfl) A.b_isinstance (by decide +kernel) (pa_cons (pv 0) (pa_cons (pe_bltn (v := .ty "tuple") (by rfl) A.b_tuple (by decide +kernel) rfl) pa_nil))))) (pw_or (pt_cmpR op_ne (pe_callB call_len_seq (by rfl) A.b_len (by decide +kernel) (pa_cons (pv 0) pa_nil)) pe_int (nomark _)) (pw_or1 (pt_not (pt_val (pe_callD (d_is_from A) hr (by decide) (by rfl) pass0 (pa_cons (pe_ix ix_tup (pv 0) pe_int (fun _ _ => rfl)) (pa_cons pe_int (pa_cons (pe_glob (v := .int 400) (by rfl) A.c_MOST_DAYS.choose_spec ⟨_, rfl⟩) pa_nil))))))))))
 (pss_one (ps_ret pe_bl))
 pss_nil)
 (pss_cons (ps_if (PW.pt (pw_or (pt_not (pt_val (pe_callD (d_is_from A) hr (by decide) (by rfl) pass0 (pa_cons (pe_ix ix_tup (pv 0) pe_int (fun _ _ => rfl)) (pa_cons pe_int (pa_cons (pe_glob (v := .int 60) (by rfl) A.c_MOST_BOTTOM.choose_spec ⟨_, rfl⟩) pa_nil)))))) (pw_or1 (pt_not (pt_val (pe_callD (d_is_from A) hr (by decide) (by rfl) pass0 (pa_cons (pe_ix ix_tup (pv 0) pe_int (fun _ _ => rfl)) (pa_cons pe_int (pa_cons (pe_op op_sub (pe_ix ix_tup (pv 0) pe_int (fun _ _ => rfl)) pe_int) pa_nil)))))))))
 (pss_one (ps_ret pe_bl))
 pss_nil)
 (pss_one (ps_ret (pe_callD (d_is_from A) hr (by decide) (by rfl) pass0 (pa_cons (pe_ix ix_tup (pv 0) pe_int (fun _ _ => rfl)) (pa_cons (pe_un un_neg (pe_glob (v := .int 1000000) (by rfl) A.c_MOST_SHIFT.choose_spec ⟨_, rfl⟩)) (pa_cons (pe_glob (v := .int 1000000) (by rfl) A.c_MOST_SHIFT.choose_spec ⟨_, rfl⟩) pa_nil)))))))), ?_⟩
    refine ⟨_, rfl, _, _, _, _, _, rfl, .ty _, kt.ty, kt.kit (by decide), _, rfl, ?_⟩
    refine iteF ?_
    refine ⟨_, rfl, a, _, rfl, .inr hl, rfl, _, rfl, ?_⟩
    refine iteF ?_
    refine ⟨_, rfl, _, _, _, _, rfl, rfl, hl, (by rfl), _, _, _, _, rfl, .int d, _, rfl, ?_⟩
    rw [isFrom_yes k1 k2]
    refine iteF ?_
    refine ⟨_, rfl, _, _, _, _, rfl, rfl, hl, (by rfl), _, _, _, _, rfl, .int b, _, rfl, ?_⟩
    rw [isFrom_yes k5 k6]
    refine iteF ?_
    refine ⟨_, rfl, _, _, _, _, rfl, rfl, hl, (by rfl), _, rfl, _, _, _, _, rfl, rfl, hl, (by rfl), _, _, rfl, rfl, _, _, _, _, rfl, .int t, _, rfl, ?_⟩
    rw [isFrom_yes k3 (by omega)]
    refine iteF ?_
    refine ⟨_, rfl, _, _, _, _, rfl, rfl, hl, (by rfl), _, rfl, _, _, _, _, rfl, .int s, ?_⟩
    rw [isFrom_yes (by omega) (by omega)]
    exact q

def sp_need_land (K : PySem.W.Frag) : Sp := fun vs H Q _ => ∃ (a : Addr) (d t b s : Int), vs = [.ref a] ∧ Ld K H a d t b s ∧ LandOk d t b s ∧ Q .non H
theorem d_need_land (A : All K mg) : Df P w K mg base CX0 "need_land" 3 ["land"] (sp_need_land K) := by
  obtain ⟨f, fd, F, hm, hb⟩ := A.t_need_land
  refine ⟨f, fd, F.ok sc_need_land (fun vs H Q E h => ?_) (fun cdv A' outer s H vs Q E hr h => ?_), hm, F.kp, hb⟩
  · obtain ⟨a, d, t, b, s, rfl, _⟩ := h; rfl
  · obtain ⟨a, d, t, b, s, rfl, hl, hk, q⟩ := h
    refine ⟨_, (pss_one (ps_if (pt_not (pt_val (pe_callD (d_is_land A) hr (by decide) (by rfl) pass0 (pa_cons (pv 0) pa_nil))))
 (pss_one ps_never)
 pss_nil)), ?_⟩
    refine ⟨_, rfl, a, d, t, b, s, rfl, hl, hk, _, rfl, ?_⟩
    exact iteF q

def sp_need_year : Sp := fun vs H Q _ => ∃ (y : Int), vs = [.int y] ∧ Far y ∧ Q .non H
theorem d_need_year (A : All K mg) : Df P w K mg base CX0 "need_year" 2 ["year"] sp_need_year := by
  obtain ⟨f, fd, F, hm, hb⟩ := A.t_need_year
  refine ⟨f, fd, F.ok sc_need_year (fun vs H Q E h => ?_) (fun cdv A' outer s H vs Q E hr h => ?_), hm, F.kp, hb⟩
  · obtain ⟨y, rfl, _⟩ := h; rfl
  · obtain ⟨y, rfl, ⟨h1, h2⟩, q⟩ := h
    refine ⟨_, (pss_one (ps_if (pt_not (pt_val (pe_callD (d_is_from A) hr (by decide) (by rfl) pass0 (pa_cons (pv 0) (pa_cons (pe_un un_neg (pe_glob (v := .int 1000000000000000000000000000000) (by rfl) A.c_FAR.choose_spec ⟨_, rfl⟩)) (pa_cons (pe_glob (v := .int 1000000000000000000000000000000) (by rfl) A.c_FAR.choose_spec ⟨_, rfl⟩) pa_nil))))))
 (pss_one ps_never)
 pss_nil)), ?_⟩
    refine ⟨_, rfl, _, rfl, _, _, _, _, rfl, .int y, _, rfl, ?_⟩
    rw [isFrom_yes h1 h2]
    exact iteF q

def sp_need_day : Sp := fun vs H Q _ => ∃ (y : Int), vs = [.int y] ∧ Far y ∧ Q .non H
theorem d_need_day (A : All K mg) : Df P w K mg base CX0 "need_day" 2 ["day"] sp_need_day := by
  obtain ⟨f, fd, F, hm, hb⟩ := A.t_need_day
  refine ⟨f, fd, F.ok sc_need_day (fun vs H Q E h => ?_) (fun cdv A' outer s H vs Q E hr h => ?_), hm, F.kp, hb⟩
  · obtain ⟨y, rfl, _⟩ := h; rfl
  · obtain ⟨y, rfl, ⟨h1, h2⟩, q⟩ := h
    refine ⟨_, (pss_one (ps_if (pt_not (pt_val (pe_callD (d_is_from A) hr (by decide) (by rfl) pass0 (pa_cons (pv 0) (pa_cons (pe_un un_neg (pe_glob (v := .int 1000000000000000000000000000000) (by rfl) A.c_FAR.choose_spec ⟨_, rfl⟩)) (pa_cons (pe_glob (v := .int 1000000000000000000000000000000) (by rfl) A.c_FAR.choose_spec ⟨_, rfl⟩) pa_nil))))))
 (pss_one ps_never)
 pss_nil)), ?_⟩
    refine ⟨_, rfl, _, rfl, _, _, _, _, rfl, .int y, _, rfl, ?_⟩
    rw [isFrom_yes h1 h2]
    exact iteF q

def sp_step_of (K : PySem.W.Frag) : Sp := fun vs H Q _ => ∃ (a : Addr) (d t b s : Int), vs = [.ref a] ∧ Ld K H a d t b s ∧ LandOk d t b s ∧ Q (.int (d * b + t)) H
theorem d_step_of (A : All K mg) : Df P w K mg base CX0 "step_of" 1 ["land"] (sp_step_of K) := by
  obtain ⟨f, fd, F, hm, hb⟩ := A.t_step_of
  refine ⟨f, fd, F.ok sc_step_of (fun vs H Q E h => ?_) (fun cdv A' outer s H vs Q E hr h => ?_), hm, F.kp, hb⟩
  · obtain ⟨a, d, t, b, s, rfl, _⟩ := h; rfl
  · obtain ⟨a, d, t, b, s, rfl, hl, hk, q⟩ := h
    obtain ⟨⟨k1, k2⟩, ⟨k3, k4⟩, ⟨k5, k6⟩, k7, k8⟩ := hk
    refine ⟨_, (pss_one (ps_ret (pe_op op_add (pe_op op_mul (pe_ix ix_tup (pv 0) pe_int (fun _ _ => rfl)) (pe_ix ix_tup (pv 0) pe_int (fun _ _ => rfl))) (pe_ix ix_tup (pv 0) pe_int (fun _ _ => rfl))))), ?_⟩
    walk_at "g"
    exact q

def sp_first_day (K : PySem.W.Frag) : Sp := fun vs H Q _ => ∃ (a : Addr) (d t b s y : Int), vs = [.ref a, .int y] ∧ Ld K H a d t b s ∧ LandOk d t b s ∧ Q (.int (fday d t b s y)) H
theorem d_first_day (A : All K mg) : Df P w K mg base CX0 "first_day" 2 ["land", "year"] (sp_first_day K) := by
  obtain ⟨f, fd, F, hm, hb⟩ := A.t_first_day
  refine ⟨f, fd, F.ok sc_first_day (fun vs H Q E h => ?_) (fun cdv A' outer s H vs Q E hr h => ?_), hm, F.kp, hb⟩
  · obtain ⟨a, d, t, b, s, y, rfl, _⟩ := h; rfl
  · obtain ⟨a, d, t, b, s, y, rfl, hl, hk, q⟩ := h
    have hp := step_pos hk
    obtain ⟨⟨k1, k2⟩, ⟨k3, k4⟩, ⟨k5, k6⟩, k7, k8⟩ := id hk
    refine ⟨_, (pss_one (ps_ret (pe_op op_fdiv (pe_op op_add (pe_op op_mul (pe_callD (d_step_of A) hr (by decide) (by rfl) pass0 (pa_cons (pv 0) pa_nil)) (pv 1)) (pe_ix ix_tup (pv 0) pe_int (fun _ _ => rfl))) (pe_ix ix_tup (pv 0) pe_int (fun _ _ => rfl))))), ?_⟩
    refine ⟨_, rfl, a, d, t, b, s, rfl, hl, hk, ?_⟩
    generalize hst : d * b + t = st at hp
    walk_at "g"
    rw [← hst]
    exact q

def sp_year_of (K : PySem.W.Frag) : Sp := fun vs H Q _ => ∃ (a : Addr) (d t b s n : Int), vs = [.ref a, .int n] ∧ Ld K H a d t b s ∧ LandOk d t b s ∧ Q (.int (yof d t b s n)) H
theorem d_year_of (A : All K mg) : Df P w K mg base CX0 "year_of" 2 ["land", "day"] (sp_year_of K) := by
  obtain ⟨f, fd, F, hm, hb⟩ := A.t_year_of
  refine ⟨f, fd, F.ok sc_year_of (fun vs H Q E h => ?_) (fun cdv A' outer s H vs Q E hr h => ?_), hm, F.kp, hb⟩
  · obtain ⟨a, d, t, b, s, n, rfl, _⟩ := h; rfl
  · obtain ⟨a, d, t, b, s, n, rfl, hl, hk, q⟩ := h
    have hp := step_pos hk
    obtain ⟨⟨k1, k2⟩, ⟨k3, k4⟩, ⟨k5, k6⟩, k7, k8⟩ := id hk
    refine ⟨_, (pss_one (ps_ret (pe_op op_fdiv (pe_op op_sub (pe_op op_sub (pe_op op_mul (pe_op op_add (pv 1) pe_int) (pe_ix ix_tup (pv 0) pe_int (fun _ _ => rfl))) (pe_ix ix_tup (pv 0) pe_int (fun _ _ => rfl))) pe_int) (pe_callD (d_step_of A) hr (by decide) (by rfl) pass0 (pa_cons (pv 0) pa_nil))))), ?_⟩
    walk_at "g"
    refine ⟨a, d, t, b, s, rfl, hl, hk, ?_⟩
    unfold yof at q
    generalize d * b + t = st at hp q ⊢
    walk_at "g"
    exact q

def sp_dated (K : PySem.W.Frag) : Sp := fun vs H Q _ => ∃ (a : Addr) (d t b s n : Int), vs = [.ref a, .int n] ∧ Ld K H a d t b s ∧ LandOk d t b s ∧ ∀ p, H p = none → Q (.ref p) (upd H p (.tup [.int (yof d t b s n), .int (n - fday d t b s (yof d t b s n))]))
theorem d_dated (A : All K mg) : Df P w K mg base CX0 "dated" 3 ["land", "day"] (sp_dated K) := by
  obtain ⟨f, fd, F, hm, hb⟩ := A.t_dated
  refine ⟨f, fd, F.ok sc_dated (fun vs H Q E h => ?_) (fun cdv A' outer s H vs Q E hr h => ?_), hm, F.kp, hb⟩
  · obtain ⟨a, d, t, b, s, n, rfl, _⟩ := h; rfl
  · obtain ⟨a, d, t, b, s, n, rfl, hl, hk, q⟩ := h
    refine ⟨_, (pss_cons (ps_set (i := 2) sc_dated.nd rfl (Or.inl rfl) (pe_callD (d_year_of A) hr (by decide) (by rfl) pass0 (pa_cons (pv 0) (pa_cons (pv 1) pa_nil))))
 (pss_one (ps_ret (pe_tup (pa_cons (pv 2) (pa_cons (pe_op op_sub (pv 1) (pe_callD (d_first_day A) hr (by decide) (by rfl) pass0 (pa_cons (pv 0) (pa_cons (pv 2) pa_nil)))) pa_nil)))))), ?_⟩
    refine ⟨_, rfl, _, rfl, a, d, t, b, s, n, rfl, hl, hk, ?_⟩
    refine ⟨_, rfl, _, rfl, _, rfl, _, rfl, a, d, t, b, s, _, rfl, hl, hk, ?_⟩
    walk_at "g"
    exact ⟨by show 2 ≤ sizeLine; decide, q⟩

def sp_begin (K : PySem.W.Frag) : Sp := fun vs H Q _ => ∃ (a : Addr) (d t b s y : Int), vs = [.ref a, .int y] ∧ Ld K H a d t b s ∧ LandOk d t b s ∧ Far y ∧ Q (.int (fday d t b s y)) H
theorem d_begin (A : All K mg) : Df P w K mg base CX0 "begin" 4 ["land", "year"] (sp_begin K) := by
  obtain ⟨f, fd, F, hm, hb⟩ := A.t_begin
  refine ⟨f, fd, F.ok sc_begin (fun vs H Q E h => ?_) (fun cdv A' outer s H vs Q E hr h => ?_), hm, F.kp, hb⟩
  · obtain ⟨a, d, t, b, s, y, rfl, _⟩ := h; rfl
  · obtain ⟨a, d, t, b, s, y, rfl, hl, hk, hy, q⟩ := h
    refine ⟨_, (pss_cons (ps_expr (pe_callD (d_need_land A) hr (by decide) (by rfl) pass0 (pa_cons (pv 0) pa_nil)))
 (pss_cons (ps_expr (pe_callD (d_need_year A) hr (by decide) (by rfl) pass0 (pa_cons (pv 1) pa_nil)))
 (pss_one (ps_ret (pe_callD (d_first_day A) hr (by decide) (by rfl) pass0 (pa_cons (pv 0) (pa_cons (pv 1) pa_nil))))))), ?_⟩
    refine ⟨_, rfl, a, d, t, b, s, rfl, hl, hk, ?_⟩
    refine ⟨_, rfl, y, rfl, hy, ?_⟩
    exact ⟨_, rfl, _, rfl, a, d, t, b, s, y, rfl, hl, hk, q⟩

def sp_date (K : PySem.W.Frag) : Sp := fun vs H Q _ => ∃ (a : Addr) (d t b s n : Int) (B : Hp), vs = [.ref a, .int n] ∧ Ld K H a d t b s ∧ LandOk d t b s ∧ Far n ∧ NoT H ∧ Same B H ∧ ∀ p H', H p = none → Same B H' → NoT H' → H' p = some (.tup [.int (yof d t b s n), .int (n - fday d t b s (yof d t b s n))]) → Q (.ref p) H'
theorem d_date (A : All K mg) : Df P w K mg base CX0 "date" 4 ["land", "day"] (sp_date K) := by
  obtain ⟨f, fd, F, hm, hb⟩ := A.t_date
  refine ⟨f, fd, F.ok sc_date (fun vs H Q E h => ?_) (fun cdv A' outer s H vs Q E hr h => ?_), hm, F.kp, hb⟩
  · obtain ⟨a, d, t, b, s, y, B, rfl, _⟩ := h; rfl
  · obtain ⟨a, d, t, b, s, y, B, rfl, hl, hk, hy, nt, sB, q⟩ := h
    refine ⟨_, (pss_cons (ps_expr (pe_callD (d_need_land A) hr (by decide) (by rfl) pass0 (pa_cons (pv 0) pa_nil)))
 (pss_cons (ps_expr (pe_callD (d_need_day A) hr (by decide) (by rfl) pass0 (pa_cons (pv 1) pa_nil)))
 (pss_one (ps_ret (pe_callD (d_dated A) hr (by decide) (by rfl) pass0 (pa_cons (pv 0) (pa_cons (pv 1) pa_nil))))))), ?_⟩
    refine ⟨_, rfl, a, d, t, b, s, rfl, hl, hk, ?_⟩
    refine ⟨_, rfl, y, rfl, hy, ?_⟩
    exact ⟨_, rfl, _, rfl, a, d, t, b, s, y, rfl, hl, hk, fun p hp => q p _ hp (sB.trans (same_new hp)) nt.tup upd_same⟩

def sp_is_long (K : PySem.W.Frag) : Sp := fun vs H Q _ => ∃ (a : Addr) (d t b s y : Int), vs = [.ref a, .int y] ∧ Ld K H a d t b s ∧ LandOk d t b s ∧ Far y ∧ Q (.bl (decide (d < fday d t b s (y + 1) - fday d t b s y))) H
theorem d_is_long (A : All K mg) : Df P w K mg base CX0 "is_long" 4 ["land", "year"] (sp_is_long K) := by
  obtain ⟨f, fd, F, hm, hb⟩ := A.t_is_long
  refine ⟨f, fd, F.ok sc_is_long (fun vs H Q E h => ?_) (fun cdv A' outer s H vs Q E hr h => ?_), hm, F.kp, hb⟩
  · obtain ⟨a, d, t, b, s, y, rfl, _⟩ := h; rfl
  · obtain ⟨a, d, t, b, s, y, rfl, hl, hk, hy, q⟩ := h
    refine ⟨_, (pss_cons (ps_expr (pe_callD (d_need_land A) hr (by decide) (by rfl) pass0 (pa_cons (pv 0) pa_nil)))
 (pss_cons (ps_expr (pe_callD (d_need_year A) hr (by decide) (by rfl) pass0 (pa_cons (pv 1) pa_nil)))
 (pss_one (ps_ret (pe_cmpR op_gt (pe_op op_sub (pe_callD (d_first_day A) hr (by decide) (by rfl) pass0 (pa_cons (pv 0) (pa_cons (pe_op op_add (pv 1) pe_int) pa_nil))) (pe_callD (d_first_day A) hr (by decide) (by rfl) pass0 (pa_cons (pv 0) (pa_cons (pv 1) pa_nil)))) (pe_ix ix_tup (pv 0) pe_int (fun _ _ => rfl)) (nomark _)))))), ?_⟩
    refine ⟨_, rfl, a, d, t, b, s, rfl, hl, hk, ?_⟩
    refine ⟨_, rfl, y, rfl, hy, ?_⟩
    refine ⟨_, rfl, _, rfl, _, _, rfl, rfl, a, d, t, b, s, _, rfl, hl, hk, ?_⟩
    refine ⟨_, rfl, _, rfl, a, d, t, b, s, _, rfl, hl, hk, ?_⟩
    walk_at "g"
    exact q

def sp_law_deck : Sp := fun vs H Q _ => ∃ (c t : Int) (n : Nat), vs = [.int c, .int t] ∧ NoT H ∧ 0 ≤ t ∧ t ≤ (n : Int) ∧ ∀ p H', H p = none → Same H H' → Dk n H' p → Q (.ref p) H'
theorem d_law_deck (A : All K mg) : Df P w K mg base CX0 "_law_deck" 1 ["cell", "turn"] sp_law_deck := by
  obtain ⟨f, fd, F, hm, hb⟩ := A.t_law_deck
  refine ⟨f, fd, F.ok sc_law_deck (fun vs H Q E h => ?_) (fun cdv A' outer s H vs Q E hr h => ?_), hm, F.kp, hb⟩
  · obtain ⟨c, t, n, rfl, _⟩ := h; rfl
  · obtain ⟨c, t, n, rfl, nt, t0, t1, q⟩ := h
    refine ⟨_, (pss_cons (ps_if (pt_cmpR op_ge (pv 0) (pe_op op_pow pe_int pe_int) (nomark _))
 (pss_one (ps_ret (pe_lst (pa_cons (pe_op op_sub (pv 0) (pe_op op_pow pe_int pe_int)) (pa_cons (pe_op op_mod (pv 0) pe_int) (pa_cons (pv 1) pa_nil))))))
 pss_nil)
 (pss_one (ps_ret (pe_lst (pa_cons pe_int (pa_cons (pe_op op_mod (pv 0) pe_int) (pa_cons (pv 1) pa_nil))))))), ?_⟩
    refine ⟨_, rfl, _, _, rfl, rfl, ⟨by decide, by decide, by decide⟩, ?_⟩
    walk_at "g"
    refine ite2 (fun e => ?_) (fun e => ?_)
    · refine ⟨_, rfl, _, _, rfl, rfl, ⟨by decide, by decide, by decide⟩, ?_⟩
      walk_at "g"
      refine ⟨by show 3 ≤ sizeLine; decide, fun p hp => q p _ hp (same_new hp) ⟨nt.lst, _, _, _, upd_same, ?_, ?_, t0, t1⟩⟩ <;> omega
    · walk_at "g"
      refine ⟨by show 3 ≤ sizeLine; decide, fun p hp => q p _ hp (same_new hp) ⟨nt.lst, _, _, _, upd_same, ?_, ?_, t0, t1⟩⟩ <;> omega

def sp_law_pick : Sp := fun vs H Q _ => ∃ (d : Addr) (n : Nat) (z : Int), vs = [.ref d, .int z] ∧ Dk n H d ∧ n ≤ 100000000 ∧ 0 < z ∧ z < 1000000000000000000000000000000 ∧ ∀ r H', 0 ≤ r → r < z → Dk (n + 1) H' d → Gr d H H' → Q (.int r) H'
theorem d_law_pick (A : All K mg) : Df P w K mg base CX0 "_law_pick" 1 ["deck", "size"] sp_law_pick := by
  obtain ⟨f, fd, F, hm, hb⟩ := A.t_law_pick
  refine ⟨f, fd, F.ok sc_law_pick (fun vs H Q E h => ?_) (fun cdv A' outer s H vs Q E hr h => ?_), hm, F.kp, hb⟩
  · obtain ⟨d, n, z, rfl, _⟩ := h; rfl
  · obtain ⟨d, n, z, rfl, ⟨nt, x, y, c, hd, y0, y1, c0, c1⟩, hn, z0, z1, q⟩ := h
    have hS : SqL K H d [.int x, .int y, .int c] := SqL.of hd
    refine ⟨_, (pss_cons (ps_if (pt_cmpR op_gt (pe_ix ix_list (pv 0) pe_int (fun _ _ => rfl)) pe_int (nomark _))
 (pss_cons (ps_set (i := 2) sc_law_pick.nd rfl (Or.inl rfl) (pe_op op_mod (pe_ix ix_list (pv 0) pe_int (fun _ _ => rfl)) (pv 1)))
 (pss_cons (ps_asg (pe_op op_fdivW (pe_ix ix_list (pv 0) pe_int (fun _ _ => rfl)) (pv 1)) (pg_sub (pv 0) pe_int set_list))
 (pss_one (ps_ret (pv 2)))))
 pss_nil)
 (pss_cons (ps_asg (pe_op op_add (pe_ix ix_list (pv 0) pe_int (fun _ _ => rfl)) pe_int) (pg_sub (pv 0) pe_int set_list))
 (pss_cons (ps_set (i := 3) sc_law_pick.nd rfl (Or.inl rfl) (pe_op op_mod (pe_op op_pow (pe_op op_add (pe_ix ix_list (pv 0) pe_int (fun _ _ => rfl)) (pe_op op_mul pe_int (pe_ix ix_list (pv 0) pe_int (fun _ _ => rfl)))) pe_int) pe_int))
 (pss_cons (ps_set (i := 2) sc_law_pick.nd rfl (Or.inl rfl) (pe_op op_fdiv (pe_op op_mod (pe_op op_pow (pe_op op_add (pv 3) (pe_op op_mul pe_int (pe_ix ix_list (pv 0) pe_int (fun _ _ => rfl)))) pe_int) pe_int) pe_int))
 (pss_one (ps_ret (pe_op op_mod (pv 2) (pv 1)))))))), ?_⟩
    walk_at "g"
    refine ite2 (fun e => ?_) (fun e => ?_)
    · walk_at "g"
      refine ⟨wide_div (b := 100) z0 (by omega) (by decide) (by decide), ?_⟩
      refine ⟨_, rfl, d, _, _, 0, rfl, rfl, hd, rfl, ?_⟩
      refine ⟨_, rfl, ?_⟩
      exact q _ _ (Int.emod_nonneg _ (by omega)) (Int.emod_lt_of_pos _ z0) ⟨nt.lst, _, _, _, upd_same, y0, y1, c0, by omega⟩ ((Gr.refl hd).put)
    · refine ⟨_, rfl, _, _, _, _, rfl, rfl, hS, (by rfl), _, _, rfl, rfl, ?_⟩
      refine ⟨_, rfl, d, _, _, 2, rfl, rfl, hd, rfl, ?_⟩
      have hS2 : SqL K (upd H d (.lst [.int x, .int y, .int (c + 1)])) d [.int x, .int y, .int (c + 1)] := SqL.of upd_same
      refine ⟨_, rfl, _, _, _, _, rfl, rfl, hS2, (by rfl), _, rfl, _, _, _, _, rfl, rfl, hS2, (by rfl), _, _, rfl, rfl, Or.inl ⟨by omega, by omega⟩, _, _, rfl, rfl, _, _, rfl, rfl, ⟨by decide, by decide, by omega⟩, ?_⟩
      walk_at "g"
      exact q _ _ (Int.emod_nonneg _ (by omega)) (Int.emod_lt_of_pos _ z0) ⟨nt.lst, _, _, _, upd_same, y0, y1, by omega, by omega⟩ ((Gr.refl hd).put)

def sp_law_one (K : PySem.W.Frag) : Sp := fun vs H Q _ => ∃ (d l : Addr) (n : Nat) (xs : List V), vs = [.ref d, .ref l] ∧ Dk n H d ∧ n ≤ 10000000 ∧ SqL K H l xs ∧ l ≠ d ∧ 0 < xs.length ∧ xs.length < 1000000 ∧ ∀ (i : Nat) v H', xs[i]? = some v → Dk (n + 1) H' d → Gr d H H' → Q v H'
theorem d_law_one (A : All K mg) : Df P w K mg base CX0 "_law_one" 2 ["deck", "some"] (sp_law_one K) := by
  obtain ⟨f, fd, F, hm, hb⟩ := A.t_law_one
  refine ⟨f, fd, F.ok sc_law_one (fun vs H Q E h => ?_) (fun cdv A' outer s H vs Q E hr h => ?_), hm, F.kp, hb⟩
  · obtain ⟨d, l, n, xs, rfl, _⟩ := h; rfl
  · obtain ⟨d, l, n, xs, rfl, hD, hn, hS, hne, z0, z1, q⟩ := h
    refine ⟨_, (pss_one (ps_ret (pe_ix ix_list (pv 1) (pe_callD (d_law_pick A) hr (by decide) (by rfl) pass0 (pa_cons (pv 0) (pa_cons (pe_callB call_len_seq (by rfl) A.b_len (by decide +kernel) (pa_cons (pv 1) pa_nil)) pa_nil))) (fun _ _ => rfl)))), ?_⟩
    refine ⟨_, rfl, _, rfl, _, rfl, l, xs, rfl, .inl hS, d, n, _, rfl, hD, by omega, by omega, by omega, fun r H' r0 r1 hD' hg => ?_⟩
    obtain ⟨j, rfl⟩ : ∃ j : Nat, r = (j : Int) := ⟨r.toNat, by omega⟩
    have hj : j < xs.length := by omega
    exact ⟨l, xs, _, _, rfl, rfl, hg.l hne hS, atI_nat (List.getElem?_eq_getElem hj), q j _ H' (List.getElem?_eq_getElem hj) hD' hg⟩

def sp_law_sort (K : PySem.W.Frag) : Sp := fun vs H Q _ => ∃ (x : V) (n : String), vs = [x] ∧ Kn K H x n ∧ Q (.int (sortOf n)) H
theorem d_law_sort (A : All K mg) : Df P w K mg base CX0 "_law_sort" 1 ["thing"] (sp_law_sort K) := by
  obtain ⟨f, fd, F, hm, hb⟩ := A.t_law_sort
  refine ⟨f, fd, F.ok sc_law_sort (fun vs H Q E h => ?_) (fun cdv A' outer s H vs Q E hr h => ?_), hm, F.kp, hb⟩
  · obtain ⟨x, n, rfl, _⟩ := h; rfl
  · obtain ⟨x, n, rfl, hk, q⟩ := h
    refine ⟨_, (pss_cons (ps_if (pt_val (pe_callB call_isi (by rfl) A.b_isinstance (by decide +kernel) (pa_cons (pv 0) (pa_cons (pe_bltn (v := .ty "bool") (by rfl) A.b_bool (by decide +kernel) rfl) pa_nil))))
 (pss_one (ps_ret pe_int))
 pss_nil)
 (pss_cons (ps_if (pt_val (pe_callB call_isi (by rfl) A.b_isinstance (by decide +kernel) (pa_cons (pv 0) (pa_cons (pe_bltn (v := .ty "int") (by rfl) A.b_int (by decide +kernel) rfl) pa_nil))))
 (pss_one (ps_ret pe_int))
 pss_nil)
 (pss_cons (ps_if (pt_val (pe_callB call_isi (by rfl) A.b_isinstance (by decide +kernel) (pa_cons (pv 0) (pa_cons (pe_bltn (v := .ty "str") (by rfl) A.b_str (by decide +kernel) rfl) pa_nil))))
 (pss_one (ps_ret pe_int))
 pss_nil)
 (pss_cons (ps_if (pt_val (pe_callB call_isi (by rfl) A.b_isinstance (by decide +kernel) (pa_cons (pv 0) (pa_cons (pe_bltn (v := .ty "list") (by rfl) A.b_list (by decide +kernel) rfl) pa_nil))))
 (pss_one (ps_ret pe_int))
 pss_nil)
 (pss_one (ps_ret (pe_ifExp (pt_val (pe_callB call_isi (by rfl) A.b_isinstance (by decide +kernel) (pa_cons (pv 0) (pa_cons (pe_bltn (v := .ty "tuple") (by rfl) A.b_tuple (by decide +kernel) rfl) pa_nil)))) pe_int pe_int))))))), ?_⟩
    refine ⟨_, rfl, _, _, _, _, _, rfl, .ty _, hk.ty, hk.kit (by decide), _, rfl, ite2 (fun e => ?_) (fun e => ?_)⟩
    · cases hk <;> first | exact q | exact absurd e (by decide)
    refine ⟨_, rfl, _, _, _, _, _, rfl, .ty _, hk.ty, hk.kit (by decide), _, rfl, ite2 (fun e1 => ?_) (fun e1 => ?_)⟩
    · cases hk <;> first | exact q | exact absurd e1 (by decide) | exact absurd (by decide) e
    refine ⟨_, rfl, _, _, _, _, _, rfl, .ty _, hk.ty, hk.kit (by decide), _, rfl, ite2 (fun e2 => ?_) (fun e2 => ?_)⟩
    · cases hk <;> first | exact q | exact absurd e2 (by decide)
    refine ⟨_, rfl, _, _, _, _, _, rfl, .ty _, hk.ty, hk.kit (by decide), _, rfl, ite2 (fun e3 => ?_) (fun e3 => ?_)⟩
    · cases hk <;> first | exact q | exact absurd e3 (by decide)
    refine ⟨_, rfl, _, _, _, _, _, rfl, .ty _, hk.ty, hk.kit (by decide), _, rfl, ite2 (fun e4 => ?_) (fun e4 => ?_)⟩
    · cases hk <;> first | exact q | exact absurd e4 (by decide)
    · cases hk <;> first | exact q | exact absurd (by decide) e | exact absurd (by decide) e1 | exact absurd (by decide) e2 | exact absurd (by decide) e3 | exact absurd (by decide) e4

def sp_law_same (K : PySem.W.Frag) (k : Nat) : Sp := fun vs H Q _ => ∃ (x y : V) (B : Hp), vs = [x, y] ∧ NoT H ∧ Same B H ∧ Sm K H k x y ∧ ∀ H', Same B H' → NoT H' → Q (.bl true) H'
theorem d_law_same_n (A : All K mg) : ∀ k : Nat, Df P w K mg base CX0 "_law_same" (k + 2) ["told", "due"] (sp_law_same K k)
  | 0 => by
    obtain ⟨f, fd, F, hm, hb⟩ := A.t_law_same
    refine ⟨f, fd, F.ok sc_law_same (fun vs H Q E h => ?_) (fun cdv A' outer s H vs Q E hr h => ?_), hm, F.kp, hb⟩
    · obtain ⟨x, y, B, rfl, _⟩ := h; rfl
    · obtain ⟨x, y, B, rfl, nt, sB, hs, q'⟩ := h
      have q := q' H sB nt
      obtain ⟨n, k1, k2⟩ := hs.kinds
      refine ⟨_, (pss_cons (ps_if (pt_cmpR op_ne (pe_callD (d_law_sort A) hr (by omega) (by rfl) pass0 (pa_cons (pv 0) pa_nil)) (pe_callD (d_law_sort A) hr (by omega) (by rfl) pass0 (pa_cons (pv 1) pa_nil)) (nomark _))
 (pss_one (ps_ret pe_bl))
 pss_nil)
 (pss_cons (ps_if (PW.pt (pw_and (pt_cmpR op_gt (pe_callD (d_law_sort A) hr (by omega) (by rfl) pass0 (pa_cons (pv 0) pa_nil)) pe_int (nomark _)) (pw_and1 (pt_cmpR op_lt (pe_callD (d_law_sort A) hr (by omega) (by rfl) pass0 (pa_cons (pv 0) pa_nil)) pe_int (nomark _)))))
 (pss_cons (ps_if (pt_cmpR op_ne (pe_callB call_len_seq (by rfl) A.b_len (by decide +kernel) (pa_cons (pv 0) pa_nil)) (pe_callB call_len_seq (by rfl) A.b_len (by decide +kernel) (pa_cons (pv 1) pa_nil)) (nomark _))
 (pss_one (ps_ret pe_bl))
 pss_nil)
 (pss_one ps_never))
 pss_nil)
 (pss_one (ps_ret (pe_cmpR (op_eqD hr.units) (pv 0) (pv 1) (nomark _)))))), ?_⟩
      refine ⟨_, rfl, x, n, rfl, k1, _, rfl, y, n, rfl, k2, rfl, _, rfl, ?_⟩
      refine iteNS rfl ?_
      cases hs with
      | non =>
        cases k1
        refine ⟨_, rfl, _, _, rfl, k2, _, _, rfl, rfl, _, rfl, ?_⟩
        refine iteT ?_
        refine ⟨_, rfl, _, _, rfl, k2, _, _, rfl, rfl, _, rfl, ?_⟩
        refine iteF ?_
        refine ⟨_, rfl, _, rfl, .none, .none, .non, .non, (by decide), (by decide), ?_⟩
        exact q
      | bl _ b =>
        cases k1
        refine ⟨_, rfl, _, _, rfl, k2, _, _, rfl, rfl, _, rfl, ?_⟩
        refine iteF ?_
        refine ⟨_, rfl, _, rfl, .bool b, .bool b, .bl b, .bl b, (sh_bl _), (sh_bl _), ?_⟩
        rw [ev_bl]
        exact q
      | int _ i =>
        cases k1
        refine ⟨_, rfl, _, _, rfl, k2, _, _, rfl, rfl, _, rfl, ?_⟩
        refine iteF ?_
        refine ⟨_, rfl, _, rfl, .int i, .int i, .int i, .int i, (sh_int _), (sh_int _), ?_⟩
        rw [ev_int]
        exact q
      | str _ x hx =>
        cases k1
        refine ⟨_, rfl, _, _, rfl, k2, _, _, rfl, rfl, _, rfl, ?_⟩
        refine iteF ?_
        refine ⟨_, rfl, _, rfl, .str x, .str x, .str x, .str x, (sh_str hx), (sh_str hx), ?_⟩
        rw [ev_str]
        exact q
  | k + 1 => by
    have ih : Df P w K mg base CX0 "_law_same" (k + 2) ["told", "due"] (sp_law_same K k) := d_law_same_n A k
    obtain ⟨f, fd, F, hm, hb⟩ := A.t_law_same
    refine ⟨f, fd, Fun.okF F sc_law_same (fun vs H Q E h => ?_) (fun cdv A' outer s H vs Q E hr h => ?_), hm, F.kp, hb⟩
    · obtain ⟨x, y, B, rfl, _⟩ := h; rfl
    · obtain ⟨x, y, B, rfl, nt, sB, hs, q'⟩ := h
      have q := q' H sB nt
      obtain ⟨n, k1, k2⟩ := hs.kinds
      refine ⟨_, (pss_cons (ps_if (pt_cmpR op_ne (pe_callD (d_law_sort A) hr (by omega) (by rfl) pass0 (pa_cons (pv 0) pa_nil)) (pe_callD (d_law_sort A) hr (by omega) (by rfl) pass0 (pa_cons (pv 1) pa_nil)) (nomark _))
 (pss_one (ps_ret pe_bl))
 pss_nil)
 (pss_cons (ps_if (PW.pt (pw_and (pt_cmpR op_gt (pe_callD (d_law_sort A) hr (by omega) (by rfl) pass0 (pa_cons (pv 0) pa_nil)) pe_int (nomark _)) (pw_and1 (pt_cmpR op_lt (pe_callD (d_law_sort A) hr (by omega) (by rfl) pass0 (pa_cons (pv 0) pa_nil)) pe_int (nomark _)))))
 (pss_cons (ps_if (pt_cmpR op_ne (pe_callB call_len_seq (by rfl) A.b_len (by decide +kernel) (pa_cons (pv 0) pa_nil)) (pe_callB call_len_seq (by rfl) A.b_len (by decide +kernel) (pa_cons (pv 1) pa_nil)) (nomark _))
 (pss_one (ps_ret pe_bl))
 pss_nil)
 (pss_one (ps_ret (pe_cmpR (op_eqD hr.units) (pe_lc (own := [("k", 2), ("part", 3)]) (g := gTup K 2 (gCons (gName 2) (gCons (gName 3) gNil))) (by rfl) sc_law_same.nd (pi_enumS (by rfl) A.b_enumerate (pa_cons (pv 0) pa_nil)) (blkOk_by (own := [("k", 2), ("part", 3)]) (N := ["told", "due", "k", "part"]) (sc := defScope s_law_same) (by decide +kernel)) (fun _ _ _ _ _ => (pg_tup (by rfl) (pgs_cons (pg_name (i := 2) sc_law_same.nd rfl (Or.inl rfl)) (pgs_cons (pg_name (i := 3) sc_law_same.nd rfl (Or.inl rfl)) pgs_nil)))) (fun _ _ _ _ _ => (pts_one (pt_not (pt_val (pe_callD (ih) hr (by omega) (by rfl) pass0 (pa_cons (pv 3) (pa_cons (pe_ix (r := rIx K) ix_seq (pv 1) (pv 2) (fun _ _ => rfl)) pa_nil))))))) (fun _ _ _ _ _ => (pv 2))) (pe_lst pa_nil) (nomark _)))))
 pss_nil)
 (pss_one (ps_ret (pe_cmpR (op_eqD hr.units) (pv 0) (pv 1) (nomark _)))))), ?_⟩
      refine ⟨_, rfl, x, n, rfl, k1, _, rfl, y, n, rfl, k2, rfl, _, rfl, ?_⟩
      refine iteNS rfl ?_
      cases hs with
      | non =>
        cases k1
        refine ⟨_, rfl, _, _, rfl, k2, _, _, rfl, rfl, _, rfl, ?_⟩
        refine iteT ?_
        refine ⟨_, rfl, _, _, rfl, k2, _, _, rfl, rfl, _, rfl, ?_⟩
        refine iteF ?_
        refine ⟨_, rfl, _, rfl, .none, .none, .non, .non, (by decide), (by decide), ?_⟩
        exact fg_same nt (Same.refl H) q
      | bl _ b =>
        cases k1
        refine ⟨_, rfl, _, _, rfl, k2, _, _, rfl, rfl, _, rfl, ?_⟩
        refine iteF ?_
        refine ⟨_, rfl, _, rfl, .bool b, .bool b, .bl b, .bl b, (sh_bl _), (sh_bl _), ?_⟩
        rw [ev_bl]
        exact fg_same nt (Same.refl H) q
      | int _ i =>
        cases k1
        refine ⟨_, rfl, _, _, rfl, k2, _, _, rfl, rfl, _, rfl, ?_⟩
        refine iteF ?_
        refine ⟨_, rfl, _, rfl, .int i, .int i, .int i, .int i, (sh_int _), (sh_int _), ?_⟩
        rw [ev_int]
        exact fg_same nt (Same.refl H) q
      | str _ x hx =>
        cases k1
        refine ⟨_, rfl, _, _, rfl, k2, _, _, rfl, rfl, _, rfl, ?_⟩
        refine iteF ?_
        refine ⟨_, rfl, _, rfl, .str x, .str x, .str x, .str x, (sh_str hx), (sh_str hx), ?_⟩
        rw [ev_str]
        exact fg_same nt (Same.refl H) q
      | lst h1 h2 h3 h4 =>
        rename_i a b xs ys
        have d1 : (xs.length : Int) = ys.length := by rw [h3]
        refine ⟨_, rfl, _, _, rfl, Kn.lst h1, _, _, rfl, rfl, _, rfl, ?_⟩
        refine iteT ?_
        refine ⟨_, rfl, _, _, rfl, Kn.lst h1, _, _, rfl, rfl, _, rfl, ?_⟩
        refine iteT ?_
        refine ⟨_, rfl, a, xs, rfl, .inl h1, _, rfl, b, ys, rfl, .inl h2, rfl, _, rfl, ?_⟩
        refine iteNS (by rw [d1]) ?_
        refine ⟨_, rfl, a, xs, rfl, .inl ⟨h1, fun D hD => lc_enumL (fun _ H' => Same H H' ∧ NoT H' ∧ H' D = some (.lst [])) ⟨same_new hD, nt.lst, upd_same⟩ (fun i H' _ p => Same.l p.1 h1) (fun i x T H' hx hT p => ?_) (fun H' p => ?_)⟩⟩
        · obtain ⟨p1, p2, p3⟩ := p
          have hi : i < ys.length := by
            rw [← h3]
            exact (List.getElem?_eq_some_iff.mp hx).1
          have s2 : Same H (upd H' T (.tup [.int (i : Nat), x])) := p1.trans (same_new hT)
          refine ⟨T, _, rfl, SqT.of upd_same, rfl, _, _, rfl, _, _, rfl, rfl, rfl, ?_⟩
          refine ⟨_, rfl, _, rfl, _, rfl, .inl ⟨b, ys, _, _, rfl, rfl, Same.l s2 h2, atI_nat (List.getElem?_eq_getElem hi), ?_⟩⟩
          refine ⟨_, _, _, rfl, p2.tup, Same.refl _, (h4 i x _ hx (List.getElem?_eq_getElem hi)).mono s2, fun H3 s3 n3 => ⟨_, rfl, ?_⟩⟩
          refine iteF ?_
          exact ⟨s2.trans s3, n3, s3 _ _ (same_new hT _ _ p3)⟩
        · obtain ⟨p1, p2, p3⟩ := p
          refine ⟨Nat.zero_le _, fun e he => ?_⟩
          refine ⟨.list [], .list [], .lst (SqL.of (same_new he _ _ p3)) .nil, .lst (SqL.of upd_same) .nil, (by decide), (by decide), ?_⟩
          exact fg_same nt (p1.trans (same_new he)) q
      | tup h1 h2 h3 h4 =>
        rename_i a b xs ys
        have d1 : (xs.length : Int) = ys.length := by rw [h3]
        refine ⟨_, rfl, _, _, rfl, Kn.tup h1, _, _, rfl, rfl, _, rfl, ?_⟩
        refine iteT ?_
        refine ⟨_, rfl, _, _, rfl, Kn.tup h1, _, _, rfl, rfl, _, rfl, ?_⟩
        refine iteT ?_
        refine ⟨_, rfl, a, xs, rfl, .inr h1, _, rfl, b, ys, rfl, .inr h2, rfl, _, rfl, ?_⟩
        refine iteNS (by rw [d1]) ?_
        refine ⟨_, rfl, a, xs, rfl, .inr ⟨h1, fun D hD => lc_enumT (fun _ H' => Same H H' ∧ NoT H' ∧ H' D = some (.lst [])) ⟨same_new hD, nt.lst, upd_same⟩ (fun i H' _ p => Same.t p.1 h1) (fun i x T H' hx hT p => ?_) (fun H' p => ?_)⟩⟩
        · obtain ⟨p1, p2, p3⟩ := p
          have hi : i < ys.length := by
            rw [← h3]
            exact (List.getElem?_eq_some_iff.mp hx).1
          have s2 : Same H (upd H' T (.tup [.int (i : Nat), x])) := p1.trans (same_new hT)
          refine ⟨T, _, rfl, SqT.of upd_same, rfl, _, _, rfl, _, _, rfl, rfl, rfl, ?_⟩
          refine ⟨_, rfl, _, rfl, _, rfl, .inr (.inl ⟨b, ys, _, _, rfl, rfl, Same.t s2 h2, atI_nat (List.getElem?_eq_getElem hi), ?_⟩)⟩
          refine ⟨_, _, _, rfl, p2.tup, Same.refl _, (h4 i x _ hx (List.getElem?_eq_getElem hi)).mono s2, fun H3 s3 n3 => ⟨_, rfl, ?_⟩⟩
          refine iteF ?_
          exact ⟨s2.trans s3, n3, s3 _ _ (same_new hT _ _ p3)⟩
        · obtain ⟨p1, p2, p3⟩ := p
          refine ⟨Nat.zero_le _, fun e he => ?_⟩
          refine ⟨.list [], .list [], .lst (SqL.of (same_new he _ _ p3)) .nil, .lst (SqL.of upd_same) .nil, (by decide), (by decide), ?_⟩
          exact fg_same nt (p1.trans (same_new he)) q
theorem d_law_same (A : All K mg) : Df P w K mg base CX0 "_law_same" 5 ["told", "due"] (sp_law_same K 3) := d_law_same_n A 3

def sp_law_land : Sp := fun vs H Q _ => ∃ (d : Addr) (n : Nat) (L B S : Int), vs = [.ref d, .int L, .int B, .int S] ∧ Dk n H d ∧ n ≤ 10000000 ∧ (1 ≤ L ∧ L ≤ 400) ∧ (1 ≤ B ∧ B ≤ 60) ∧ (0 ≤ S ∧ S ≤ 1000000) ∧
  ∀ p dd t b s H', (1 ≤ dd ∧ dd ≤ L) → (0 ≤ t ∧ t < b) → (1 ≤ b ∧ b ≤ B) → (-S ≤ s ∧ s ≤ S) → H p = none → H' p = some (.tup [.int dd, .int t, .int b, .int s]) → Dk (n + 4) H' d → Gr d H H' → Q (.ref p) H'
theorem d_law_land (A : All K mg) : Df P w K mg base CX0 "_law_land" 2 ["deck", "long_so", "bottoms", "shifts"] sp_law_land := by
  obtain ⟨f, fd, F, hm, hb⟩ := A.t_law_land
  refine ⟨f, fd, F.ok sc_law_land (fun vs H Q E h => ?_) (fun cdv A' outer s H vs Q E hr h => ?_), hm, F.kp, hb⟩
  · obtain ⟨d, n, L, B, S, rfl, _⟩ := h; rfl
  · obtain ⟨d, n, L, B, S, rfl, hD, hn, hL, hB, hS, q⟩ := h
    refine ⟨_, (pss_cons (ps_set (i := 4) sc_law_land.nd rfl (Or.inl rfl) (pe_op op_add pe_int (pe_callD (d_law_pick A) hr (by decide) (by rfl) pass0 (pa_cons (pv 0) (pa_cons (pv 2) pa_nil)))))
 (pss_cons (ps_set (i := 5) sc_law_land.nd rfl (Or.inl rfl) (pe_op op_sub (pe_callD (d_law_pick A) hr (by decide) (by rfl) pass0 (pa_cons (pv 0) (pa_cons (pe_op op_add (pe_op op_mul pe_int (pv 3)) pe_int) pa_nil))) (pv 3)))
 (pss_one (ps_ret (pe_tup (pa_cons (pe_op op_add pe_int (pe_callD (d_law_pick A) hr (by decide) (by rfl) pass0 (pa_cons (pv 0) (pa_cons (pv 1) pa_nil)))) (pa_cons (pe_callD (d_law_pick A) hr (by decide) (by rfl) pass0 (pa_cons (pv 0) (pa_cons (pv 4) pa_nil))) (pa_cons (pv 4) (pa_cons (pv 5) pa_nil))))))))), ?_⟩
    refine ⟨_, rfl, _, rfl, d, n, _, rfl, hD, by omega, by omega, by omega, fun r1 H1 a0 a1 D1 g1 => ?_⟩
    walk_at "g"
    refine ⟨d, n + 1, _, rfl, D1, by omega, by omega, by omega, fun r2 H2 b0 b1 D2 g2 => ?_⟩
    walk_at "g"
    refine ⟨d, n + 2, _, rfl, D2, by omega, by omega, by omega, fun r3 H3 c0 c1 D3 g3 => ?_⟩
    walk_at "g"
    refine ⟨d, n + 3, _, rfl, D3, by omega, by omega, by omega, fun r4 H4 e0 e1 D4 g4 => ?_⟩
    walk_at "g"
    refine ⟨by show 4 ≤ sizeLine; decide, fun p hp => ?_⟩
    have g := ((g1.trans g2).trans g3).trans g4
    obtain ⟨ys, hy⟩ := D4.lst
    exact q p _ _ _ _ _ ⟨by omega, by omega⟩ ⟨e0, e1⟩ ⟨by omega, by omega⟩ ⟨by omega, by omega⟩ (g.free hy hp) upd_same (D4.new hp rfl) (g.new hp rfl)

def sp_law_any : Sp := fun vs H Q _ => ∃ (d : Addr) (n : Nat), vs = [.ref d] ∧ Dk n H d ∧ n ≤ 1000000 ∧
  ∀ p dd t b s H', LandOk dd t b s → H p = none → H' p = some (.tup [.int dd, .int t, .int b, .int s]) → Dk (n + 5) H' d → Gr d H H' → Q (.ref p) H'
theorem d_law_any (A : All K mg) : Df P w K mg base CX0 "_law_any" 3 ["deck"] sp_law_any := by
  obtain ⟨f, fd, F, hm, hb⟩ := A.t_law_any
  refine ⟨f, fd, F.ok sc_law_any (fun vs H Q E h => ?_) (fun cdv A' outer s H vs Q E hr h => ?_), hm, F.kp, hb⟩
  · obtain ⟨d, n, rfl, _⟩ := h; rfl
  · obtain ⟨d, n, rfl, hD, hn, q⟩ := h
    refine ⟨_, (pss_cons (ps_asg (pe_callD (d_law_one A) hr (by decide) (by rfl) pass0 (pa_cons (pv 0) (pa_cons (pe_lst (pa_cons (pe_tup (pa_cons pe_int (pa_cons pe_int (pa_cons pe_int pa_nil)))) (pa_cons (pe_tup (pa_cons pe_int (pa_cons pe_int (pa_cons pe_int pa_nil)))) (pa_cons (pe_tup (pa_cons pe_int (pa_cons pe_int (pa_cons (pe_op op_pow pe_int pe_int) pa_nil)))) pa_nil)))) pa_nil))) (pg_tup (by rfl) (pgs_cons (pg_name (i := 1) sc_law_any.nd rfl (Or.inl rfl)) (pgs_cons (pg_name (i := 2) sc_law_any.nd rfl (Or.inl rfl)) (pgs_cons (pg_name (i := 3) sc_law_any.nd rfl (Or.inl rfl)) pgs_nil)))))
 (pss_one (ps_ret (pe_callD (d_law_land A) hr (by decide) (by rfl) pass0 (pa_cons (pv 0) (pa_cons (pv 1) (pa_cons (pv 2) (pa_cons (pv 3) pa_nil)))))))), ?_⟩
    refine ⟨_, rfl, ⟨by show 3 ≤ sizeLine; decide, fun p1 h1 => ?_⟩⟩
    have D1 := hD.new (o := .tup [.int 9, .int 5, .int 9]) h1 rfl
    refine ⟨by show 3 ≤ sizeLine; decide, fun p2 h2 => ?_⟩
    have D2 := D1.new (o := .tup [.int 30, .int 60, .int 99]) h2 rfl
    refine ⟨_, _, rfl, rfl, ⟨by decide, by decide, by decide⟩, ?_⟩
    refine ⟨by show 3 ≤ sizeLine; decide, fun p3 h3 => ?_⟩
    have D3 := D2.new (o := .tup [.int 400, .int 60, .int (10 ^ (6 : Int).toNat)]) h3 rfl
    refine ⟨by show 3 ≤ sizeLine; decide, fun l hl => ?_⟩
    have D4 := D3.new (o := .lst [.ref p1, .ref p2, .ref p3]) hl rfl
    obtain ⟨zs, hz⟩ := hD.lst
    have G4 : Gr d H (upd (upd (upd (upd H p1 (.tup [.int 9, .int 5, .int 9])) p2 (.tup [.int 30, .int 60, .int 99])) p3 (.tup [.int 400, .int 60, .int (10 ^ (6 : Int).toNat)])) l (.lst [.ref p1, .ref p2, .ref p3])) :=
      ((((Gr.refl hz).new h1 rfl).new h2 rfl).new h3 rfl).new hl rfl
    have t1 : upd (upd (upd (upd H p1 (.tup [.int 9, .int 5, .int 9])) p2 (.tup [.int 30, .int 60, .int 99])) p3 (.tup [.int 400, .int 60, .int (10 ^ (6 : Int).toNat)])) l (.lst [.ref p1, .ref p2, .ref p3]) p1 = some (.tup [.int 9, .int 5, .int 9]) :=
      same_new hl _ _ (same_new h3 _ _ (same_new h2 _ _ upd_same))
    have t2 : upd (upd (upd (upd H p1 (.tup [.int 9, .int 5, .int 9])) p2 (.tup [.int 30, .int 60, .int 99])) p3 (.tup [.int 400, .int 60, .int (10 ^ (6 : Int).toNat)])) l (.lst [.ref p1, .ref p2, .ref p3]) p2 = some (.tup [.int 30, .int 60, .int 99]) :=
      same_new hl _ _ (same_new h3 _ _ upd_same)
    have t3 : upd (upd (upd (upd H p1 (.tup [.int 9, .int 5, .int 9])) p2 (.tup [.int 30, .int 60, .int 99])) p3 (.tup [.int 400, .int 60, .int (10 ^ (6 : Int).toNat)])) l (.lst [.ref p1, .ref p2, .ref p3]) p3 = some (.tup [.int 400, .int 60, .int (10 ^ (6 : Int).toNat)]) :=
      same_new hl _ _ upd_same
    have tl : SqL K (upd (upd (upd (upd H p1 (.tup [.int 9, .int 5, .int 9])) p2 (.tup [.int 30, .int 60, .int 99])) p3 (.tup [.int 400, .int 60, .int (10 ^ (6 : Int).toNat)])) l (.lst [.ref p1, .ref p2, .ref p3])) l [.ref p1, .ref p2, .ref p3] := SqL.of upd_same
    generalize upd (upd (upd (upd H p1 (.tup [.int 9, .int 5, .int 9])) p2 (.tup [.int 30, .int 60, .int 99])) p3 (.tup [.int 400, .int 60, .int (10 ^ (6 : Int).toNat)])) l (.lst [.ref p1, .ref p2, .ref p3]) = H4 at D4 G4 t1 t2 t3 tl ⊢
    have hld : l ≠ d := fun e => by
      obtain ⟨_, x, y, z, hh, _⟩ := D3
      rw [e, hh] at hl
      cases hl
    refine ⟨d, l, n, _, rfl, D4, by omega, tl, hld, by show 0 < 3; decide, by show 3 < 1000000; decide, fun i v H5 hv D5 g5 => ?_⟩
    have fin : ∀ (p : Addr) (L B S : Int), SqT K H5 p [.int L, .int B, .int S] → (1 ≤ L ∧ L ≤ 400) → (1 ≤ B ∧ B ≤ 60) → (0 ≤ S ∧ S ≤ 1000000) →
        gTup K 3 (gCons (gName 1) (gCons (gName 2) (gCons (gName 3) gNil))) (.ref p) (start ["deck", "long_so", "bottoms", "shifts"] [.ref d]) H5 (tRet (tCall sp_law_land [] E0 (tCons (tVar 0) (tCons (tVar 1) (tCons (tVar 2) (tCons (tVar 3) tNil))))) { nx := fun _ H' => Q .non H', rt := Q }) := fun p L B S ht hL hB hS => by
      refine ⟨p, _, rfl, ht, rfl, _, _, rfl, _, _, rfl, _, _, rfl, rfl, ?_⟩
      refine ⟨_, rfl, _, rfl, _, rfl, _, rfl, d, n + 1, L, B, S, rfl, D5, by omega, hL, hB, hS, fun p' dd t b s H6 a1 a2 a3 a4 a5 a6 a7 a8 => ?_⟩
      obtain ⟨ys, hy⟩ := D5.lst
      exact q p' dd t b s H6 ⟨⟨by omega, by omega⟩, a2, ⟨by omega, by omega⟩, by omega, by omega⟩ ((G4.trans g5).free hy a5) a6 a7 ((G4.trans g5).trans a8)
    match i, hv with
    | 0, hv =>
      obtain rfl : V.ref p1 = v := Option.some.inj hv
      exact fin p1 9 5 9 (g5.t (SqT.of t1)) (by decide) (by decide) (by decide)
    | 1, hv =>
      obtain rfl : V.ref p2 = v := Option.some.inj hv
      exact fin p2 30 60 99 (g5.t (SqT.of t2)) (by decide) (by decide) (by decide)
    | 2, hv =>
      obtain rfl : V.ref p3 = v := Option.some.inj hv
      exact fin p3 400 60 (10 ^ (6 : Int).toNat) (g5.t (SqT.of t3)) (by decide) (by decide) (by decide)
    | i + 3, hv => simp at hv

def sp_law_begin (K : PySem.W.Frag) : Sp := fun vs H Q _ => ∃ (a : Addr) (d t b s y : Int), vs = [.ref a, .int y] ∧ Ld K H a d t b s ∧ LandOk d t b s ∧ Q (.int (fday d t b s y)) H
theorem d_law_begin (A : All K mg) : Df P w K mg base CX0 "_law_begin" 1 ["land", "year"] (sp_law_begin K) := by
  obtain ⟨f, fd, F, hm, hb⟩ := A.t_law_begin
  refine ⟨f, fd, F.ok sc_law_begin (fun vs H Q E h => ?_) (fun cdv A' outer s H vs Q E hr h => ?_), hm, F.kp, hb⟩
  · obtain ⟨a, d, t, b, s, y, rfl, _⟩ := h; rfl
  · obtain ⟨a, d, t, b, s, y, rfl, hl, hk, q⟩ := h
    obtain ⟨⟨k1, k2⟩, ⟨k3, k4⟩, ⟨k5, k6⟩, k7, k8⟩ := id hk
    refine ⟨_, (pss_one (ps_ret (pe_op op_add (pe_op op_mul (pe_ix ix_tup (pv 0) pe_int (fun _ _ => rfl)) (pv 1)) (pe_op op_fdiv (pe_op op_add (pe_op op_mul (pe_ix ix_tup (pv 0) pe_int (fun _ _ => rfl)) (pv 1)) (pe_ix ix_tup (pv 0) pe_int (fun _ _ => rfl))) (pe_ix ix_tup (pv 0) pe_int (fun _ _ => rfl)))))), ?_⟩
    rw [fday_begin hk] at q
    walk_at "g"
    exact q

def sp_law_length (K : PySem.W.Frag) : Sp := fun vs H Q _ => ∃ (a : Addr) (d t b s y : Int), vs = [.ref a, .int y] ∧ Ld K H a d t b s ∧ LandOk d t b s ∧ Q (.int (fday d t b s (y + 1) - fday d t b s y)) H
theorem d_law_length (A : All K mg) : Df P w K mg base CX0 "_law_length" 2 ["land", "year"] (sp_law_length K) := by
  obtain ⟨f, fd, F, hm, hb⟩ := A.t_law_length
  refine ⟨f, fd, F.ok sc_law_length (fun vs H Q E h => ?_) (fun cdv A' outer s H vs Q E hr h => ?_), hm, F.kp, hb⟩
  · obtain ⟨a, d, t, b, s, y, rfl, _⟩ := h; rfl
  · obtain ⟨a, d, t, b, s, y, rfl, hl, hk, q⟩ := h
    refine ⟨_, (pss_one (ps_ret (pe_op op_sub (pe_callD (d_law_begin A) hr (by decide) (by rfl) pass0 (pa_cons (pv 0) (pa_cons (pe_op op_add (pv 1) pe_int) pa_nil))) (pe_callD (d_law_begin A) hr (by decide) (by rfl) pass0 (pa_cons (pv 0) (pa_cons (pv 1) pa_nil)))))), ?_⟩
    refine ⟨_, rfl, _, rfl, _, _, rfl, rfl, a, d, t, b, s, _, rfl, hl, hk, ?_⟩
    refine ⟨_, rfl, _, rfl, a, d, t, b, s, _, rfl, hl, hk, ?_⟩
    walk_at "g"
    exact q

def sp_law_far : Sp := fun vs H Q _ => ∃ (d : Addr) (n : Nat), vs = [.ref d] ∧ Dk n H d ∧ n ≤ 1000000 ∧
  ∀ y H', -1000000000000000000000000000 ≤ y → y ≤ 1000000000000000000000000000 → Dk (n + 5) H' d → Gr d H H' → Q (.int y) H'
theorem d_law_far (A : All K mg) : Df P w K mg base CX0 "_law_far" 3 ["deck"] sp_law_far := by
  obtain ⟨f, fd, F, hm, hb⟩ := A.t_law_far
  refine ⟨f, fd, F.ok sc_law_far (fun vs H Q E h => ?_) (fun cdv A' outer s H vs Q E hr h => ?_), hm, F.kp, hb⟩
  · obtain ⟨d, n, rfl, _⟩ := h; rfl
  · obtain ⟨d, n, rfl, hD, hn, q⟩ := h
    refine ⟨_, (pss_cons (ps_set (i := 1) sc_law_far.nd rfl (Or.inl rfl) (pe_callD (d_law_one A) hr (by decide) (by rfl) pass0 (pa_cons (pv 0) (pa_cons (pe_lst (pa_cons (pe_callD (d_law_pick A) hr (by decide) (by rfl) pass0 (pa_cons (pv 0) (pa_cons pe_int pa_nil))) (pa_cons (pe_callD (d_law_pick A) hr (by decide) (by rfl) pass0 (pa_cons (pv 0) (pa_cons (pe_op op_pow pe_int pe_int) pa_nil))) (pa_cons (pe_callD (d_law_pick A) hr (by decide) (by rfl) pass0 (pa_cons (pv 0) (pa_cons (pe_op op_pow pe_int pe_int) pa_nil))) pa_nil)))) pa_nil))))
 (pss_one (ps_ret (pe_ifExp (pt_cmpR op_eq (pe_callD (d_law_pick A) hr (by decide) (by rfl) pass0 (pa_cons (pv 0) (pa_cons pe_int pa_nil))) pe_int (nomark _)) (pv 1) (pe_op op_sub pe_int (pv 1)))))), ?_⟩
    refine ⟨_, rfl, _, rfl, d, n, _, rfl, hD, by omega, by decide, by decide, fun r1 H1 a0 a1 D1 g1 => ?_⟩
    refine ⟨_, rfl, _, _, rfl, rfl, ⟨by decide, by decide, by decide⟩, d, n + 1, _, rfl, D1, by omega, by decide, by decide, fun r2 H2 b0 b1 D2 g2 => ?_⟩
    refine ⟨_, rfl, _, _, rfl, rfl, ⟨by decide, by decide, by decide⟩, d, n + 2, _, rfl, D2, by omega, by decide, by decide, fun r3 H3 c0 c1 D3 g3 => ?_⟩
    refine ⟨by show 3 ≤ sizeLine; decide, fun l hl => ?_⟩
    have hld : l ≠ d := fun e => by
      obtain ⟨_, x, y, z, hh, _⟩ := D3
      rw [e, hh] at hl
      cases hl
    have g3' := ((g1.trans g2).trans g3).new (o := .lst [.int r1, .int r2, .int r3]) hl rfl
    refine ⟨d, l, n + 3, _, rfl, D3.new hl rfl, by omega, SqL.of upd_same, hld, by show 0 < 3; decide, by show 3 < 1000000; decide, fun i v H5 hv D5 g5 => ?_⟩
    have g := g3'.trans g5
    have hb1 : (10 : Int) ^ (9 : Int).toNat = 1000000000 := by decide
    have hb2 : (10 : Int) ^ (27 : Int).toNat = 1000000000000000000000000000 := by decide
    rw [hb1] at b1
    rw [hb2] at c1
    have fin : ∀ y : Int, 0 ≤ y → y ≤ 1000000000000000000000000000 → v = .int y → tSeq (tAsg (fun _ H Q => Q v H) (gName 1)) (tRet (tIf (tTest (tOp rEq (tCall sp_law_pick [] E0 (tCons (tVar 0) (tCons (tC (.int 2)) tNil))) (tC (.int 0)))) (tVar 1) (tOp (rI0 fun i j => .int (i - j)) (tC (.int 0)) (tVar 1)))) { nx := fun _ H' => Q .non H', rt := Q } (start ["deck", "number"] [.ref d]) H5 := fun y y0 y1 e => by
      subst e
      refine ⟨_, rfl, d, n + 4, _, rfl, D5, by omega, by decide, by decide, fun r H6 r0 r1 D6 g6 => ?_⟩
      refine ⟨rfl, _, rfl, ?_⟩
      refine ite2 (fun e => ?_) (fun e => ?_)
      · exact ⟨_, rfl, q y H6 (by omega) y1 D6 (g.trans g6)⟩
      · refine ⟨_, rfl, _, _, rfl, rfl, ?_⟩
        exact q _ H6 (by omega) (by omega) D6 (g.trans g6)
    match i, hv with
    | 0, hv => exact fin r1 a0 (by omega) (Option.some.inj hv).symm
    | 1, hv => exact fin r2 b0 (by omega) (Option.some.inj hv).symm
    | 2, hv => exact fin r3 c0 (by omega) (Option.some.inj hv).symm
    | i + 3, hv => simp at hv

def sp_law_step (K : PySem.W.Frag) : Sp := fun vs H Q _ => ∃ (a : Addr) (d t b s : Int), vs = [.ref a] ∧ Ld K H a d t b s ∧ LandOk d t b s ∧ Q (.int (d * b + t)) H
theorem d_law_step (A : All K mg) : Df P w K mg base CX0 "_law_step" 1 ["land"] (sp_law_step K) := by
  obtain ⟨f, fd, F, hm, hb⟩ := A.t_law_step
  refine ⟨f, fd, F.ok sc_law_step (fun vs H Q E h => ?_) (fun cdv A' outer s H vs Q E hr h => ?_), hm, F.kp, hb⟩
  · obtain ⟨a, d, t, b, s, rfl, _⟩ := h; rfl
  · obtain ⟨a, d, t, b, s, rfl, hl, hk, q⟩ := h
    obtain ⟨⟨k1, k2⟩, ⟨k3, k4⟩, ⟨k5, k6⟩, k7, k8⟩ := hk
    refine ⟨_, (pss_one (ps_ret (pe_op op_add (pe_op op_mul (pe_ix ix_tup (pv 0) pe_int (fun _ _ => rfl)) (pe_ix ix_tup (pv 0) pe_int (fun _ _ => rfl))) (pe_ix ix_tup (pv 0) pe_int (fun _ _ => rfl))))), ?_⟩
    walk_at "g"
    exact q

def sp_law_walk_right (K : PySem.W.Frag) : Sp := fun vs H Q _ => ∃ (a : Addr) (d t b s n : Int), vs = [.ref a, .int n] ∧ Ld K H a d t b s ∧ LandOk d t b s ∧ NoT H ∧ -1000000000000000000000000000 ≤ n ∧ n ≤ 1000000000000000000000000000 ∧ Q (.bl true) H
theorem d_law_walk_right (A : All K mg) : Df P w K mg base CX0 "_law_walk_right" 6 ["land", "day"] (sp_law_walk_right K) := by
  obtain ⟨f, fd, F, hm, hb⟩ := A.t_law_walk_right
  refine ⟨f, fd, Fun.okF F sc_law_walk_right (fun vs H Q E h => ?_) (fun cdv A' outer s H vs Q E hr h => ?_), hm, F.kp, hb⟩
  · obtain ⟨a, d, t, b, s, n, rfl, _⟩ := h; rfl
  · obtain ⟨a, d, t, b, s, n, rfl, hl, hk, nt, n0, n1, q⟩ := h
    refine ⟨_, (pss_cons (ps_asg (pe_callD (d_date A) hr (by decide) (by rfl) pass0 (pa_cons (pv 0) (pa_cons (pv 1) pa_nil))) (pg_tup (by rfl) (pgs_cons (pg_name (i := 2) sc_law_walk_right.nd rfl (Or.inl rfl)) (pgs_cons (pg_name (i := 3) sc_law_walk_right.nd rfl (Or.inl rfl)) pgs_nil))))
 (pss_cons (ps_for PassesOwn.never (by rfl) (pi_rgW1 (by rfl) A.b_range (pa_cons pe_int pa_nil)) (pg_name (i := 4) sc_law_walk_right.nd rfl (Or.inl rfl))
 (pss_cons (ps_if (PW.pt (pw_or (pt_cmpR op_ne (pe_op op_add (pe_callD (d_begin A) hr (by decide) (by rfl) pass0 (pa_cons (pv 0) (pa_cons (pv 2) pa_nil))) (pv 3)) (pv 1) (nomark _)) (pw_or1 (pt_not (pt_chain op_le op_lt pe_int (pv 3) (pe_callD (d_law_length A) hr (by decide) (by rfl) pass0 (pa_cons (pv 0) (pa_cons (pv 2) pa_nil))))))))
 (pss_one (ps_ret pe_bl))
 pss_nil)
 (pss_cons (ps_if (pt_not (pt_val (pe_callD (d_law_same A) hr (by decide) (by rfl) pass0 (pa_cons (pe_callD (d_date A) hr (by decide) (by rfl) pass0 (pa_cons (pv 0) (pa_cons (pv 1) pa_nil))) (pa_cons (pe_tup (pa_cons (pv 2) (pa_cons (pv 3) pa_nil))) pa_nil)))))
 (pss_one (ps_ret pe_bl))
 pss_nil)
 (pss_cons (ps_par (i := 1) (j := 3) (by rfl) sc_law_walk_right.nd rfl rfl (by decide) rfl rfl (pa_cons (pe_op op_add (pv 1) pe_int) (pa_cons (pe_op op_add (pv 3) pe_int) pa_nil)) (by rfl))
 (pss_one (ps_if (pt_cmpR op_eq (pv 3) (pe_callD (d_law_length A) hr (by decide) (by rfl) pass0 (pa_cons (pv 0) (pa_cons (pv 2) pa_nil))) (nomark _))
 (pss_one (ps_par (i := 2) (j := 3) (by rfl) sc_law_walk_right.nd rfl rfl (by decide) rfl rfl (pa_cons (pe_op op_add (pv 2) pe_int) (pa_cons pe_int pa_nil)) (by rfl)))
 pss_nil))))))
 (pss_one (ps_ret pe_bl)))), ?_⟩
    refine ⟨_, rfl, _, rfl, a, d, t, b, s, n, H, rfl, hl, hk, ⟨by omega, by omega⟩, nt, Same.refl _, fun p H1 _ s1 nt1 hp => ?_⟩
    refine ⟨p, _, rfl, SqT.of hp, rfl, _, _, rfl, _, _, rfl, rfl, ?_⟩
    refine ⟨_, rfl, for_range (lo := 0) (n := 40) (fun i σ H' => ∃ y4, σ = [some (.ref a), some (.int (n + i)), some (.int (yof d t b s (n + i))), some (.int (n + i - fday d t b s (yof d t b s (n + i)))), y4] ∧ Same H H' ∧ NoT H')
      ⟨none, by rw [show n + ((0 : Nat) : Int) = n by omega]; rfl, s1, nt1⟩ (fun i σ H' hi hW => ?_) (fun σ H' hW => ?_)⟩
    · obtain ⟨y4, rfl, s2, nt2⟩ := hW
      have hl2 := Same.t s2 hl
      have lo := yof_low hk (n + i)
      have hi' := yof_high hk (n + i)
      have ya := yof_abs hk (m := n + i) (B := 1000000000000000000000000040) (by omega) (by omega) (by omega)
      have sc := yof_succ hk (n + i)
      generalize hy : yof d t b s (n + i) = y at lo hi' ya sc ⊢
      refine ⟨_, rfl, _, rfl, a, d, t, b, s, y, rfl, hl2, hk, ⟨by omega, by omega⟩, ?_⟩
      walk_at "g"
      refine iteNS (by walk_at "vi") ?_
      walk_at "g"
      refine ite2 (fun e => ?_) (fun e => absurd (decide_eq_true (by omega)) e)
      refine ⟨_, rfl, _, rfl, a, d, t, b, s, y, rfl, hl2, hk, ?_⟩
      walk_at "g"
      refine iteNS (by omega) ?_
      refine ⟨_, rfl, _, rfl, a, d, t, b, s, _, H', rfl, hl2, hk, ⟨by omega, by omega⟩, nt2, Same.refl _, fun p3 H3 _ s3 nt3 hp3 => ?_⟩
      rw [hy] at hp3
      refine ⟨_, rfl, _, rfl, by show 2 ≤ sizeLine; decide, fun p4 h4 => ?_⟩
      refine ⟨_, _, H', rfl, nt3.tup, s3.trans (same_new h4), (Sm.tints (ns := [y, n + i - fday d t b s y]) (SqT.of (same_new h4 _ _ hp3)) (SqT.of upd_same)).up (by decide), fun H5 s5 nt5 => ⟨_, rfl, ?_⟩⟩
      refine iteF ?_
      have hl5 := Same.t s5 hl2
      have e5 : n + ((i + 1 : Nat) : Int) = n + i + 1 := by omega
      walk_at "g"
      refine ⟨a, d, t, b, s, y, rfl, hl5, hk, rfl, _, rfl, ite2 (fun e2 => ?_) (fun e2 => ?_)⟩
      · have c : n + (i : Int) - fday d t b s y + 1 = fday d t b s (y + 1) - fday d t b s y := V.int.inj (of_decide_eq_true e2)
        walk_at "g"
        refine ⟨some (.int (0 + i)), ?_, s2.trans s5, nt5⟩
        rw [e5, sc, if_pos (by omega), show n + (i : Int) + 1 - fday d t b s (y + 1) = 0 by omega]
        rfl
      · have c : ¬ n + (i : Int) - fday d t b s y + 1 = fday d t b s (y + 1) - fday d t b s y := fun z => e2 (decide_eq_true (congrArg V.int z))
        refine ⟨some (.int (0 + i)), ?_, s2.trans s5, nt5⟩
        rw [e5, sc, if_neg (by omega), show n + (i : Int) + 1 - fday d t b s y = n + (i : Int) - fday d t b s y + 1 by omega]
        rfl
    · obtain ⟨y4, rfl, s2, nt2⟩ := hW
      exact fg_same nt s2 q

theorem count_longs {d t b s : Int} (hk : LandOk d t b s) {K : PySem.W.Frag} {H : Hp} {D p : Addr} (y : Int) (n : Nat) (hn : n ≤ 1000) (hl : Ld K H p d t b s) (hD : H D = none) {σ : L2.St} {g : Nat} {vs : List Nat} {te : TT} {Qd : Hp → Prop}
    (hw : ∀ x, wipe ((wipe σ vs).set g (some x)) vs = wipe σ vs)
    (ht : ∀ (i : Nat) H', i < n → Ld K H' p d t b s → ∀ Q : Bool → Hp → Prop, Q (decide (d < fday d t b s (y + i + 1) - fday d t b s (y + i))) H' → te ((wipe σ vs).set g (some (.int (y + i)))) H' Q)
    (hd : ∀ H', H' = upd H D (.lst (ones (tof t b s (y + n) - tof t b s y).toNat)) → Qd H') :
    ∃ W : Nat → Nat → Hp → Prop, (∃ m, W 0 m (upd H D (.lst []))) ∧ ∀ i m H, W i m H →
      ((Itr y n).stop i H ∧ Qd H) ∨ ((Itr y n).go i H ∧ ∃ Nx : Hp → Prop, (∀ H', Nx H' → ∃ m', m' < m ∧ W (i + 1) m' H') ∧ ∀ x H', (Itr y n).yld i H x H' → gName g x (wipe σ vs) H' fun σ2 H2 => wipe σ2 vs = wipe σ vs ∧ te σ2 H2 fun b H3 =>
        if b = true then tC (.int 1) σ2 H3 fun y H4 => ∃ acc, H4 D = some (.lst acc) ∧ acc.length < sizeLine ∧ Nx (upd H4 D (.lst (acc ++ [y]))) else Nx H3) := by
  have mono : ∀ j : Nat, 0 ≤ tof t b s (y + j) - tof t b s y ∧ tof t b s (y + j) - tof t b s y ≤ j := fun j => by
    induction j with
    | zero => simp
    | succ j ih =>
      have e : y + ((j + 1 : Nat) : Int) = y + j + 1 := by omega
      rw [e]
      rcases tof_step hk (y + j) with q | q <;> omega
  refine lc_range (lo := y) (n := n) (fun i H' => H' = upd H D (.lst (ones (tof t b s (y + i) - tof t b s y).toNat))) (by simp [ones]) (fun i H' hi p => ?_) (fun H' p => hd H' p)
  subst p
  refine ⟨hw _, ht i _ hi ?_ _ ?_⟩
  · exact Same.t (same_new hD) hl
  · have m1 := mono i
    have e : y + ((i + 1 : Nat) : Int) = y + i + 1 := by omega
    have fl := flen hk (y + i)
    rcases tof_step hk (y + i) with q | q
    · rw [decide_eq_false (by omega)]
      refine iteF ?_
      rw [e, q]
    · rw [decide_eq_true (by omega)]
      refine iteT ?_
      refine ⟨_, upd_same, ?_, ?_⟩
      · rw [ones_len]
        exact sz_small (by omega)
      · rw [upd_upd, ones_succ, e, q, show tof t b s (y + ↑i) + 1 - tof t b s y = (tof t b s (y + ↑i) - tof t b s y) + 1 by omega, Int.toNat_add m1.1 (by decide)]
        rfl
def sp_law (K : PySem.W.Frag) : Sp := fun vs H Q _ => ∃ (a : Addr) (ns : List Int), vs = [.ref a] ∧ SqL K H a (ns.map V.int) ∧ ns.length ≤ 63 ∧ NoT H ∧ ∀ H', Q (.bl true) H'
theorem ok_law (A : All K mg) {f : Addr} {fd : FuncData} (F : Fun K "law" "law" s_law f fd) : FnOk P w K mg base CX0 7 f fd ["script"] (sp_law K) := by
  refine F.ok sc_law (fun vs H Q E h => ?_) (fun cdv A' outer s H vs Q E hr h => ?_)
  · obtain ⟨a, ns, rfl, _⟩ := h; rfl
  · obtain ⟨a, ns, rfl, hS, hlen, nt, q⟩ := h
    refine ⟨_, (pss_cons (ps_for PassesOwn.never (by rfl) (pi_list (pe_slice sl_list (pe_op op_catS (pe_lst (pa_cons pe_int pa_nil)) (pv 0)) po_none (po_some pe_int))) (pg_name (i := 1) sc_law.nd rfl (Or.inl rfl))
 (pss_cons (ps_set (i := 2) sc_law.nd rfl (Or.inl rfl) (pe_callD (d_law_deck A) hr (by decide) (by rfl) pass0 (pa_cons (pv 1) (pa_cons pe_int pa_nil))))
 (pss_cons (ps_set (i := 3) sc_law.nd rfl (Or.inr rfl) (pe_callD (d_law_any A) hr (by decide) (by rfl) pass0 (pa_cons (pv 2) pa_nil)))
 (pss_cons (ps_for PassesOwn.never (by rfl) (pi_rgW1 (by rfl) A.b_range (pa_cons pe_int pa_nil)) (pg_name (i := 4) sc_law.nd rfl (Or.inl rfl))
 (pss_cons (ps_if (pt_not (pt_val (pe_callD (d_law_walk_right A) hr (by decide) (by rfl) pass0 (pa_cons (pv 3) (pa_cons (pe_callD (d_law_far A) hr (by decide) (by rfl) pass0 (pa_cons (pv 2) pa_nil)) pa_nil)))))
 (pss_one (ps_ret pe_bl))
 pss_nil)
 (pss_cons (ps_set (i := 5) sc_law.nd rfl (Or.inl rfl) (pe_callD (d_law_far A) hr (by decide) (by rfl) pass0 (pa_cons (pv 2) pa_nil)))
 (pss_cons (ps_set (i := 6) sc_law.nd rfl (Or.inl rfl) (pe_callD (d_begin A) hr (by decide) (by rfl) pass0 (pa_cons (pv 3) (pa_cons (pv 5) pa_nil))))
 (pss_cons (ps_if (pt_not (pt_val (pe_callD (d_law_same A) hr (by decide) (by rfl) pass0 (pa_cons (pe_lst (pa_cons (pv 6) (pa_cons (pe_callD (d_date A) hr (by decide) (by rfl) pass0 (pa_cons (pv 3) (pa_cons (pv 6) pa_nil))) pa_nil))) (pa_cons (pe_lst (pa_cons (pe_callD (d_law_begin A) hr (by decide) (by rfl) pass0 (pa_cons (pv 3) (pa_cons (pv 5) pa_nil))) (pa_cons (pe_tup (pa_cons (pv 5) (pa_cons pe_int pa_nil))) pa_nil))) pa_nil)))))
 (pss_one (ps_ret pe_bl))
 pss_nil)
 (pss_cons (ps_if (pt_cmpR op_ne (pe_ix ix_tup (pe_callD (d_date A) hr (by decide) (by rfl) pass0 (pa_cons (pv 3) (pa_cons (pe_op op_sub (pv 6) pe_int) pa_nil))) pe_int (fun _ _ => rfl)) (pe_op op_sub (pv 5) pe_int) (nomark _))
 (pss_one (ps_ret pe_bl))
 pss_nil)
 (pss_cons (ps_if (pt_cmpR op_ne (pe_callD (d_begin A) hr (by decide) (by rfl) pass0 (pa_cons (pv 3) (pa_cons (pe_op op_add (pv 5) (pe_ix ix_tup (pv 3) pe_int (fun _ _ => rfl))) pa_nil))) (pe_op op_add (pv 6) (pe_callD (d_law_step A) hr (by decide) (by rfl) pass0 (pa_cons (pv 3) pa_nil))) (nomark _))
 (pss_one (ps_ret pe_bl))
 pss_nil)
 (pss_cons (ps_set (i := 7) sc_law.nd rfl (Or.inl rfl) (pe_cmpR op_eq (pe_callD (d_law_length A) hr (by decide) (by rfl) pass0 (pa_cons (pv 3) (pa_cons (pv 5) pa_nil))) (pe_op op_add (pe_ix ix_tup (pv 3) pe_int (fun _ _ => rfl)) pe_int) (nomark _)))
 (pss_cons (ps_if (pt_not (pt_val (pe_callD (d_law_same A) hr (by decide) (by rfl) pass0 (pa_cons (pe_callD (d_is_long A) hr (by decide) (by rfl) pass0 (pa_cons (pv 3) (pa_cons (pv 5) pa_nil))) (pa_cons (pv 7) pa_nil)))))
 (pss_one (ps_ret pe_bl))
 pss_nil)
 (pss_cons (ps_set (i := 8) sc_law.nd rfl (Or.inl rfl) (pe_op op_add pe_int (pe_callD (d_law_pick A) hr (by decide) (by rfl) pass0 (pa_cons (pv 2) (pa_cons pe_int pa_nil)))))
 (pss_cons (ps_set (i := 9) sc_law.nd rfl (Or.inl rfl) (pe_callB call_len_seq (by rfl) A.b_len (by decide +kernel) (pa_cons (pe_lc (own := [("one", 11)]) (g := gName 11) (by rfl) sc_law.nd (pi_rgW2 (by rfl) A.b_range (pa_cons (pv 5) (pa_cons (pe_op op_add (pv 5) (pv 8)) pa_nil))) (blkOk_by (own := [("one", 11)]) (N := ["script", "cell", "deck", "land", "turn", "year", "day", "long_so", "many", "longs", "low", "one"]) (sc := defScope s_law) (by decide +kernel)) (fun _ _ _ _ _ => (pg_name (i := 11) sc_law.nd rfl (Or.inl rfl))) (fun _ _ _ _ _ => (pts_one (pt_val (pe_callD (d_is_long A) hr (by decide) (by rfl) pass0 (pa_cons (pv 3) (pa_cons (pv 11) pa_nil)))))) (fun _ _ _ _ _ => pe_int)) pa_nil)))
 (pss_cons (ps_set (i := 10) sc_law.nd rfl (Or.inl rfl) (pe_op op_fdiv (pe_op op_mul (pv 8) (pe_ix ix_tup (pv 3) pe_int (fun _ _ => rfl))) (pe_ix ix_tup (pv 3) pe_int (fun _ _ => rfl))))
 (pss_one (ps_if (PW.pt (pw_or (pt_cmpR op_lt (pv 9) (pv 10) (nomark _)) (pw_or1 (pt_cmpR op_gt (pv 9) (pe_op op_fdiv (pe_op op_sub (pe_op op_add (pe_op op_mul (pv 8) (pe_ix ix_tup (pv 3) pe_int (fun _ _ => rfl))) (pe_ix ix_tup (pv 3) pe_int (fun _ _ => rfl))) pe_int) (pe_ix ix_tup (pv 3) pe_int (fun _ _ => rfl))) (nomark _)))))
 (pss_one (ps_ret pe_bl))
 pss_nil))))))))))))))
 (pss_one (ps_if (pt_cmpR op_ne (pe_callB call_len_seq (by rfl) A.b_len (by decide +kernel) (pa_cons (pe_lc (own := [("one", 11)]) (g := gName 11) (by rfl) sc_law.nd (pi_rgW1 (by rfl) A.b_range (pa_cons (pe_ix ix_tup (pv 3) pe_int (fun _ _ => rfl)) pa_nil)) (blkOk_by (own := [("one", 11)]) (N := ["script", "cell", "deck", "land", "turn", "year", "day", "long_so", "many", "longs", "low", "one"]) (sc := defScope s_law) (by decide +kernel)) (fun _ _ _ _ _ => (pg_name (i := 11) sc_law.nd rfl (Or.inl rfl))) (fun _ _ _ _ _ => (pts_one (pt_val (pe_callD (d_is_long A) hr (by decide) (by rfl) pass0 (pa_cons (pv 3) (pa_cons (pv 11) pa_nil)))))) (fun _ _ _ _ _ => pe_int)) pa_nil)) (pe_ix ix_tup (pv 3) pe_int (fun _ _ => rfl)) (nomark _))
 (pss_one (ps_ret pe_bl))
 pss_nil))))))
 (pss_cons (ps_if (pt_cmpR (op_neD hr.units) (pe_callD (d_date A) hr (by decide) (by rfl) pass0 (pa_cons (pe_tup (pa_cons pe_int (pa_cons pe_int (pa_cons pe_int (pa_cons pe_int pa_nil))))) (pa_cons (pe_un un_neg pe_int) pa_nil))) (pe_tup (pa_cons (pe_un un_neg pe_int) (pa_cons pe_int pa_nil))) (nomark _))
 (pss_one (ps_ret pe_bl))
 pss_nil)
 (pss_one (ps_ret (pe_cmpR (op_eqD hr.units) (pe_callD (d_date A) hr (by decide) (by rfl) pass0 (pa_cons (pe_tup (pa_cons pe_int (pa_cons pe_int (pa_cons pe_int (pa_cons pe_int pa_nil))))) (pa_cons pe_int pa_nil))) (pe_tup (pa_cons pe_int (pa_cons pe_int pa_nil))) (nomark _)))))), ?_⟩
    -- ([0] + script)[:8]
    refine ⟨by show 1 ≤ sizeLine; decide, fun p1 h1 => ?_⟩
    refine ⟨_, rfl, p1, a, _, _, rfl, rfl, SqL.of upd_same, Same.l (same_new h1) hS, by rw [List.length_map]; exact sz63 hlen, fun p2 h2 => ?_⟩
    refine ⟨8, rfl, p2, _, rfl, SqL.of upd_same, fun p3 h3 => ?_⟩
    have nt3 : NoT (upd (upd (upd H p1 (.lst [.int 0])) p2 (.lst ([.int 0] ++ ns.map V.int))) p3 (.lst (cutV ([.int 0] ++ ns.map V.int) none (some 8)))) := nt.lst.lst.lst
    refine ⟨p3, rfl, ⟨_, SqL.of upd_same⟩, for_list (xs := cutV ([.int 0] ++ ns.map V.int) none (some 8)) (fun i σ H' => (∃ y1 y2 y3 y4 y5 y6 y7 y8 y9 y10 y11, σ = [some (.ref a), y1, y2, y3, y4, y5, y6, y7, y8, y9, y10, y11]) ∧ H' p3 = some (.lst (cutV ([.int 0] ++ ns.map V.int) none (some 8))) ∧ NoT H')
      ⟨⟨none, none, none, none, none, none, none, none, none, none, none, rfl⟩, upd_same, nt3⟩ (fun i σ H' _ p => SqL.of p.2.1) (fun i x σ H' hx hW => ?_) (fun σ H' hW => ?_)⟩
    · obtain ⟨⟨y1, y2, y3, y4, y5, y6, y7, y8, y9, y10, y11, rfl⟩, hc, ntc⟩ := hW
      obtain ⟨c, rfl⟩ := cells_int hx
      -- deck, land
      refine ⟨_, rfl, c, 2, 2, rfl, ntc, by decide, by decide, fun dk H1 hdk s1 D1 => ?_⟩
      have hc1 := s1 _ _ hc
      have hne : p3 ≠ dk := ne_of_none hc hdk
      refine ⟨_, rfl, dk, 2, rfl, D1, by decide, fun p d t b s H2 hk hp ht D2 g2 => ?_⟩
      have hc2 := g2.keep _ _ hne hc1
      have hd := hk.d
      have hb := hk.b
      have htt := hk.t
      have hss := hk.s
      have hst := step_pos hk
      refine ⟨_, rfl, for_range (lo := 0) (n := 4) (fun i σ H' => (∃ y1 y4 y5 y6 y7 y8 y9 y10 y11, σ = [some (.ref a), y1, some (.ref dk), some (.ref p), y4, y5, y6, y7, y8, y9, y10, y11]) ∧ H' p3 = some (.lst (cutV ([.int 0] ++ ns.map V.int) none (some 8))) ∧ Dk (7 + 11 * i) H' dk ∧ SqT K H' p [.int d, .int t, .int b, .int s])
        ⟨⟨_, _, _, _, _, _, _, _, _, rfl⟩, hc2, D2, SqT.of ht⟩ (fun j σ H' hj hW => ?_) (fun σ H' hW => ?_)⟩
      · obtain ⟨⟨y1, y4, y5, y6, y7, y8, y9, y10, y11, rfl⟩, hc3, D3, hl3⟩ := hW
        -- the walk
        refine ⟨_, rfl, _, rfl, dk, _, rfl, D3, by omega, fun m H4 m0 m1 D4 g4 => ?_⟩
        have hc4 := g4.keep _ _ hne hc3
        have hl4 := g4.t hl3
        refine ⟨p, d, t, b, s, m, rfl, hl4, hk, D4.nt, m0, m1, _, rfl, iteF ?_⟩
        -- year, day
        refine ⟨_, rfl, dk, _, rfl, D4, by omega, fun y H5 y0 y1 D5 g5 => ?_⟩
        have hc5 := g5.keep _ _ hne hc4
        have hl5 := g5.t hl4
        refine ⟨_, rfl, _, rfl, p, d, t, b, s, y, rfl, hl5, hk, ⟨by omega, by omega⟩, ?_⟩
        have fa := fday_abs2 hk (y := y) (B := 1000000000000000000000000000) (by decide) (by omega) (by omega)
        have fb := yof_begin hk y
        have fc := yof_ahead hk y
        have fr := fday_round hk y
        have fl := flen2 hk y
        generalize hday : fday d t b s y = n at fa fb fc fr fl ⊢
        -- the date of its first day
        refine ⟨_, rfl, _, rfl, _, rfl, p, d, t, b, s, n, H5, rfl, hl5, hk, ⟨by omega, by omega⟩, D5.nt, Same.refl _, fun q1 H6 _ s6 nt6 hq1 => ?_⟩
        rw [fb, hday, Int.sub_self] at hq1
        refine ⟨by show 2 ≤ sizeLine; decide, fun l1 hl1 => ?_⟩
        have s7 : Same H5 (upd H6 l1 (.lst [.int n, .ref q1])) := s6.trans (same_new hl1)
        refine ⟨_, rfl, _, rfl, p, d, t, b, s, y, rfl, Same.t s7 hl5, hk, ?_⟩
        refine ⟨_, rfl, by show 2 ≤ sizeLine; decide, fun q2 hq2 => ?_⟩
        refine ⟨by show 2 ≤ sizeLine; decide, fun l2 hl2 => ?_⟩
        have e1 : upd (upd (upd H6 l1 (.lst [.int n, .ref q1])) q2 (.tup [.int y, .int 0])) l2 (.lst [.int (fday d t b s y), .ref q2]) q1 = some (.tup [.int y, .int 0]) :=
          same_new hl2 _ _ (same_new hq2 _ _ (same_new hl1 _ _ hq1))
        have e2 : upd (upd (upd H6 l1 (.lst [.int n, .ref q1])) q2 (.tup [.int y, .int 0])) l2 (.lst [.int (fday d t b s y), .ref q2]) q2 = some (.tup [.int y, .int 0]) := same_new hl2 _ _ upd_same
        have e3 : upd (upd (upd H6 l1 (.lst [.int n, .ref q1])) q2 (.tup [.int y, .int 0])) l2 (.lst [.int (fday d t b s y), .ref q2]) l1 = some (.lst [.int n, .ref q1]) := same_new hl2 _ _ (same_new hq2 _ _ upd_same)
        refine ⟨_, _, H5, rfl, nt6.lst.tup.lst, (s7.trans (same_new hq2)).trans (same_new hl2), Sm.lst (k := 2) (SqL.of e3) (SqL.of upd_same) rfl ?_, fun H7 s7 nt7 => ⟨_, rfl, iteF ?_⟩⟩
        · intro i x z hx hz
          match i, hx, hz with
          | 0, hx, hz =>
            cases hx
            cases hz
            rw [hday]
            exact Sm.int _ _
          | 1, hx, hz =>
            cases hx
            cases hz
            exact (Sm.tints (ns := [y, 0]) (SqT.of e1) (SqT.of e2)).up (by decide)
          | i + 2, hx, hz => simp at hx
        have hc7 := s7 _ _ hc5
        have hl7 := Same.t s7 hl5
        have D7 := D5.same s7 nt7
        -- the day ahead
        refine ⟨_, rfl, _, rfl, _, _, rfl, rfl, p, d, t, b, s, _, H7, rfl, hl7, hk, ⟨by omega, by omega⟩, nt7, Same.refl _, fun q3 H8 _ s8 nt8 hq3 => ?_⟩
        rw [fc] at hq3
        refine ⟨q3, _, _, _, rfl, rfl, SqT.of hq3, (by rfl), _, rfl, _, _, rfl, rfl, rfl, _, rfl, ?_⟩
        refine iteNS rfl ?_
        have hc8 := s8 _ _ hc7
        have hl8 := Same.t s8 hl7
        have D8 := D7.same s8 nt8
        -- a round later
        refine ⟨_, rfl, _, rfl, _, rfl, _, _, _, _, rfl, rfl, hl8, (by rfl), _, _, rfl, rfl, p, d, t, b, s, _, rfl, hl8, hk, ⟨by omega, by omega⟩, ?_⟩
        refine ⟨_, rfl, _, rfl, p, d, t, b, s, rfl, hl8, hk, _, _, rfl, rfl, rfl, _, rfl, ?_⟩
        refine iteNS (congrArg V.int fr) ?_
        -- long
        refine ⟨_, rfl, _, rfl, p, d, t, b, s, y, rfl, hl8, hk, ?_⟩
        walk_at "g"
        refine ⟨p, d, t, b, s, y, rfl, hl8, hk, ⟨by omega, by omega⟩, ?_⟩
        refine ⟨_, rfl, ?_⟩
        have e4 : decide (V.int (fday d t b s (y + 1) - n) = V.int (d + 1)) = decide (d < fday d t b s (y + 1) - n) := by
          rcases fl with e | e
          · rw [e]
            exact (decide_eq_false fun z => by have := V.int.inj z; omega).trans (decide_eq_false (by omega)).symm
          · rw [e]
            exact (decide_eq_true rfl).trans (decide_eq_true (by omega)).symm
        rw [hday]
        refine ⟨_, _, H8, rfl, nt8, Same.refl _, ?_, fun H9 s9 nt9 => ⟨_, rfl, iteF ?_⟩⟩
        · rw [show (V.bl (decide (V.int (fday d t b s (y + 1) - n) = V.int (d + 1)))) = V.bl (decide (d < fday d t b s (y + 1) - n)) from congrArg V.bl e4]
          exact Sm.bl _ _
        have hc9 := s9 _ _ hc8
        have hl9 := Same.t s9 hl8
        have D9 := D8.same s9 nt9
        -- so many years
        refine ⟨_, rfl, dk, _, 70, rfl, D9, by omega, by decide, by decide, fun r H10 r0 r1 D10 g10 => ?_⟩
        have hc10 := g10.keep _ _ hne hc9
        have hl10 := g10.t hl9
        walk_at "g"
        intro D hD
        have hN : ((y + (1 + r) - y).toNat : Int) = 1 + r := by omega
        have tp := tof_part hk y (n := 1 + r) (by omega)
        refine count_longs hk y (y + (1 + r) - y).toNat (by omega) hl10 hD (fun _ => rfl) (fun i H' hi hl' Q' q' => ?_) (fun H11 e11 => ?_)
        · exact ⟨_, rfl, _, rfl, p, d, t, b, s, _, rfl, hl', hk, ⟨by omega, by omega⟩, _, rfl, q'⟩
        · subst e11
          have hc11 := same_new (o := .lst (ones (tof t b s (y + ((y + (1 + r) - y).toNat : Int)) - tof t b s y).toNat)) hD _ _ hc10
          have D11 := D10.new (o := .lst (ones (tof t b s (y + ((y + (1 + r) - y).toNat : Int)) - tof t b s y).toNat)) hD rfl
          have hl11 := Same.t (same_new (o := .lst (ones (tof t b s (y + ((y + (1 + r) - y).toNat : Int)) - tof t b s y).toNat)) hD) hl10
          refine ⟨D, _, rfl, .inl (SqL.of upd_same), ?_⟩
          rw [ones_len]
          rw [hN] at hc11 D11 hl11 ⊢
          generalize upd H10 D (.lst (ones (tof t b s (y + (1 + r)) - tof t b s y).toNat)) = H11 at hc11 D11 hl11 ⊢
          have c0 : 0 ≤ (1 + r) * t / b := Int.ediv_nonneg (Int.mul_nonneg (by omega) (by omega)) (by omega)
          walk_at "g"
          refine ite2 (fun e => absurd (of_decide_eq_true e) (by omega)) (fun e => ?_)
          walk_at "g"
          refine ite2 (fun e => absurd (of_decide_eq_true e) (by omega)) (fun e => ?_)
          exact ⟨⟨_, _, _, _, _, _, _, _, _, rfl⟩, hc11, D11.mono (by omega), hl11⟩
      · obtain ⟨⟨y1, y4, y5, y6, y7, y8, y9, y10, y11, rfl⟩, hc3, D3, hl3⟩ := hW
        walk_at "g"
        intro D hD
        have hN : ((b.toNat : Nat) : Int) = b := by omega
        refine count_longs hk 0 b.toNat (by omega) hl3 hD (fun _ => rfl) (fun i H' hi hl' Q' q' => ?_) (fun H11 e11 => ?_)
        · exact ⟨_, rfl, _, rfl, p, d, t, b, s, _, rfl, hl', hk, ⟨by omega, by omega⟩, _, rfl, q'⟩
        · subst e11
          have tr := tof_round hk 0
          have hl11 := Same.t (same_new (o := .lst (ones (tof t b s (0 + ((b.toNat : Nat) : Int)) - tof t b s 0).toNat)) hD) hl3
          refine ⟨D, _, rfl, .inl (SqL.of upd_same), ?_⟩
          refine ⟨_, rfl, _, _, _, _, rfl, rfl, hl11, (by rfl), rfl, _, rfl, ?_⟩
          rw [ones_len, hN, tr]
          refine iteNS (congrArg V.int (by omega)) ?_
          exact ⟨⟨_, _, _, _, _, _, _, _, _, _, _, rfl⟩, same_new hD _ _ hc3, D3.nt.lst⟩
    · obtain ⟨⟨y1, y2, y3, y4, y5, y6, y7, y8, y9, y10, y11, rfl⟩, hc, ntc⟩ := hW
      refine ⟨by show 4 ≤ sizeLine; decide, fun u1 hu1 => ?_⟩
      refine ⟨1, rfl, u1, 365, 1, 4, 0, _, _, rfl, SqT.of upd_same, ⟨⟨by decide, by decide⟩, ⟨by decide, by decide⟩, ⟨by decide, by decide⟩, by decide, by decide⟩, ⟨by decide, by decide⟩, ntc.tup, Same.refl _, fun q1 H1 _ s1 nt1 hq1 => ?_⟩
      refine ⟨1, rfl, by show 2 ≤ sizeLine; decide, fun u2 hu2 => ?_⟩
      refine ⟨.tuple [.int (-1), .int 365], .tuple [.int (-1), .int 365], .tup (SqT.of (same_new hu2 _ _ hq1)) (.cons (.int _) (.cons (.int _) .nil)), .tup (SqT.of upd_same) (.cons (.int _) (.cons (.int _) .nil)), by decide, by decide, _, rfl, ?_⟩
      refine iteF ?_
      refine ⟨by show 4 ≤ sizeLine; decide, fun u3 hu3 => ?_⟩
      refine ⟨u3, 365, 1, 4, 0, _, _, rfl, SqT.of upd_same, ⟨⟨by decide, by decide⟩, ⟨by decide, by decide⟩, ⟨by decide, by decide⟩, by decide, by decide⟩, ⟨by decide, by decide⟩, nt1.tup.tup, Same.refl _, fun q2 H2 _ s2 nt2 hq2 => ?_⟩
      refine ⟨by show 2 ≤ sizeLine; decide, fun u4 hu4 => ?_⟩
      refine ⟨.tuple [.int 4, .int 0], .tuple [.int 4, .int 0], .tup (SqT.of (same_new hu4 _ _ hq2)) (.cons (.int _) (.cons (.int _) .nil)), .tup (SqT.of upd_same) (.cons (.int _) (.cons (.int _) .nil)), by decide, by decide, ?_⟩
      exact q _

end
set_option maxHeartbeats 40000000 in
theorem all_mk {l : PySem.W.OpenLaw} {w : World} {K : PySem.W.Frag} {h : Heap} {mg : Str → Option Value} {fa : Addr} (X : K.In h) (G : h.Ns mainGlobals mg) (hfa : mg "law" = some (.ref fa))
    {od0 an0 : Option Addr} {sl0 : Array (Option Value)} {oc0 kV0 dc0 pm0 cd0 ct0 : Value} {f0 : Addr}
    {od1 an1 : Option Addr} {sl1 : Array (Option Value)} {oc1 kV1 dc1 pm1 cd1 ct1 : Value} {f1 : Addr}
    {od2 an2 : Option Addr} {sl2 : Array (Option Value)} {oc2 kV2 dc2 pm2 cd2 ct2 : Value} {f2 : Addr}
    {od3 an3 : Option Addr} {sl3 : Array (Option Value)} {oc3 kV3 dc3 pm3 cd3 ct3 : Value} {f3 : Addr}
    {od4 an4 : Option Addr} {sl4 : Array (Option Value)} {oc4 kV4 dc4 pm4 cd4 ct4 : Value} {f4 : Addr}
    {od5 an5 : Option Addr} {sl5 : Array (Option Value)} {oc5 kV5 dc5 pm5 cd5 ct5 : Value} {f5 : Addr}
    {od6 an6 : Option Addr} {sl6 : Array (Option Value)} {oc6 kV6 dc6 pm6 cd6 ct6 : Value} {f6 : Addr}
    {od7 an7 : Option Addr} {sl7 : Array (Option Value)} {oc7 kV7 dc7 pm7 cd7 ct7 : Value} {f7 : Addr}
    {od8 an8 : Option Addr} {sl8 : Array (Option Value)} {oc8 kV8 dc8 pm8 cd8 ct8 : Value} {f8 : Addr}
    {od9 an9 : Option Addr} {sl9 : Array (Option Value)} {oc9 kV9 dc9 pm9 cd9 ct9 : Value} {f9 : Addr}
    {od10 an10 : Option Addr} {sl10 : Array (Option Value)} {oc10 kV10 dc10 pm10 cd10 ct10 : Value} {f10 : Addr}
    {od11 an11 : Option Addr} {sl11 : Array (Option Value)} {oc11 kV11 dc11 pm11 cd11 ct11 : Value} {f11 : Addr}
    {od12 an12 : Option Addr} {sl12 : Array (Option Value)} {oc12 kV12 dc12 pm12 cd12 ct12 : Value} {f12 : Addr}
    {od13 an13 : Option Addr} {sl13 : Array (Option Value)} {oc13 kV13 dc13 pm13 cd13 ct13 : Value} {f13 : Addr}
    {od14 an14 : Option Addr} {sl14 : Array (Option Value)} {oc14 kV14 dc14 pm14 cd14 ct14 : Value} {f14 : Addr}
    {od15 an15 : Option Addr} {sl15 : Array (Option Value)} {oc15 kV15 dc15 pm15 cd15 ct15 : Value} {f15 : Addr}
    {od16 an16 : Option Addr} {sl16 : Array (Option Value)} {oc16 kV16 dc16 pm16 cd16 ct16 : Value} {f16 : Addr}
    {od17 an17 : Option Addr} {sl17 : Array (Option Value)} {oc17 kV17 dc17 pm17 cd17 ct17 : Value} {f17 : Addr}
    {od18 an18 : Option Addr} {sl18 : Array (Option Value)} {oc18 kV18 dc18 pm18 cd18 ct18 : Value} {f18 : Addr}
    {od19 an19 : Option Addr} {sl19 : Array (Option Value)} {oc19 kV19 dc19 pm19 cd19 ct19 : Value} {f19 : Addr}
    {od20 an20 : Option Addr} {sl20 : Array (Option Value)} {oc20 kV20 dc20 pm20 cd20 ct20 : Value} {f20 : Addr}
    {od21 an21 : Option Addr} {sl21 : Array (Option Value)} {oc21 kV21 dc21 pm21 cd21 ct21 : Value} {f21 : Addr}
    {od22 an22 : Option Addr} {sl22 : Array (Option Value)} {oc22 kV22 dc22 pm22 cd22 ct22 : Value} {f22 : Addr}
    {od23 an23 : Option Addr} {sl23 : Array (Option Value)} {oc23 kV23 dc23 pm23 cd23 ct23 : Value} {f23 : Addr}
    {od24 an24 : Option Addr} {sl24 : Array (Option Value)} {oc24 kV24 dc24 pm24 cd24 ct24 : Value} {f24 : Addr}
    {t_MOST_DAYS : Tok}
    {t_MOST_BOTTOM : Tok}
    {t_MOST_SHIFT : Tok}
    {t_FAR : Tok}
    (a0 : PySem.W.nsIn K mainGlobals "is_from" = some (some (.ref f0))) (l0 : K.lookup f0 = some ⟨oc0, od0, .func (PySem.W.fnOf "is_from" "is_from" (defArgs s_is_from) (defBody s_is_from) (defScope s_is_from) .none kV0 dc0 pm0 an0 cd0 ct0), sl0⟩) (c0 : PySem.W.codeIn K cd0 "is_from" = true) (k0 : PySem.W.keepIn K (.ref f0) = true)
    (a1 : PySem.W.nsIn K mainGlobals "is_land" = some (some (.ref f1))) (l1 : K.lookup f1 = some ⟨oc1, od1, .func (PySem.W.fnOf "is_land" "is_land" (defArgs s_is_land) (defBody s_is_land) (defScope s_is_land) .none kV1 dc1 pm1 an1 cd1 ct1), sl1⟩) (c1 : PySem.W.codeIn K cd1 "is_land" = true) (k1 : PySem.W.keepIn K (.ref f1) = true)
    (a2 : PySem.W.nsIn K mainGlobals "need_land" = some (some (.ref f2))) (l2 : K.lookup f2 = some ⟨oc2, od2, .func (PySem.W.fnOf "need_land" "need_land" (defArgs s_need_land) (defBody s_need_land) (defScope s_need_land) .none kV2 dc2 pm2 an2 cd2 ct2), sl2⟩) (c2 : PySem.W.codeIn K cd2 "need_land" = true) (k2 : PySem.W.keepIn K (.ref f2) = true)
    (a3 : PySem.W.nsIn K mainGlobals "need_year" = some (some (.ref f3))) (l3 : K.lookup f3 = some ⟨oc3, od3, .func (PySem.W.fnOf "need_year" "need_year" (defArgs s_need_year) (defBody s_need_year) (defScope s_need_year) .none kV3 dc3 pm3 an3 cd3 ct3), sl3⟩) (c3 : PySem.W.codeIn K cd3 "need_year" = true) (k3 : PySem.W.keepIn K (.ref f3) = true)
    (a4 : PySem.W.nsIn K mainGlobals "need_day" = some (some (.ref f4))) (l4 : K.lookup f4 = some ⟨oc4, od4, .func (PySem.W.fnOf "need_day" "need_day" (defArgs s_need_day) (defBody s_need_day) (defScope s_need_day) .none kV4 dc4 pm4 an4 cd4 ct4), sl4⟩) (c4 : PySem.W.codeIn K cd4 "need_day" = true) (k4 : PySem.W.keepIn K (.ref f4) = true)
    (a5 : PySem.W.nsIn K mainGlobals "step_of" = some (some (.ref f5))) (l5 : K.lookup f5 = some ⟨oc5, od5, .func (PySem.W.fnOf "step_of" "step_of" (defArgs s_step_of) (defBody s_step_of) (defScope s_step_of) .none kV5 dc5 pm5 an5 cd5 ct5), sl5⟩) (c5 : PySem.W.codeIn K cd5 "step_of" = true) (k5 : PySem.W.keepIn K (.ref f5) = true)
    (a6 : PySem.W.nsIn K mainGlobals "first_day" = some (some (.ref f6))) (l6 : K.lookup f6 = some ⟨oc6, od6, .func (PySem.W.fnOf "first_day" "first_day" (defArgs s_first_day) (defBody s_first_day) (defScope s_first_day) .none kV6 dc6 pm6 an6 cd6 ct6), sl6⟩) (c6 : PySem.W.codeIn K cd6 "first_day" = true) (k6 : PySem.W.keepIn K (.ref f6) = true)
    (a7 : PySem.W.nsIn K mainGlobals "year_of" = some (some (.ref f7))) (l7 : K.lookup f7 = some ⟨oc7, od7, .func (PySem.W.fnOf "year_of" "year_of" (defArgs s_year_of) (defBody s_year_of) (defScope s_year_of) .none kV7 dc7 pm7 an7 cd7 ct7), sl7⟩) (c7 : PySem.W.codeIn K cd7 "year_of" = true) (k7 : PySem.W.keepIn K (.ref f7) = true)
    (a8 : PySem.W.nsIn K mainGlobals "dated" = some (some (.ref f8))) (l8 : K.lookup f8 = some ⟨oc8, od8, .func (PySem.W.fnOf "dated" "dated" (defArgs s_dated) (defBody s_dated) (defScope s_dated) .none kV8 dc8 pm8 an8 cd8 ct8), sl8⟩) (c8 : PySem.W.codeIn K cd8 "dated" = true) (k8 : PySem.W.keepIn K (.ref f8) = true)
    (a9 : PySem.W.nsIn K mainGlobals "begin" = some (some (.ref f9))) (l9 : K.lookup f9 = some ⟨oc9, od9, .func (PySem.W.fnOf "begin" "begin" (defArgs s_begin) (defBody s_begin) (defScope s_begin) .none kV9 dc9 pm9 an9 cd9 ct9), sl9⟩) (c9 : PySem.W.codeIn K cd9 "begin" = true) (k9 : PySem.W.keepIn K (.ref f9) = true)
    (a10 : PySem.W.nsIn K mainGlobals "date" = some (some (.ref f10))) (l10 : K.lookup f10 = some ⟨oc10, od10, .func (PySem.W.fnOf "date" "date" (defArgs s_date) (defBody s_date) (defScope s_date) .none kV10 dc10 pm10 an10 cd10 ct10), sl10⟩) (c10 : PySem.W.codeIn K cd10 "date" = true) (k10 : PySem.W.keepIn K (.ref f10) = true)
    (a11 : PySem.W.nsIn K mainGlobals "is_long" = some (some (.ref f11))) (l11 : K.lookup f11 = some ⟨oc11, od11, .func (PySem.W.fnOf "is_long" "is_long" (defArgs s_is_long) (defBody s_is_long) (defScope s_is_long) .none kV11 dc11 pm11 an11 cd11 ct11), sl11⟩) (c11 : PySem.W.codeIn K cd11 "is_long" = true) (k11 : PySem.W.keepIn K (.ref f11) = true)
    (a12 : PySem.W.nsIn K mainGlobals "_law_deck" = some (some (.ref f12))) (l12 : K.lookup f12 = some ⟨oc12, od12, .func (PySem.W.fnOf "_law_deck" "_law_deck" (defArgs s_law_deck) (defBody s_law_deck) (defScope s_law_deck) .none kV12 dc12 pm12 an12 cd12 ct12), sl12⟩) (c12 : PySem.W.codeIn K cd12 "_law_deck" = true) (k12 : PySem.W.keepIn K (.ref f12) = true)
    (a13 : PySem.W.nsIn K mainGlobals "_law_pick" = some (some (.ref f13))) (l13 : K.lookup f13 = some ⟨oc13, od13, .func (PySem.W.fnOf "_law_pick" "_law_pick" (defArgs s_law_pick) (defBody s_law_pick) (defScope s_law_pick) .none kV13 dc13 pm13 an13 cd13 ct13), sl13⟩) (c13 : PySem.W.codeIn K cd13 "_law_pick" = true) (k13 : PySem.W.keepIn K (.ref f13) = true)
    (a14 : PySem.W.nsIn K mainGlobals "_law_one" = some (some (.ref f14))) (l14 : K.lookup f14 = some ⟨oc14, od14, .func (PySem.W.fnOf "_law_one" "_law_one" (defArgs s_law_one) (defBody s_law_one) (defScope s_law_one) .none kV14 dc14 pm14 an14 cd14 ct14), sl14⟩) (c14 : PySem.W.codeIn K cd14 "_law_one" = true) (k14 : PySem.W.keepIn K (.ref f14) = true)
    (a15 : PySem.W.nsIn K mainGlobals "_law_sort" = some (some (.ref f15))) (l15 : K.lookup f15 = some ⟨oc15, od15, .func (PySem.W.fnOf "_law_sort" "_law_sort" (defArgs s_law_sort) (defBody s_law_sort) (defScope s_law_sort) .none kV15 dc15 pm15 an15 cd15 ct15), sl15⟩) (c15 : PySem.W.codeIn K cd15 "_law_sort" = true) (k15 : PySem.W.keepIn K (.ref f15) = true)
    (a16 : PySem.W.nsIn K mainGlobals "_law_same" = some (some (.ref f16))) (l16 : K.lookup f16 = some ⟨oc16, od16, .func (PySem.W.fnOf "_law_same" "_law_same" (defArgs s_law_same) (defBody s_law_same) (defScope s_law_same) .none kV16 dc16 pm16 an16 cd16 ct16), sl16⟩) (c16 : PySem.W.codeIn K cd16 "_law_same" = true) (k16 : PySem.W.keepIn K (.ref f16) = true)
    (a17 : PySem.W.nsIn K mainGlobals "_law_land" = some (some (.ref f17))) (l17 : K.lookup f17 = some ⟨oc17, od17, .func (PySem.W.fnOf "_law_land" "_law_land" (defArgs s_law_land) (defBody s_law_land) (defScope s_law_land) .none kV17 dc17 pm17 an17 cd17 ct17), sl17⟩) (c17 : PySem.W.codeIn K cd17 "_law_land" = true) (k17 : PySem.W.keepIn K (.ref f17) = true)
    (a18 : PySem.W.nsIn K mainGlobals "_law_any" = some (some (.ref f18))) (l18 : K.lookup f18 = some ⟨oc18, od18, .func (PySem.W.fnOf "_law_any" "_law_any" (defArgs s_law_any) (defBody s_law_any) (defScope s_law_any) .none kV18 dc18 pm18 an18 cd18 ct18), sl18⟩) (c18 : PySem.W.codeIn K cd18 "_law_any" = true) (k18 : PySem.W.keepIn K (.ref f18) = true)
    (a19 : PySem.W.nsIn K mainGlobals "_law_begin" = some (some (.ref f19))) (l19 : K.lookup f19 = some ⟨oc19, od19, .func (PySem.W.fnOf "_law_begin" "_law_begin" (defArgs s_law_begin) (defBody s_law_begin) (defScope s_law_begin) .none kV19 dc19 pm19 an19 cd19 ct19), sl19⟩) (c19 : PySem.W.codeIn K cd19 "_law_begin" = true) (k19 : PySem.W.keepIn K (.ref f19) = true)
    (a20 : PySem.W.nsIn K mainGlobals "_law_length" = some (some (.ref f20))) (l20 : K.lookup f20 = some ⟨oc20, od20, .func (PySem.W.fnOf "_law_length" "_law_length" (defArgs s_law_length) (defBody s_law_length) (defScope s_law_length) .none kV20 dc20 pm20 an20 cd20 ct20), sl20⟩) (c20 : PySem.W.codeIn K cd20 "_law_length" = true) (k20 : PySem.W.keepIn K (.ref f20) = true)
    (a21 : PySem.W.nsIn K mainGlobals "_law_far" = some (some (.ref f21))) (l21 : K.lookup f21 = some ⟨oc21, od21, .func (PySem.W.fnOf "_law_far" "_law_far" (defArgs s_law_far) (defBody s_law_far) (defScope s_law_far) .none kV21 dc21 pm21 an21 cd21 ct21), sl21⟩) (c21 : PySem.W.codeIn K cd21 "_law_far" = true) (k21 : PySem.W.keepIn K (.ref f21) = true)
    (a22 : PySem.W.nsIn K mainGlobals "_law_step" = some (some (.ref f22))) (l22 : K.lookup f22 = some ⟨oc22, od22, .func (PySem.W.fnOf "_law_step" "_law_step" (defArgs s_law_step) (defBody s_law_step) (defScope s_law_step) .none kV22 dc22 pm22 an22 cd22 ct22), sl22⟩) (c22 : PySem.W.codeIn K cd22 "_law_step" = true) (k22 : PySem.W.keepIn K (.ref f22) = true)
    (a23 : PySem.W.nsIn K mainGlobals "_law_walk_right" = some (some (.ref f23))) (l23 : K.lookup f23 = some ⟨oc23, od23, .func (PySem.W.fnOf "_law_walk_right" "_law_walk_right" (defArgs s_law_walk_right) (defBody s_law_walk_right) (defScope s_law_walk_right) .none kV23 dc23 pm23 an23 cd23 ct23), sl23⟩) (c23 : PySem.W.codeIn K cd23 "_law_walk_right" = true) (k23 : PySem.W.keepIn K (.ref f23) = true)
    (a24 : PySem.W.nsIn K mainGlobals "law" = some (some (.ref f24))) (l24 : K.lookup f24 = some ⟨oc24, od24, .func (PySem.W.fnOf "law" "law" (defArgs s_law) (defBody s_law) (defScope s_law) .none kV24 dc24 pm24 an24 cd24 ct24), sl24⟩) (c24 : PySem.W.codeIn K cd24 "law" = true) (k24 : PySem.W.keepIn K (.ref f24) = true)
    (b_bool : PySem.W.nsIn K mainGlobals "bool" = some none)
    (b_enumerate : PySem.W.nsIn K mainGlobals "enumerate" = some none)
    (b_int : PySem.W.nsIn K mainGlobals "int" = some none)
    (b_isinstance : PySem.W.nsIn K mainGlobals "isinstance" = some none)
    (b_len : PySem.W.nsIn K mainGlobals "len" = some none)
    (b_list : PySem.W.nsIn K mainGlobals "list" = some none)
    (b_range : PySem.W.nsIn K mainGlobals "range" = some none)
    (b_str : PySem.W.nsIn K mainGlobals "str" = some none)
    (b_tuple : PySem.W.nsIn K mainGlobals "tuple" = some none)
    (c_MOST_DAYS : PySem.W.nsIn K mainGlobals "MOST_DAYS" = some (some (.int 400 t_MOST_DAYS)))
    (c_MOST_BOTTOM : PySem.W.nsIn K mainGlobals "MOST_BOTTOM" = some (some (.int 60 t_MOST_BOTTOM)))
    (c_MOST_SHIFT : PySem.W.nsIn K mainGlobals "MOST_SHIFT" = some (some (.int 1000000 t_MOST_SHIFT)))
    (c_FAR : PySem.W.nsIn K mainGlobals "FAR" = some (some (.int 1000000000000000000000000000000 t_FAR))) :
    ∃ fd : FuncData, (∀ (s : Shared) (v : Value), BindsTo s fd ⟨[v], []⟩ [("script", v)]) ∧ ∀ base : Heap, K.In base → base.Ns mainGlobals mg → FnOk l.prog w K mg base CX0 7 fa fd ["script"] (sp_law K) := by
  have e := hfa.symm.trans (PySem.W.mg_of X G a24)
  cases e
  have F0 := fun_mk (st := s_is_from) l0 c0 k0
  have B0 := F0.binds (ps := ["thing", "low", "high"]) fun _ _ _ _ _ _ us hl => match us, hl with | [_, _, _], _ => rfl
  have F1 := fun_mk (st := s_is_land) l1 c1 k1
  have B1 := F1.binds (ps := ["thing"]) fun _ _ _ _ _ _ us hl => match us, hl with | [_], _ => rfl
  have F2 := fun_mk (st := s_need_land) l2 c2 k2
  have B2 := F2.binds (ps := ["land"]) fun _ _ _ _ _ _ us hl => match us, hl with | [_], _ => rfl
  have F3 := fun_mk (st := s_need_year) l3 c3 k3
  have B3 := F3.binds (ps := ["year"]) fun _ _ _ _ _ _ us hl => match us, hl with | [_], _ => rfl
  have F4 := fun_mk (st := s_need_day) l4 c4 k4
  have B4 := F4.binds (ps := ["day"]) fun _ _ _ _ _ _ us hl => match us, hl with | [_], _ => rfl
  have F5 := fun_mk (st := s_step_of) l5 c5 k5
  have B5 := F5.binds (ps := ["land"]) fun _ _ _ _ _ _ us hl => match us, hl with | [_], _ => rfl
  have F6 := fun_mk (st := s_first_day) l6 c6 k6
  have B6 := F6.binds (ps := ["land", "year"]) fun _ _ _ _ _ _ us hl => match us, hl with | [_, _], _ => rfl
  have F7 := fun_mk (st := s_year_of) l7 c7 k7
  have B7 := F7.binds (ps := ["land", "day"]) fun _ _ _ _ _ _ us hl => match us, hl with | [_, _], _ => rfl
  have F8 := fun_mk (st := s_dated) l8 c8 k8
  have B8 := F8.binds (ps := ["land", "day"]) fun _ _ _ _ _ _ us hl => match us, hl with | [_, _], _ => rfl
  have F9 := fun_mk (st := s_begin) l9 c9 k9
  have B9 := F9.binds (ps := ["land", "year"]) fun _ _ _ _ _ _ us hl => match us, hl with | [_, _], _ => rfl
  have F10 := fun_mk (st := s_date) l10 c10 k10
  have B10 := F10.binds (ps := ["land", "day"]) fun _ _ _ _ _ _ us hl => match us, hl with | [_, _], _ => rfl
  have F11 := fun_mk (st := s_is_long) l11 c11 k11
  have B11 := F11.binds (ps := ["land", "year"]) fun _ _ _ _ _ _ us hl => match us, hl with | [_, _], _ => rfl
  have F12 := fun_mk (st := s_law_deck) l12 c12 k12
  have B12 := F12.binds (ps := ["cell", "turn"]) fun _ _ _ _ _ _ us hl => match us, hl with | [_, _], _ => rfl
  have F13 := fun_mk (st := s_law_pick) l13 c13 k13
  have B13 := F13.binds (ps := ["deck", "size"]) fun _ _ _ _ _ _ us hl => match us, hl with | [_, _], _ => rfl
  have F14 := fun_mk (st := s_law_one) l14 c14 k14
  have B14 := F14.binds (ps := ["deck", "some"]) fun _ _ _ _ _ _ us hl => match us, hl with | [_, _], _ => rfl
  have F15 := fun_mk (st := s_law_sort) l15 c15 k15
  have B15 := F15.binds (ps := ["thing"]) fun _ _ _ _ _ _ us hl => match us, hl with | [_], _ => rfl
  have F16 := fun_mk (st := s_law_same) l16 c16 k16
  have B16 := F16.binds (ps := ["told", "due"]) fun _ _ _ _ _ _ us hl => match us, hl with | [_, _], _ => rfl
  have F17 := fun_mk (st := s_law_land) l17 c17 k17
  have B17 := F17.binds (ps := ["deck", "long_so", "bottoms", "shifts"]) fun _ _ _ _ _ _ us hl => match us, hl with | [_, _, _, _], _ => rfl
  have F18 := fun_mk (st := s_law_any) l18 c18 k18
  have B18 := F18.binds (ps := ["deck"]) fun _ _ _ _ _ _ us hl => match us, hl with | [_], _ => rfl
  have F19 := fun_mk (st := s_law_begin) l19 c19 k19
  have B19 := F19.binds (ps := ["land", "year"]) fun _ _ _ _ _ _ us hl => match us, hl with | [_, _], _ => rfl
  have F20 := fun_mk (st := s_law_length) l20 c20 k20
  have B20 := F20.binds (ps := ["land", "year"]) fun _ _ _ _ _ _ us hl => match us, hl with | [_, _], _ => rfl
  have F21 := fun_mk (st := s_law_far) l21 c21 k21
  have B21 := F21.binds (ps := ["deck"]) fun _ _ _ _ _ _ us hl => match us, hl with | [_], _ => rfl
  have F22 := fun_mk (st := s_law_step) l22 c22 k22
  have B22 := F22.binds (ps := ["land"]) fun _ _ _ _ _ _ us hl => match us, hl with | [_], _ => rfl
  have F23 := fun_mk (st := s_law_walk_right) l23 c23 k23
  have B23 := F23.binds (ps := ["land", "day"]) fun _ _ _ _ _ _ us hl => match us, hl with | [_, _], _ => rfl
  have F24 := fun_mk (st := s_law) l24 c24 k24
  have B24 := F24.binds (ps := ["script"]) fun _ _ _ _ _ _ us hl => match us, hl with | [_], _ => rfl
  have A : All K mg := ⟨⟨_, _, F0, PySem.W.mg_of X G a0, B0⟩, ⟨_, _, F1, PySem.W.mg_of X G a1, B1⟩, ⟨_, _, F2, PySem.W.mg_of X G a2, B2⟩, ⟨_, _, F3, PySem.W.mg_of X G a3, B3⟩, ⟨_, _, F4, PySem.W.mg_of X G a4, B4⟩, ⟨_, _, F5, PySem.W.mg_of X G a5, B5⟩, ⟨_, _, F6, PySem.W.mg_of X G a6, B6⟩, ⟨_, _, F7, PySem.W.mg_of X G a7, B7⟩, ⟨_, _, F8, PySem.W.mg_of X G a8, B8⟩, ⟨_, _, F9, PySem.W.mg_of X G a9, B9⟩, ⟨_, _, F10, PySem.W.mg_of X G a10, B10⟩, ⟨_, _, F11, PySem.W.mg_of X G a11, B11⟩, ⟨_, _, F12, PySem.W.mg_of X G a12, B12⟩, ⟨_, _, F13, PySem.W.mg_of X G a13, B13⟩, ⟨_, _, F14, PySem.W.mg_of X G a14, B14⟩, ⟨_, _, F15, PySem.W.mg_of X G a15, B15⟩, ⟨_, _, F16, PySem.W.mg_of X G a16, B16⟩, ⟨_, _, F17, PySem.W.mg_of X G a17, B17⟩, ⟨_, _, F18, PySem.W.mg_of X G a18, B18⟩, ⟨_, _, F19, PySem.W.mg_of X G a19, B19⟩, ⟨_, _, F20, PySem.W.mg_of X G a20, B20⟩, ⟨_, _, F21, PySem.W.mg_of X G a21, B21⟩, ⟨_, _, F22, PySem.W.mg_of X G a22, B22⟩, ⟨_, _, F23, PySem.W.mg_of X G a23, B23⟩, ⟨_, _, F24, PySem.W.mg_of X G a24, B24⟩, PySem.W.mg_none_of X G b_bool, PySem.W.mg_none_of X G b_enumerate, PySem.W.mg_none_of X G b_int, PySem.W.mg_none_of X G b_isinstance, PySem.W.mg_none_of X G b_len, PySem.W.mg_none_of X G b_list, PySem.W.mg_none_of X G b_range, PySem.W.mg_none_of X G b_str, PySem.W.mg_none_of X G b_tuple, ⟨_, PySem.W.mg_of X G c_MOST_DAYS⟩, ⟨_, PySem.W.mg_of X G c_MOST_BOTTOM⟩, ⟨_, PySem.W.mg_of X G c_MOST_SHIFT⟩, ⟨_, PySem.W.mg_of X G c_FAR⟩⟩
  exact ⟨_, fun s v => .of_eq rfl, fun base _ _ => ok_law A F24⟩
end K02
open PySem PySem.W PyProof.Rows
set_option maxHeartbeats 0 in
theorem PySem.Challenge.cw_longyears_k02_whole_each_day_one_date_holds : PySem.Challenge.rw_longyears_k02_whole_each_day_one_date.Holds := by
  w_on; o_law; k_head; (case hw => w_witness2)
  k_fill
  refine L2.walk_of (l := PySem.Challenge.rw_longyears_k02_whole_each_day_one_date) (n := 63) (k := 7) (x := "script") (CX := fun w => L2.CX0) (sp := fun w => K02.sp_law _) rfl (by decide) rfl ⟨rfl, by decide, by decide⟩ (fun w h Y => PySem.W.kIn_of Y) ?F (fun _ _ a ns hl hO hS => ⟨a, ns, rfl, hS, hl, Ly.NoT.of_only hO, fun _ => rfl⟩) (fun _ _ _ _ _ h => h)
  case F =>
    intro w mg fa h KX G hmg
    refine' K02.all_mk KX G hmg ?a0 ?l0 ?c0 ?k0 ?a1 ?l1 ?c1 ?k1 ?a2 ?l2 ?c2 ?k2 ?a3 ?l3 ?c3 ?k3 ?a4 ?l4 ?c4 ?k4 ?a5 ?l5 ?c5 ?k5 ?a6 ?l6 ?c6 ?k6 ?a7 ?l7 ?c7 ?k7 ?a8 ?l8 ?c8 ?k8 ?a9 ?l9 ?c9 ?k9 ?a10 ?l10 ?c10 ?k10 ?a11 ?l11 ?c11 ?k11 ?a12 ?l12 ?c12 ?k12 ?a13 ?l13 ?c13 ?k13 ?a14 ?l14 ?c14 ?k14 ?a15 ?l15 ?c15 ?k15 ?a16 ?l16 ?c16 ?k16 ?a17 ?l17 ?c17 ?k17 ?a18 ?l18 ?c18 ?k18 ?a19 ?l19 ?c19 ?k19 ?a20 ?l20 ?c20 ?k20 ?a21 ?l21 ?c21 ?k21 ?a22 ?l22 ?c22 ?k22 ?a23 ?l23 ?c23 ?k23 ?a24 ?l24 ?c24 ?k24 ?b_bool ?b_enumerate ?b_int ?b_isinstance ?b_len ?b_list ?b_range ?b_str ?b_tuple ?c_MOST_DAYS ?c_MOST_BOTTOM ?c_MOST_SHIFT ?c_FAR
    (case a0 => k_is); (case l0 => k_is); (case c0 => k_is); (case k0 => k_is); (case a1 => k_is); (case l1 => k_is); (case c1 => k_is); (case k1 => k_is); (case a2 => k_is); (case l2 => k_is); (case c2 => k_is); (case k2 => k_is); (case a3 => k_is); (case l3 => k_is); (case c3 => k_is); (case k3 => k_is); (case a4 => k_is); (case l4 => k_is); (case c4 => k_is); (case k4 => k_is); (case a5 => k_is); (case l5 => k_is); (case c5 => k_is); (case k5 => k_is); (case a6 => k_is); (case l6 => k_is); (case c6 => k_is); (case k6 => k_is); (case a7 => k_is); (case l7 => k_is); (case c7 => k_is); (case k7 => k_is); (case a8 => k_is); (case l8 => k_is); (case c8 => k_is); (case k8 => k_is); (case a9 => k_is); (case l9 => k_is); (case c9 => k_is); (case k9 => k_is); (case a10 => k_is); (case l10 => k_is); (case c10 => k_is); (case k10 => k_is); (case a11 => k_is); (case l11 => k_is); (case c11 => k_is); (case k11 => k_is); (case a12 => k_is); (case l12 => k_is); (case c12 => k_is); (case k12 => k_is); (case a13 => k_is); (case l13 => k_is); (case c13 => k_is); (case k13 => k_is); (case a14 => k_is); (case l14 => k_is); (case c14 => k_is); (case k14 => k_is); (case a15 => k_is); (case l15 => k_is); (case c15 => k_is); (case k15 => k_is); (case a16 => k_is); (case l16 => k_is); (case c16 => k_is); (case k16 => k_is); (case a17 => k_is); (case l17 => k_is); (case c17 => k_is); (case k17 => k_is); (case a18 => k_is); (case l18 => k_is); (case c18 => k_is); (case k18 => k_is); (case a19 => k_is); (case l19 => k_is); (case c19 => k_is); (case k19 => k_is); (case a20 => k_is); (case l20 => k_is); (case c20 => k_is); (case k20 => k_is); (case a21 => k_is); (case l21 => k_is); (case c21 => k_is); (case k21 => k_is); (case a22 => k_is); (case l22 => k_is); (case c22 => k_is); (case k22 => k_is); (case a23 => k_is); (case l23 => k_is); (case c23 => k_is); (case k23 => k_is); (case a24 => k_is); (case l24 => k_is); (case c24 => k_is); (case k24 => k_is); (case b_bool => k_is); (case b_enumerate => k_is); (case b_int => k_is); (case b_isinstance => k_is); (case b_len => k_is); (case b_list => k_is); (case b_range => k_is); (case b_str => k_is); (case b_tuple => k_is); (case c_MOST_DAYS => k_is); (case c_MOST_BOTTOM => k_is); (case c_MOST_SHIFT => k_is); (case c_FAR => k_is)
