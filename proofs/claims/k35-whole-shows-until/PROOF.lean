import PyProof.Rows.All
import HandS.ForMost
import KE.GoesEnum
import HandS.Star
import PyProof.StrOps2
import OpenK.KOps
import PyProof.ListNew
import HandS.Exc
import HandS.ExcInit
import KE.KExcInit
import HandS.Defaults
import HandS.MakeKwOnly
import HandS.ExcOwn
import HandS.TryMany
import HandS.Set
import HandS.Strs
import KE.SortKeyHeap
import Wide.All
import OpenK.AllK
import Wide.FinOn
import KE.KStateDown
import Lean
import HandS.Style
import HandS.Codes
import HandS.Evl
import HandS.IsInst
import HandS.Property
import HandS.ExcField
import HandS.MakeKw
import HandS.DictComp
import HandS.FStr
import HandS.SortKw
import HandS.Flow
import HandS.Deep
import HandS.WordsExc
import HandS.TryOnly
import HandS.Head0
import HandS.Head1
import HandS.Head2
import HandS.HeadEnd
import HandS.HeadHook1
import HandS.HeadHook2
import PySem.Challenge.RW_newesttells_k35_whole_shows_until
section
set_option Elab.async false
set_option linter.all false
set_option maxRecDepth 100000
set_option maxHeartbeats 4000000
namespace Nr
open PySem PySem.Spec PyProof.Rows L2
/-! ### zip and enumerate over texts and lists -/
/-- what they draw from -/
inductive Src where
  | txt (x : Str)
  | lst (a : Addr)
  | tup (a : Addr)
def Src.Is (K : PySem.W.Frag) (H : Hp) : Src → List V → Prop
  | .txt x, vs => vs = x.cps.toList.map fun c => V.str ⟨#[c]⟩
  | .lst a, vs => SqL K H a vs
  | .tup a, vs => H a = some (.tup vs)
/-- its iterator at p ahead of the i-th item -/
def Src.At (p : Addr) (i : Nat) (h : Heap) : Src → Prop
  | .txt x => ∃ t, h.IsStrIter p (strIterType x) x t i
  | .lst a => h.IsListIter p a i
  | .tup a => h.IsTupleIter p a i
def Src.OfE : V → Src → Prop
  | .str x, s => s = .txt x
  | .ref a, s => s = .lst a
  | _, _ => False
def Src.Of : V → Src → Prop
  | .str x, s => s = .txt x
  | .ref a, s => s = .lst a ∨ s = .tup a
  | _, _ => False
theorem Src.inj {X : Cx} {pins : List (Addr × Obj)} {σ : L2.St} {H : Hp} {s : Shared} (I : Inv X pins σ H s) {src : Src} {xs ys : List V} (h1 : src.Is X.K H xs) (h2 : src.Is X.K H ys) : xs = ys := by
  cases src with
  | txt x =>
    have e1 : xs = _ := h1
    have e2 : ys = _ := h2
    rw [e1, e2]
  | lst a => exact I.list_inj h1 h2
  | tup a =>
    have e1 : H a = some (.tup xs) := h1
    have e2 : H a = some (.tup ys) := h2
    rw [e1] at e2
    injection e2 with q
    injection q
theorem Src.at_keep {src : Src} {p : Addr} {i : Nat} {h h' : Heap} (st : src.At p i h) (k : ∀ o, h.get? p = some o → h'.get? p = some o) : src.At p i h' := by
  cases src with
  | txt x =>
    obtain ⟨t, o, ho, r⟩ := st
    exact ⟨t, o, k o ho, r⟩
  | lst a =>
    obtain ⟨o, ho, r⟩ := st
    exact ⟨o, k o ho, r⟩
  | tup a =>
    obtain ⟨o, ho, r⟩ := st
    exact ⟨o, k o ho, r⟩
theorem Src.at_obj {src : Src} {p : Addr} {i : Nat} {h : Heap} (st : src.At p i h) : ∃ o, h.get? p = some o ∧ ∀ v, o.data ≠ .cell v := by
  cases src with
  | txt x =>
    obtain ⟨t, o, ho, c, d⟩ := st
    exact ⟨o, ho, fun v q => by rw [d] at q; cases q⟩
  | lst a =>
    obtain ⟨o, ho, c, d⟩ := st
    exact ⟨o, ho, fun v q => by rw [d] at q; cases q⟩
  | tup a =>
    obtain ⟨o, ho, c, d⟩ := st
    exact ⟨o, ho, fun v q => by rw [d] at q; cases q⟩
theorem src_draws {X : Cx} {pins : List (Addr × Obj)} {σ : L2.St} {H : Hp} {s : Shared} (I : Inv X pins σ H s) (hc : X.calm = true) {src : Src} {p : Addr} {i : Nat} {xs : List V} (hi : src.Is X.K H xs) (hs : src.At p i s.heap) :
    ∃ (fp : List Addr) (Pv : Nat → Value → Prop) (S : Nat → Heap → Prop), Draws X.prog X.w X.A.in1 p fp xs.length Pv S ∧ p ∈ fp ∧ (∀ b ∈ fp, b = p ∨ (∃ o its n, s.heap.get? b = some o ∧ o.cls = .type "list" ∧ o.data = .seq its n) ∨ ∃ o, H b = some o) ∧
      (∀ j v, Pv j v → ∃ x, xs[j]? = some x ∧ RelV x v) ∧ S i s.heap ∧ ∀ j h, S j h → src.At p j h := by
  have hh : X.A.in1.handled = none := I.ok.hd hc
  cases src with
  | txt x =>
    have e : xs = _ := hi
    obtain ⟨t, ht⟩ := hs
    have hl : xs.length = x.cps.size := by rw [e, List.length_map, Array.length_toList]
    refine ⟨[p], fun j v => ∃ c u, x.cps[j]? = some c ∧ v = .str ⟨#[c]⟩ u, fun j h => h.IsStrIter p (strIterType x) x t j, by rw [hl]; exact Draws.text hh p x t, by simp, fun b hb => .inl (by simpa using hb), fun j v hv => ?_, ht, fun j h q => ⟨t, q⟩⟩
    obtain ⟨c, u, h1, h2⟩ := hv
    refine ⟨.str ⟨#[c]⟩, ?_, u, h2⟩
    rw [e, List.getElem?_map, Array.getElem?_toList, h1]
    rfl
  | lst a =>
    obtain ⟨its, rv, pl, hz⟩ := I.list hi
    have hl : xs.length = its.toArray.size := by rw [rv.length, List.size_toArray]
    have hne : a ≠ p := fun z => by
      obtain ⟨o, ho, c1, _⟩ := hs
      obtain ⟨o2, n2, ho2, c2, _⟩ := pl
      rw [z, ho] at ho2
      cases ho2
      rw [c1] at c2
      injection c2 with q
      exact absurd q (by decide)
    refine ⟨[p, a], fun j v => its.toArray[j]? = some v, fun j h => h.IsListIter p a j ∧ h.IsList a its.toArray, by rw [hl]; exact Draws.list hh p a hne its.toArray, by simp, fun b hb => ?_, fun j v hv => ?_, ⟨hs, pl.isList⟩, fun j h q => q.1⟩
    · have e' : b = p ∨ b = a := by simpa using hb
      rcases e' with z | z
      · exact .inl z
      · obtain ⟨o2, n2, ho2, c2, _, d2⟩ := pl
        exact .inr (.inl ⟨o2, its.toArray, n2, by rw [z]; exact ho2, c2, d2⟩)
    · have hv' : its[j]? = some v := by simpa using hv
      cases q : xs[j]? with
      | none =>
        have := rv.none_of q
        rw [this] at hv'
        cases hv'
      | some x =>
        obtain ⟨u, hu, ru⟩ := rv.get q
        rw [hu] at hv'
        cases hv'
        exact ⟨x, rfl, ru⟩
  | tup a =>
    have hT : H a = some (.tup xs) := hi
    obtain ⟨its, rv, pl, hz⟩ := I.tuple (Or.inl (Or.inl hT))
    have hl : xs.length = its.toArray.size := by rw [rv.length, List.size_toArray]
    have hne : a ≠ p := fun z => by
      obtain ⟨o, ho, c1, _⟩ := hs
      obtain ⟨o2, ho2, c2, _⟩ := pl
      rw [z, ho] at ho2
      cases ho2
      rw [c1] at c2
      injection c2 with q
      exact absurd q (by decide)
    refine ⟨[p, a], fun j v => its.toArray[j]? = some v, fun j h => h.IsTupleIter p a j ∧ h.IsTuple a its.toArray, by rw [hl]; exact Draws.tuple hh p a hne its.toArray, by simp, fun b hb => ?_, fun j v hv => ?_, ⟨hs, pl⟩, fun j h q => q.1⟩
    · have e' : b = p ∨ b = a := by simpa using hb
      rcases e' with z | z
      · exact .inl z
      · exact .inr (.inr ⟨_, by rw [z]; exact hT⟩)
    · have hv' : its[j]? = some v := by simpa using hv
      cases q : xs[j]? with
      | none =>
        have := rv.none_of q
        rw [this] at hv'
        cases hv'
      | some x =>
        obtain ⟨u, hu, ru⟩ := rv.get q
        rw [hu] at hv'
        cases hv'
        exact ⟨x, rfl, ru⟩

/-! ### zip of two -/
/-- the items in new pairs -/
def Its2 (K : PySem.W.Frag) (s1 s2 : Src) : It :=
  ⟨fun i H => ∃ (xs ys : List V) (x y : V), s1.Is K H xs ∧ s2.Is K H ys ∧ xs[i]? = some x ∧ ys[i]? = some y,
    fun i H v H' => ∃ T x y, v = .ref T ∧ H T = none ∧ H' = upd H T (.tup [x, y]) ∧ (∀ xs, s1.Is K H xs → xs[i]? = some x) ∧ ∀ ys, s2.Is K H ys → ys[i]? = some y,
    fun i H => ∃ xs ys : List V, s1.Is K H xs ∧ s2.Is K H ys ∧ i ≤ xs.length ∧ i ≤ ys.length ∧ (xs.length = i ∨ ys.length = i)⟩
/-- the zip's own objects lie apart -/
structure Five (z TI TO p q : Addr) : Prop where
  a1 : TI ≠ z
  a2 : TO ≠ z
  a3 : TI ≠ TO
  a4 : TI ≠ p
  a5 : TI ≠ q
  a6 : z ≠ p
  a7 : z ≠ q
  a8 : TO ≠ p
  a9 : TO ≠ q
  a10 : p ≠ q
theorem not_list {h : Heap} {b c : Addr} {o u : Obj} {its : Array Value} {n : Nat} (h1 : h.get? b = some o) (h2 : o.cls = .type "list") (h3 : h.get? c = some u) (h4 : u.cls ≠ .type "list") : c ≠ b := fun e => by
  rw [e, h1] at h3
  cases h3
  exact h4 h2
theorem sep_of {h : Heap} {H : Hp} {z TI TO p q : Addr} {fp1 fp2 : List Addr} {x1 x2 : Value} (D : Five z TI TO p q) (hz : IsZip h z TI TO .none) (hTO : IsTupOf2 h TO x1 x2) (m1 : p ∈ fp1) (m2 : q ∈ fp2)
    (l1 : ∀ b ∈ fp1, b = p ∨ (∃ o its n, h.get? b = some o ∧ o.cls = .type "list" ∧ o.data = .seq its n) ∨ ∃ o, H b = some o) (l2 : ∀ b ∈ fp2, b = q ∨ (∃ o its n, h.get? b = some o ∧ o.cls = .type "list" ∧ o.data = .seq its n) ∨ ∃ o, H b = some o)
    (n1 : ∃ o, h.get? p = some o ∧ o.cls ≠ .type "list") (n2 : ∃ o, h.get? q = some o ∧ o.cls ≠ .type "list") (hf : ∀ c ∈ [z, TI, TO, p, q], H c = none) : ZipSep2 z TI TO p q fp1 fp2 := by
  obtain ⟨o1, e1, c1⟩ := n1
  obtain ⟨o2, e2, c2⟩ := n2
  have nl : ∀ {b c r : Addr} {fp : List Addr} {u : Obj}, (∀ b ∈ fp, b = r ∨ (∃ o its n, h.get? b = some o ∧ o.cls = .type "list" ∧ o.data = .seq its n) ∨ ∃ o, H b = some o) → h.get? c = some u → u.cls ≠ .type "list" → c ≠ r → H c = none → c ∉ fp := by
    intro b c r fp u hl hc hu hne hno hm
    rcases hl c hm with e | ⟨o, its, n, e, k, _⟩ | ⟨o, e⟩
    · exact hne e
    · exact not_list (its := its) (n := n) e k hc hu rfl
    · rw [hno] at e
      cases e
  have cz : (Value.type "zip") ≠ .type "list" := by
    intro e
    injection e with q
    exact absurd q (by decide)
  have ct : (Value.type "tuple") ≠ .type "list" := by
    intro e
    injection e with q
    exact absurd q (by decide)
  exact { TIz := D.a1, TOz := D.a2, TITO := D.a3, TIi1 := D.a4, mem1 := m1, zf1 := nl (b := z) l1 hz cz D.a6 (hf z (by simp)), Tf1 := nl (b := z) l1 hTO ct D.a8 (hf TO (by simp)), TIi2 := D.a5, mem2 := m2,
          zf2 := nl (b := z) l2 hz cz D.a7 (hf z (by simp)), Tf2 := nl (b := z) l2 hTO ct D.a9 (hf TO (by simp)), sep1_2 := nl (b := z) l2 e1 c1 D.a10 (hf p (by simp)), sep2_1 := nl (b := z) l1 e2 c2 D.a10.symm (hf q (by simp)) }
theorem Src.at_cls {src : Src} {p : Addr} {i : Nat} {h : Heap} (st : src.At p i h) : ∃ o, h.get? p = some o ∧ o.cls ≠ .type "list" := by
  cases src with
  | txt x =>
    obtain ⟨t, o, ho, c, d⟩ := st
    refine ⟨o, ho, fun e => ?_⟩
    rw [c] at e
    injection e with q
    unfold strIterType at q
    split at q <;> exact absurd q (by decide)
  | lst a =>
    obtain ⟨o, ho, c, d⟩ := st
    refine ⟨o, ho, fun e => ?_⟩
    rw [c] at e
    injection e with q
    exact absurd q (by decide)
  | tup a =>
    obtain ⟨o, ho, c, d⟩ := st
    refine ⟨o, ho, fun e => ?_⟩
    rw [c] at e
    injection e with q
    exact absurd q (by decide)
theorem turn_zipS {P : Program} {w : World} {K : PySem.W.Frag} {elts : List Expr} {kk : Nat} {tpos : Pos} {s1 s2 : Src} {z TI TO p q : Addr} (D : Five z TI TO p q) :
    Turn P w K (.Tuple elts kk tpos) (Its2 K s1 s2) [z, TI, TO, p, q] z (fun i h => IsZip h z TI TO .none ∧ IsTupOf2 h TI (.ref p) (.ref q) ∧ (∃ x y, IsTupOf2 h TO x y) ∧ s1.At p i h ∧ s2.At q i h) where
  mem := by simp
  obj := fun i h st c hc => by
    obtain ⟨hz, hTI, ⟨x, y, hTO⟩, h1, h2⟩ := st
    have e' : c = z ∨ c = TI ∨ c = TO ∨ c = p ∨ c = q := by simpa using hc
    rcases e' with e | e | e | e | e
    · rw [e]; exact ⟨_, hz, fun v q => nomatch q⟩
    · rw [e]; exact ⟨_, hTI, fun v q => nomatch q⟩
    · rw [e]; exact ⟨_, hTO, fun v q => nomatch q⟩
    · rw [e]; exact Src.at_obj h1
    · rw [e]; exact Src.at_obj h2
  keep := fun i h h' st k => by
    obtain ⟨hz, hTI, ⟨x, y, hTO⟩, h1, h2⟩ := st
    exact ⟨k z (by simp) _ hz, k TI (by simp) _ hTI, ⟨x, y, k TO (by simp) _ hTO⟩, Src.at_keep h1 (k p (by simp)), Src.at_keep h2 (k q (by simp))⟩
  item := by
    intro X hP hw hK hc i pins s σ H E I hf st hg
    subst hP hw hK
    obtain ⟨hz, hTI, ⟨x0, y0, hTO⟩, h1, h2⟩ := st
    obtain ⟨xs, ys, x, y, hqx, hqy, hx, hy⟩ := hg
    obtain ⟨fp1, P1, S1, D1, m1, l1, v1, st1, b1⟩ := src_draws I hc hqx h1
    obtain ⟨fp2, P2, S2, D2, m2, l2, v2, st2, b2⟩ := src_draws I hc hqy h2
    have sep := sep_of D hz hTO m1 m2 l1 l2 (Src.at_cls h1) (Src.at_cls h2) (fun c hcm => (hf c hcm).1)
    have hzl : z < s.heap.objs.size := Heap.lt_size hz
    have i1 : i < xs.length := (List.getElem?_eq_some_iff.mp hx).1
    have i2 : i < ys.length := (List.getElem?_eq_some_iff.mp hy).1
    refine wpAny_pyNext_zipD2_item sep D1 D2 hz hTI hTO st1 st2 i1 i2 fun u1 u2 h' tk pu1 pu2 z' TO' st1' st2' hT hsz hk => ?_
    obtain ⟨x', hx', ru⟩ := v1 i u1 pu1
    obtain ⟨y', hy', ru2⟩ := v2 i u2 pu2
    rw [hx] at hx'
    cases hx'
    rw [hy] at hy'
    cases hy'
    have hTlt : s.heap.objs.size ≠ z := Nat.ne_of_gt hzl
    refine ⟨_, rfl, wpAny_letOwnedTupleGo_zip (s := { s with heap := h', toks := tk }) z' fun h'' z'' sb => ?_⟩
    have hT2 : h''.get? s.heap.objs.size = some { cls := .type "tuple", data := .seq #[u1, u2] } := (sb.2 _ hTlt).trans hT
    have new : ObjOk X.prog X.w (upd H s.heap.objs.size (.tup [x, y])) h'' s.heap.objs.size (.tup [x, y]) :=
      ⟨by show 2 ≤ sizeLine; decide, [u1, u2], .cons ru (.cons ru2 .nil), ⟨_, hT2, rfl, _, rfl⟩⟩
    have I1 : Inv X pins σ (upd H s.heap.objs.size (.tup [x, y])) { s with heap := h'', toks := tk } :=
      I.turnedNew (t' := tk) (ch := [z, TI, TO, p, q]) (fun c o hb e => (sb.2 c (fun e' => hb (by simp [e']))).trans (hk c o (fun e' => hb (by simp [e'])) (fun e' => hb (by simp [e'])) (fun e' => hb (by simp [e'])) (fun e' => hb (by simp [e'])) e)) hf (Nat.le_refl _) new
    refine ⟨.ref s.heap.objs.size, _, I1, rfl, ⟨_, x, y, rfl, I.hok.fresh (Nat.le_refl _), rfl, fun l hl => by rw [Src.inj I hl hqx]; exact hx, fun l hl => by rw [Src.inj I hl hqy]; exact hy⟩, ⟨z'', ?_, ⟨u1, u2, ?_⟩, ?_, ?_⟩, fun c hcm => ?_⟩
    · exact (sb.2 _ D.a1).trans (hk _ _ D.a1 D.a3 D.a4 D.a5 hTI)
    · exact (sb.2 _ D.a2).trans TO'
    · exact Src.at_keep (b1 _ _ st1') fun o e => (sb.2 _ D.a6.symm).trans e
    · exact Src.at_keep (b2 _ _ st2') fun o e => (sb.2 _ D.a7.symm).trans e
    · have hlt : c < s.heap.objs.size := by
        have e' : c = z ∨ c = TI ∨ c = TO ∨ c = p ∨ c = q := by simpa using hcm
        rcases e' with e | e | e | e | e
        · rw [e]; exact hzl
        · rw [e]; exact Heap.lt_size hTI
        · rw [e]; exact Heap.lt_size hTO
        · rw [e]; obtain ⟨_, e1, _⟩ := Src.at_obj h1; exact Heap.lt_size e1
        · rw [e]; obtain ⟨_, e2, _⟩ := Src.at_obj h2; exact Heap.lt_size e2
      rw [upd_ne (Nat.ne_of_lt hlt)]
      exact (hf c hcm).1
  done := by
    intro X hP hw hK hc i pins s σ H E I hf st hg
    subst hP hw hK
    obtain ⟨hz, hTI, ⟨x0, y0, hTO⟩, h1, h2⟩ := st
    obtain ⟨xs, ys, hqx, hqy, le1, le2, hend⟩ := hg
    obtain ⟨fp1, P1, S1, D1, m1, l1, v1, st1, b1⟩ := src_draws I hc hqx h1
    obtain ⟨fp2, P2, S2, D2, m2, l2, v2, st2, b2⟩ := src_draws I hc hqy h2
    have sep := sep_of D hz hTO m1 m2 l1 l2 (Src.at_cls h1) (Src.at_cls h2) (fun c hcm => (hf c hcm).1)
    exact wpAny_pyNext_zipD2_end sep D1 D2 hz hTI hTO st1 st2 le1 le2 (by omega) fun h' tk hk => ⟨rfl, I.turnedL (t' := tk) (ch := [z, TI, TO, p, q]) (fun c o hb e =>
      hk c o (fun e' => hb (by simp [e'])) (fun e' => hb (by simp [e'])) (fun e' => hb (by simp [e'])) (fun e' => hb (by simp [e'])) e) hf⟩
  self := fun A i s Q E st h => wpAny_pyIter_zip st.1 h
def iZipS (K : PySem.W.Frag) (ta : TA) : TI := fun σ H R => ta σ H fun vs H1 => ∃ v1 v2 s1 s2, vs = [v1, v2] ∧ Src.Of v1 s1 ∧ Src.Of v2 s2 ∧ (∃ xs, s1.Is K H1 xs) ∧ (∃ ys, s2.Is K H1 ys) ∧ R (Its2 K s1 s2) H1
/-- how such an iterator begins -/
theorem src_begins {X : Cx} {pins : List (Addr × Obj)} {σ : L2.St} {H : Hp} {s : Shared} (I : Inv X pins σ H s) {src : Src} {v : V} {u : Value} {xs : List V} (ho : Src.Of v src) (r : RelV v u) (hi : src.Is X.K H xs) :
    ∃ (o : Obj) (F : Heap → Prop), Begins u o F ∧ F s.heap ∧ ∀ h p, h.get? p = some o → src.At p 0 h := by
  cases v with
  | str x =>
    have e : src = .txt x := ho
    subst e
    obtain ⟨t, rfl⟩ := r
    exact ⟨_, _, begins_text x t, trivial, fun h p e => ⟨t, _, e, rfl, rfl⟩⟩
  | ref a =>
    have e : src = .lst a ∨ src = .tup a := ho
    obtain rfl : u = Value.ref a := r
    rcases e with e | e
    · subst e
      obtain ⟨its, rv, pl, hz⟩ := I.list hi
      exact ⟨_, _, begins_list a its.toArray, pl.isList, fun h p e => ⟨_, e, rfl, rfl⟩⟩
    · subst e
      have hT : H a = some (.tup xs) := hi
      obtain ⟨its, rv, pl, hz⟩ := I.tuple (Or.inl (Or.inl hT))
      exact ⟨_, _, begins_tuple a its.toArray, pl, fun h p e => ⟨_, e, rfl, rfl⟩⟩
  | _ => exact (ho : False).elim
theorem pi_zipS {X : Cx} {e e2 : Expr} {ta : TA} {p pos tpos : Pos} {elts : List Expr} {kk : Nat} (hg : Gl X "zip") (hm : X.mg "zip" = none) (ha : PA X [e, e2] ta)
    (hs : starEach [e, e2] X.env = (false, eval e X.env) :: starEach [e2] X.env := by rfl) (hpl : (backTo pos (starEach [e2] X.env)).any (·.1) = false := by rfl) :
    PI X (.Tuple elts kk tpos) (.Call (.Name "zip" p) [e, e2] [] pos) (iZipS X.K ta) := by
  refine ⟨fun pins s σ H R I h => ?_⟩
  refine Call_ (ld_blt I hg hm PyProof.Rows.boot_zip (PyProof.Rows.callWith_type1 (thn (ha.run pos pins s σ H _ I h) fun us s1 ⟨vs, H1, I1, r1, q1⟩ => ?_) hs hpl))
  obtain ⟨v1, v2, src1, src2, ex, o1, o2, ⟨xs, hx⟩, ⟨ys, hy⟩, q⟩ := q1
  subst ex
  cases r1 with
  | cons r rr =>
    cases rr with
    | cons r' rr =>
      cases rr
      obtain ⟨b1, F1, B1, f1, a1⟩ := src_begins I1 o1 r hx
      obtain ⟨b2, F2, B2, f2, a2⟩ := src_begins I1 o2 r' hy
      refine zip_begins2 B1 B2 f1 f2 fun h' hz hTI hTO g1 g2 hsz hk => wpAny_pyIter_zip hz ?_
      have I2 : Inv X pins σ H1 { s1 with heap := h' } := I1.kept (t' := s1.toks) hk
      have five : ∀ n : Nat, Five (n + 4) (n + 2) (n + 3) n (n + 1) := fun n =>
        ⟨show (n + 2 : Nat) ≠ n + 4 by omega, show (n + 3 : Nat) ≠ n + 4 by omega, show (n + 2 : Nat) ≠ n + 3 by omega, show (n + 2 : Nat) ≠ n by omega, show (n + 2 : Nat) ≠ n + 1 by omega,
          show (n + 4 : Nat) ≠ n by omega, show (n + 4 : Nat) ≠ n + 1 by omega, show (n + 3 : Nat) ≠ n by omega, show (n + 3 : Nat) ≠ n + 1 by omega, show (n : Nat) ≠ n + 1 by omega⟩
      refine ⟨s1.heap.objs.size + 4, [s1.heap.objs.size + 4, s1.heap.objs.size + 2, s1.heap.objs.size + 3, s1.heap.objs.size, s1.heap.objs.size + 1], _, _, H1, rfl, I2, turn_zipS (s1 := src1) (s2 := src2) (five s1.heap.objs.size), ⟨hz, hTI, ⟨_, _, hTO⟩, a1 _ _ g1, a2 _ _ g2⟩, fun c hcm => ?_, q⟩
      have e' : c = s1.heap.objs.size + 4 ∨ c = s1.heap.objs.size + 2 ∨ c = s1.heap.objs.size + 3 ∨ c = s1.heap.objs.size ∨ c = s1.heap.objs.size + 1 := by simpa using hcm
      have hle : s1.heap.objs.size ≤ c := by
        rcases e' with z | z | z | z | z
        · rw [z]; exact Nat.le_add_right _ _
        · rw [z]; exact Nat.le_add_right _ _
        · rw [z]; exact Nat.le_add_right _ _
        · rw [z]; exact Nat.le_refl _
        · rw [z]; exact Nat.le_add_right _ _
      exact I1.fpOk hle (I1.hok.fresh hle)

/-! ### enumerate -/
def Ie (K : PySem.W.Frag) (s1 : Src) : It :=
  ⟨fun i H => ∃ (xs : List V) (x : V), s1.Is K H xs ∧ xs[i]? = some x, fun i H v H' => ∃ T x, v = .ref T ∧ H T = none ∧ H' = upd H T (.tup [.int (i : Nat), x]) ∧ ∀ xs, s1.Is K H xs → xs[i]? = some x, fun i H => ∃ xs : List V, s1.Is K H xs ∧ xs.length = i⟩
theorem turn_enumS {P : Program} {w : World} {K : PySem.W.Frag} {elts : List Expr} {kk : Nat} {tpos : Pos} {s1 : Src} {e p : Addr} (hep : e ≠ p) :
    Turn P w K (.Tuple elts kk tpos) (Ie K s1) [e, p] e (fun i h => (∃ old, IsEnum h e p (0 + (i : Int)) old) ∧ s1.At p i h) where
  mem := by simp
  obj := fun i h st b hb => by
    obtain ⟨⟨old, he⟩, h1⟩ := st
    have e' : b = e ∨ b = p := by simpa using hb
    rcases e' with z | z
    · rw [z]; exact ⟨_, he, fun v q => nomatch q⟩
    · rw [z]; exact Src.at_obj h1
  keep := fun i h h' st k => by
    obtain ⟨⟨old, he⟩, h1⟩ := st
    exact ⟨⟨old, k e (by simp) _ he⟩, Src.at_keep h1 (k p (by simp))⟩
  item := by
    intro X hP hw hK hc i pins s σ H E I hf st hg
    subst hP hw hK
    obtain ⟨⟨old, he⟩, h1⟩ := st
    obtain ⟨xs, x, hqx, hx⟩ := hg
    obtain ⟨fp1, P1, S1, D1, m1, l1, v1, st1, b1⟩ := src_draws I hc hqx h1
    have i1 : i < xs.length := (List.getElem?_eq_some_iff.mp hx).1
    have hel : e < s.heap.objs.size := Heap.lt_size he
    have hef : e ∉ fp1 := fun hm => by
      rcases l1 e hm with z | ⟨o, its, n, g, k, _⟩ | ⟨o, g⟩
      · exact hep z
      rotate_left
      · rw [(hf e (by simp)).1] at g
        cases g
      · rw [he] at g
        cases g
        have k2 : (Value.type "enumerate") = .type "list" := k
        injection k2 with q
        exact absurd q (by decide)
    refine wpAny_pyNext_enum_itemC D1 he st1 i1 hep hef fun u h' tk pu ho st1' hT hsz hk => ?_
    obtain ⟨x', hx', ru⟩ := v1 i u pu
    rw [hx] at hx'
    cases hx'
    refine ⟨_, rfl, wpAny_letOwnedTupleGo_enum (s := { s with heap := h', toks := tk + 1 }) ho fun h'' he' sb => ?_⟩
    have ei : (0 : Int) + (i : Int) = ((i : Nat) : Int) := Int.zero_add _
    have hT2 : h''.get? s.heap.objs.size = some { cls := .type "tuple", data := .seq #[.int (0 + (i : Int)) tk, u] } := (sb.2 _ (Nat.ne_of_gt hel)).trans hT
    rw [ei] at hT2
    have new : ObjOk X.prog X.w (upd H s.heap.objs.size (.tup [.int (i : Nat), x])) h'' s.heap.objs.size (.tup [.int (i : Nat), x]) :=
      ⟨by show 2 ≤ sizeLine; decide, [.int i tk, u], .cons ⟨_, rfl⟩ (.cons ru .nil), ⟨_, hT2, rfl, _, rfl⟩⟩
    have I1 : Inv X pins σ (upd H s.heap.objs.size (.tup [.int (i : Nat), x])) { s with heap := h'', toks := tk + 1 } :=
      I.turnedNew (t' := tk + 1) (ch := [e, p]) (fun b ob hb q => (sb.2 b (fun z => hb (by simp [z]))).trans (hk b ob (fun z => hb (by simp [z])) (fun z => hb (by simp [z])) q)) hf (Nat.le_refl _) new
    refine ⟨.ref s.heap.objs.size, _, I1, rfl, ⟨_, x, rfl, I.hok.fresh (Nat.le_refl _), rfl, fun l hl => by rw [Src.inj I hl hqx]; exact hx⟩, ⟨⟨u, ?_⟩, ?_⟩, fun c hcm => ?_⟩
    · have e1 : (0 : Int) + ((i + 1 : Nat) : Int) = 0 + (i : Int) + 1 := by omega
      rw [e1]
      exact he'
    · exact Src.at_keep (b1 _ _ st1') fun o q => (sb.2 _ hep.symm).trans q
    · have hlt : c < s.heap.objs.size := by
        have e' : c = e ∨ c = p := by simpa using hcm
        rcases e' with z | z
        · rw [z]; exact hel
        · rw [z]; obtain ⟨_, e2, _⟩ := Src.at_obj h1; exact Heap.lt_size e2
      rw [upd_ne (Nat.ne_of_lt hlt)]
      exact (hf c hcm).1
  done := by
    intro X hP hw hK hc i pins s σ H E I hf st hg
    subst hP hw hK
    obtain ⟨⟨old, he⟩, h1⟩ := st
    obtain ⟨xs, hqx, hl⟩ := hg
    obtain ⟨fp1, P1, S1, D1, m1, l1, v1, st1, b1⟩ := src_draws I hc hqx h1
    rw [← hl] at he st1
    exact wpAny_pyNext_enum_endD D1 he st1 fun h' hx => ⟨rfl, I.turnedL (t' := s.toks) (ch := [e, p]) (fun b o hb q => hx b o (fun z => hb (by simp [z])) q) hf⟩
  self := fun A i s Q E st h => by
    obtain ⟨⟨old, he⟩, _⟩ := st
    exact wpAny_pyIter_enum he h
theorem enum_starts {X : Cx} {pins : List (Addr × Obj)} {σ : L2.St} {H : Hp} {s : Shared} (I : Inv X pins σ H s) {src : Src} {v : V} {u : Value} {xs : List V} {A : Around} {E : Value → Shared → Prop} {Q : Value → Shared → Prop} (ho : Src.OfE v src) (r : RelV v u) (hi : src.Is X.K H xs)
    (h : ∀ h', IsEnum h' (s.heap.objs.size + 1) s.heap.objs.size 0 .none → src.At s.heap.objs.size 0 h' → (∀ b o, s.heap.get? b = some o → h'.get? b = some o) → Q (.ref (s.heap.objs.size + 1)) { s with heap := h' }) :
    wpAny (model X.prog X.w) A (call (.type "enumerate") [u]) Q E s := by
  cases v with
  | str x =>
    have e : src = .txt x := ho
    subst e
    obtain ⟨t, rfl⟩ := r
    exact call_enumerate_str fun h' he g _ hk => h h' he ⟨t, g⟩ hk
  | ref a =>
    have e : src = .lst a := ho
    subst e
    obtain rfl : u = Value.ref a := r
    obtain ⟨its, rv, pl, hz⟩ := I.list hi
    exact call_enumerate_list pl.isList fun h' he g _ hk => h h' he g hk
  | _ => exact (ho : False).elim
def iEnumS (K : PySem.W.Frag) (ta : TA) : TI := fun σ H R => ta σ H fun vs H1 => ∃ v1 s1, vs = [v1] ∧ Src.OfE v1 s1 ∧ (∃ xs, s1.Is K H1 xs) ∧ R (Ie K s1) H1
theorem pi_enumS {X : Cx} {e : Expr} {ta : TA} {p pos tpos : Pos} {elts : List Expr} {kk : Nat} (hg : Gl X "enumerate") (hm : X.mg "enumerate" = none) (ha : PA X [e] ta) (hs : starEach [e] X.env = [(false, eval e X.env)] := by rfl) :
    PI X (.Tuple elts kk tpos) (.Call (.Name "enumerate" p) [e] [] pos) (iEnumS X.K ta) := by
  refine ⟨fun pins s σ H R I h => ?_⟩
  refine Call_ (ld_blt I hg hm boot_enumerate (PyProof.Rows.callWith_type1 (thn (ha.run pos pins s σ H _ I h) fun us s1 ⟨vs, H1, I1, r1, q1⟩ => ?_) hs rfl))
  obtain ⟨v1, src1, ex, o1, ⟨xs, hx⟩, q⟩ := q1
  subst ex
  cases r1 with
  | cons r rr =>
    cases rr
    refine enum_starts I1 o1 r hx fun h' he g1 hk => wpAny_pyIter_enum he ?_
    have I2 : Inv X pins σ H1 { s1 with heap := h' } := I1.kept (t' := s1.toks) hk
    refine ⟨s1.heap.objs.size + 1, [s1.heap.objs.size + 1, s1.heap.objs.size], _, _, H1, rfl, I2, turn_enumS (s1 := src1) (Nat.succ_ne_self _), ⟨⟨_, he⟩, g1⟩, fun c hcm => ?_, q⟩
    have e' : c = s1.heap.objs.size + 1 ∨ c = s1.heap.objs.size := by simpa using hcm
    have hle : s1.heap.objs.size ≤ c := by
      rcases e' with z | z
      · rw [z]; exact Nat.le_add_right _ _
      · rw [z]; exact Nat.le_refl _
    exact I1.fpOk hle (I1.hok.fresh hle)
end Nr
end
section
set_option Elab.async false
set_option linter.all false
set_option maxRecDepth 100000
set_option maxHeartbeats 4000000
namespace Nr
open PySem PySem.Spec PyProof.Rows L2
/-! ### a text times a number -/
theorem fold_rep (c : Nat) : ∀ (n : Nat) (acc : Array Nat), (List.replicate n (#[c] : Array Nat)).foldl (· ++ ·) acc = acc ++ (List.replicate n c).toArray
  | 0, acc => by simp
  | n + 1, acc => by
    rw [List.replicate_succ, List.foldl_cons, fold_rep c n, List.replicate_succ]
    apply Array.ext'
    simp
def rMulS : R2 := fun x y H Q => ∃ (c : Nat) (n : Int), x = .str ⟨#[c]⟩ ∧ y = .int n ∧ 1 ≤ n ∧ n ≤ 1000 ∧ Q (.str ⟨(List.replicate n.toNat c).toArray⟩) H
theorem op_mulS {X : Cx} : OpR X (binaryOp .Mult) rMulS := by
  intro pins s σ H x y v u Q I rx ry h
  obtain ⟨c, n, rfl, rfl, h1, h2, q⟩ := h
  obtain ⟨t, rfl⟩ := rx
  obtain ⟨t', rfl⟩ := ry
  have hl : (⟨#[c]⟩ : Str).length = 1 := rfl
  refine PySem.P.mul_str ?_ (fun _ _ => ?_) (fun _ _ => ?_) ?_
  · rw [decide_eq_false (by omega), decide_eq_false (by omega)]
    rfl
  · rw [hl]
    have k1 : n * 1 ≤ 2 ^ 63 - 1 := by omega
    have k2 := (Int.le_ediv_iff_mul_le (a := 1) (b := 2 ^ 63 - 1) (c := n) (by omega)).mpr (by omega)
    show ¬ ((1 : Int) > (2 ^ 63 - 1) / n)
    omega
  · rw [hl, Nat.one_mul]
    have e : n.toNat ≤ 1000 := by omega
    have z : 1000 ≤ sizeLine := by decide
    exact decide_eq_false (by omega)
  · rw [if_neg (by omega)]
    by_cases e : n = 1
    · subst e
      rw [if_pos (by rfl)]
      exact ⟨.str ⟨#[c]⟩, H, I, ⟨_, rfl⟩, q⟩
    · have f : (n == 1 || (⟨#[c]⟩ : Str).length == 0) = false := by
        rw [hl]
        simpa using e
      rw [f, if_neg Bool.false_ne_true]
      have g : (List.replicate n.toNat (⟨#[c]⟩ : Str).cps).foldl (· ++ ·) #[] = (List.replicate n.toNat c).toArray := by
        rw [fold_rep c]
        simp
      show ((⟨(List.replicate n.toNat (⟨#[c]⟩ : Str).cps).foldl (· ++ ·) #[]⟩ : Str).length ≤ sizeLine) ∧ _
      rw [g]
      refine ⟨?_, .str ⟨(List.replicate n.toNat c).toArray⟩, H, I.tok _, ⟨_, rfl⟩, q⟩
      show (List.replicate n.toNat c).toArray.size ≤ sizeLine
      have z : 1000 ≤ sizeLine := by decide
      rw [List.size_toArray, List.length_replicate]
      omega
/-! ### len, repr, bool of an instance by its own def -/
section
variable {X : Cx} {CX : CXT} {C g dx a : Addr} {fd : FuncData} {ps : List Str} {n : Nat} {sp : Sp} {E : XK} {ds : List Value} {dvs : List V} {fs : List (Str × V)}
theorem run_below {A : Around} {pins : List (Addr × Obj)} {σ : L2.St} {H : Hp} {s : Shared} {Q : VK} (F : FnOk X.prog X.w X.K X.mg X.base CX n g fd ps sp) (hr : Room n A) (e0 : Env0 X.prog X.w X.K X.mg X.base A X.stack s H) (hb : Binds X.K fd ps []) (hx : Passes CX X E) (I : Inv X pins σ H s)
    (h : sp [.ref a] H Q E) : wpAny (model X.prog X.w) A (call (.ref g) [.ref a]) (EP X pins σ Q) X.xe s := by
  have hl : ([Value.ref a] ++ []).length = ps.length := (F.len _ _ _ _ h)
  refine wpAny_call (codeAny_mono (F.run A X.stack s H ⟨[Value.ref a], []⟩ [Value.ref a] [V.ref a] Q E hr e0 (hb s [Value.ref a] I.kIn hl) (.cons (show RelV (V.ref a) (Value.ref a) from rfl) .nil) h) fun r s' hq => ?_)
  cases r with
  | error e => exact hx pins σ H s e s' I hq
  | ok fl =>
    cases fl with
    | ret u => exact I.after hq
    | next => exact False.elim hq
    | brk => exact False.elim hq
    | cont => exact False.elim hq
theorem inst_at {pins : List (Addr × Obj)} {σ : L2.St} {H : Hp} {s : Shared} (I : Inv X pins σ H s) (ea : H a = some (.ins C dx fs)) : ∃ ox od, PySem.W.InstAt s.heap a ox C od := by
  obtain ⟨mA, O, _, _, _, _⟩ := ins_get I.hok ea
  obtain ⟨od, J, _⟩ := O.look
  exact ⟨_, _, J⟩
def rLenO (C : Addr) (sp : Sp) (E : XK) : List V → Hp → VK → Prop := fun xs H Q => ∃ a dx fs, xs = [V.ref a] ∧ H a = some (.ins C dx fs) ∧ sp [.ref a] H (fun z H' => ∃ i, z = .int i ∧ (0 ≤ i ∧ i < 2 ^ 63) ∧ Q (.int i) H') E
theorem call_lenO (hs : PySem.W.findIn X.K (.ref C) "__len__" = some (some (.ref g))) (hf : PySem.W.isFn X.K (.ref g) = true) (F : FnOk X.prog X.w X.K X.mg X.base CX n g fd ps sp) (hr : Room (n + 1) X.A) (hb : Binds X.K fd ps []) (hx : Passes CX X E) : CallR X (.builtin "len") (rLenO C sp E) := by
  intro pins s σ H xs us Q I r h
  obtain ⟨a, dx, fs, rfl, ea, q⟩ := h
  obtain ⟨u, rfl, ru⟩ := r.one
  cases (show u = Value.ref a from ru)
  obtain ⟨ox, od, J⟩ := inst_at I ea
  obtain ⟨m, hF⟩ := I.fr
  refine PySem.W.len_K hF I.ok.mod.kin J hs hf (wpAny_mono (run_below F hr.in1 I.env0.in1 hb hx I q) (fun w s' z => ?_) fun _ _ x => x)
  obtain ⟨z', H', I', rz, i, ei, hi, qz⟩ := z
  subst ei
  obtain ⟨t, e⟩ := (show ∃ t, w = Value.int i t from rz)
  subst e
  exact ⟨hi, .int i, H', I'.tok _, ⟨_, rfl⟩, qz⟩
def rReprO (C : Addr) (sp : Sp) (E : XK) : List V → Hp → VK → Prop := fun xs H Q => ∃ a dx fs, xs = [V.ref a] ∧ H a = some (.ins C dx fs) ∧ sp [.ref a] H (fun z H' => ∃ i, z = .str i ∧ Q (.str i) H') E
theorem call_reprO (hs : PySem.W.findIn X.K (.ref C) "__repr__" = some (some (.ref g))) (hf : PySem.W.isFn X.K (.ref g) = true) (F : FnOk X.prog X.w X.K X.mg X.base CX n g fd ps sp) (hr : Room (n + 1) X.A) (hb : Binds X.K fd ps []) (hx : Passes CX X E) : CallR X (.builtin "repr") (rReprO C sp E) := by
  intro pins s σ H xs us Q I r h
  obtain ⟨a, dx, fs, rfl, ea, q⟩ := h
  obtain ⟨u, rfl, ru⟩ := r.one
  cases (show u = Value.ref a from ru)
  obtain ⟨ox, od, J⟩ := inst_at I ea
  obtain ⟨m, hF⟩ := I.fr
  refine PySem.W.repr_K (by have := hr.un; show X.A.units + 1 < cLine; omega) hF I.ok.mod.kin J hs hf (wpAny_mono (run_below F hr.in1 I.env0.in1 hb hx I q) (fun w s' z => ?_) fun _ _ x => x)
  obtain ⟨z', H', I', rz, i, ei, qz⟩ := z
  subst ei
  obtain ⟨t, e⟩ := (show ∃ t, w = Value.str i t from rz)
  subst e
  exact ⟨.str i, H', I', ⟨_, rfl⟩, qz⟩
def rBoolO (C : Addr) (sp : Sp) (E : XK) : List V → Hp → VK → Prop := fun xs H Q => ∃ a dx fs, xs = [V.ref a] ∧ H a = some (.ins C dx fs) ∧ sp [.ref a] H (fun z H' => ∃ i, z = .bl i ∧ Q (.bl i) H') E
theorem bool_own {prog : Program} {w : World} {A : Around} {E : Value → Shared → Prop} {s : Shared} {x f : Addr} {K : PySem.W.Frag} {h₀ : Heap} {L : Addr} {m : Str → Option Value} {ox : Obj} {od : Option Obj} {Q : Value → Shared → Prop} (F : Fr h₀ L s.heap m) (X₀ : K.In h₀) (I : PySem.W.InstAt s.heap x ox C od)
    (hs : PySem.W.findIn K (.ref C) "__bool__" = some (some (.ref f))) (hf : PySem.W.isFn K (.ref f) = true) (h : wpAny (model prog w) A.in1.in1 (call (.ref f) [.ref x]) (fun r s1 => ∃ b, r = Value.bool b ∧ Q r s1) E s) : wpAny (model prog w) A (call (.type "bool") [.ref x]) Q E s := by
  refine callType_codes (T := "bool") (Bi := Builtin.«object.__init__») (Q₁ := fun r s1 => ∃ b, r = Value.bool b ∧ Q r s1) PySem.F.called_bool (PySem.F.typeCall_bool_1 _) PySem.F.entry_object_init ?_ ?_
  · refine codeAny_of_tree ?_
    show wpAny _ A.in1.in1 (do checkBuiltinCall "bool.__new__" ⟨[.type "bool", .ref x], []⟩; again (.builtin "bool.__new__" ⟨[.type "bool", .ref x], []⟩)) _ _ s
    refine wpAny_bind (wpAny_of_eq (PySem.F.newCall_bool_1 _) (wpAny_pure ⟨plainId_quiet (by decide +kernel) _, codeAny_builtin PySem.F.entry_bool_new ?_⟩))
    rw [Around.under_plainId (by decide +kernel) _]
    unfold Builtin.«bool.__new__»
    refine wpAny_bind (wpAny_of_eq (a := true) (by kernel_rfl) ?_)
    refine PySem.W.KFB.if_not rfl ?_
    refine wpAny_bind (wpAny_of_eq (a := true) PySem.F.conv_sub_bool ?_)
    refine PySem.W.KFB.if_not rfl ?_
    refine wpAny_bind (wpAny_of_eq (a := [Value.ref x]) (by kernel_rfl) ?_)
    refine wpAny_bind (PySem.W.truthy_K F X₀ I hs hf (wpAny_mono h (fun r s1 hr => ?_) fun _ _ y => y))
    obtain ⟨b, rfl, hq⟩ := hr
    exact wpAny_pure ⟨b, rfl, hq⟩
  · rintro obj s1 ⟨b, rfl, hq⟩
    exact ⟨PySem.typeIs_bool _ _, PySem.F.args_object_init_2 _ _, object_init_meets PySem.F.called_bool.init.lookup PySem.F.called_bool.made (by decide) prog w A.in1 _ s1 ⟨PySem.typeIs_bool _ _, rfl, hq⟩⟩
theorem call_boolO (hs : PySem.W.findIn X.K (.ref C) "__bool__" = some (some (.ref g))) (hf : PySem.W.isFn X.K (.ref g) = true) (F : FnOk X.prog X.w X.K X.mg X.base CX n g fd ps sp) (hr : Room (n + 2) X.A) (hb : Binds X.K fd ps []) (hx : Passes CX X E) : CallR X (.type "bool") (rBoolO C sp E) := by
  intro pins s σ H xs us Q I r h
  obtain ⟨a, dx, fs, rfl, ea, q⟩ := h
  obtain ⟨u, rfl, ru⟩ := r.one
  cases (show u = Value.ref a from ru)
  obtain ⟨ox, od, J⟩ := inst_at I ea
  obtain ⟨m, hF⟩ := I.fr
  have hr2 : Room n X.A.in1.in1 := (show Room (n + 1) X.A.in1 from Room.in1 hr).in1
  refine bool_own hF I.ok.mod.kin J hs hf (wpAny_mono (run_below F hr2 I.env0.in1.in1 hb hx I q) (fun w s' z => ?_) fun _ _ x => x)
  obtain ⟨z', H', I', rz, i, ei, qz⟩ := z
  subst ei
  cases (show w = Value.bool i from rz)
  exact ⟨i, rfl, .bl i, H', I', rfl, qz⟩
end
end Nr
end
section
set_option Elab.async false
set_option linter.all false
set_option maxRecDepth 100000
set_option maxHeartbeats 4000000
/-! own exceptions over LookupError with an own __init__ -/
namespace PySem
namespace LEX
open PySem.W PySem.Calls PyProof.Rows PySem.HandSPX Builtin Builtin.ObjectAttr
def leTail : List Value := [.type "LookupError", .type "Exception", .type "BaseException", .type "object"]
def refsLE : List Value → Bool
  | .ref _ :: r => refsLE r
  | l => l == leTail
theorem refsLE_cases (l : List Value) (e : refsLE l = true) : (∃ c r, l = .ref c :: r ∧ refsLE r = true) ∨ l = leTail := by
  unfold refsLE at e
  split at e
  · exact .inl ⟨_, _, rfl, e⟩
  · exact .inr (beq_iff_eq.mp e)
theorem refsLE_pass (self : Value) : ∀ l : List Value, refsLE l = true → refuseLoop self "__setattr__" l = pure ()
  | [], e => absurd e (by decide)
  | a :: r, e => by
    rcases refsLE_cases (a :: r) e with ⟨c, r', q, h⟩ | q
    · obtain ⟨rfl, rfl⟩ := List.cons.inj q
      rw [refuseLoop_ref]
      exact refsLE_pass self r h
    · rw [q]
      exact F.store_LookupError.passes self
theorem refsLE_has (X : String) : ∀ l : List Value, refsLE l = true → l.contains (.type X) = leTail.contains (.type X)
  | [], e => absurd e (by decide)
  | a :: r, e => by
    rcases refsLE_cases (a :: r) e with ⟨c, r', q, h⟩ | q
    · obtain ⟨rfl, rfl⟩ := List.cons.inj q
      rw [List.contains_cons, refsLE_has X r h]
      rfl
    · rw [q]
theorem refsLE_ne {l : List Value} (e : refsLE l = true) : l.isEmpty = false := by
  cases l with
  | nil => exact absurd e (by decide)
  | cons _ _ => rfl
section
variable {prog : Program} {w : World} {A : Around} {E : Value → Shared → Prop} {R : Result → Shared → Prop} {hp : Heap} {g : Array GenState} {d : Drawn} {t : Nat} {os : OsState}
theorem exc_osaL {K : W.Frag} {name : Str} {tk : Tok} {v : Value} {x C : Addr} {fv : Array Value} {cd : ClassData}
    (X : K.In hp) (hx : hp.get? x = some { cls := .ref C, data := .fields fv }) (hcd : W.clsIn K C = some cd) (hm : refsLE cd.mro = true) (hh : cd.hasDict = true) (ha : W.findIn K (.ref C) name = some none)
    (hq : ∀ h' tk' dx, (∀ b o, b ≠ x → hp.get? b = some o → h'.get? b = some o) → hp.objs.size ≤ dx → dx ≠ x → h'.get? x = some { cls := .ref C, dict := some dx, data := .fields fv } →
      h'.Ns1 dx (fun y => if y = name then some v else none) → R (.ok (.ret .none)) ⟨h', g, d, tk', os⟩) :
    codeAny (model prog w) A (.call (.builtin "object.__setattr__") ⟨[.ref x, .str name tk, v], []⟩) R ⟨hp, g, d, t, os⟩ := by
  have I : W.InstAt hp x { cls := .ref C, data := .fields fv } C none := ⟨hx, rfl, rfl, trivial⟩
  have SF := F.store_object
  have ne := refsLE_ne hm
  have hob : cd.mro.contains (.type "object") = true := (refsLE_has "object" _ hm).trans (by decide +kernel)
  have hxs : x ≠ hp.objs.size := Nat.ne_of_lt (Heap.lt_size hx)
  have sub : W.Looks (model prog w) hp (isInstance (.ref x) (.type "object")) true := I.type.andThen (W.looks_mroIn X (by unfold W.mroIn; rw [hcd, Option.bind_some, if_neg (by rw [ne]; decide), hob]))
  refine codeAny_call_builtin SF.slot.plain SF.entry (@W.check_slot (model prog w) _ _ ⟨hp, g, d, t, os⟩ "object.__setattr__" "object" "__setattr__" (.ref x) [.str name tk, v] [] _ SF.kind SF.split sub (SF.args (.ref x) (.str name tk) v) ?_)
  have hmr : W.Looks (model prog w) hp (mroOf (.ref C)) cd.mro := (W.looks_clsIn X hcd).andThen .now
  have L3 : W.Looks (model prog w) hp (storeTaker? none) none := .now
  have hcls : W.Looks (model prog w) hp (classData C) cd := W.looks_clsIn X hcd
  rw [W.osa_eq, refuse_eq]
  refine wpAny_bind (wpAny_bind (I.type.at (wpAny_bind (hmr.at ?_))))
  rw [refsLE_pass _ _ hm]
  refine wpAny_pure (wpAny_bind (I.type.at (wpAny_bind ((W.looks_findIn X ha).at (wpAny_bind (L3.at ?_))))))
  show wpAny _ _ (storeInOwnDict (.ref x) (.ref C) (.str name tk) name v false) _ _ _
  obtain ⟨nm, bs, mro, ns, qn, hd, sn, sb, ab, col, del⟩ := cd
  dsimp only at hh
  subst hh
  unfold storeInOwnDict ownDictForStores
  repeat (first | with_reducible refine store_in_new ?_ ?_ | with_reducible refine wpAny_loadPart_at hx ?_ | with_reducible refine hcls.at ?_ | wp_step)
  · exact ⟨_, #[], _, (Heap.get?_update_ne _ _ _ _ hxs.symm).trans (Heap.get?_push_at rfl rfl), rfl, fun e he => absurd he (by simp), fun _ => rfl⟩
  · intro h' tk' hn' hs
    have hx₁ : (hp.push { cls := .type "dict", data := .dict #[] }).get? x = some { cls := .ref C, data := .fields fv } := Heap.get?_push_of_some _ hx
    refine hq h' tk' hp.objs.size (fun b o hb ho => ?_) (Nat.le_refl _) hxs.symm ?_ hn'
    · exact (hs.2 b (Nat.ne_of_lt (Heap.lt_size ho))).trans ((Heap.get?_update_ne _ _ _ _ hb).trans (Heap.get?_push_of_some _ ho))
    · exact (hs.2 x hxs).trans (Heap.get?_update_self _ hx₁ rfl)
theorem osa_oldL {K : W.Frag} {name : Str} {tk : Tok} {v : Value} {x C dx : Addr} {fv : Array Value} {cd : ClassData} {m0 : Str → Option Value} {nl : List Str}
    (X : K.In hp) (hx : hp.get? x = some { cls := .ref C, dict := some dx, data := .fields fv }) (hns : hp.Ns1 dx m0) (hw : Within m0 nl) (hz : nl.length ≤ 1000) (hcd : W.clsIn K C = some cd) (hm : refsLE cd.mro = true) (hh : cd.hasDict = true)
    (ha : W.findIn K (.ref C) name = some none)
    (hq : ∀ h' tk', (∀ b o, b ≠ dx → hp.get? b = some o → h'.get? b = some o) → h'.Ns1 dx (fun y => if y = name then some v else m0 y) → R (.ok (.ret .none)) ⟨h', g, d, tk', os⟩) :
    codeAny (model prog w) A (.call (.builtin "object.__setattr__") ⟨[.ref x, .str name tk, v], []⟩) R ⟨hp, g, d, t, os⟩ := by
  obtain ⟨oD, esD, epD, hoD, hdD, _⟩ := hns.count hw
  have I : W.InstAt hp x { cls := .ref C, dict := some dx, data := .fields fv } C (some oD) := ⟨hx, rfl, rfl, hoD⟩
  have SF := F.store_object
  have ne := refsLE_ne hm
  have hob : cd.mro.contains (.type "object") = true := (refsLE_has "object" _ hm).trans (by decide +kernel)
  have sub : W.Looks (model prog w) hp (isInstance (.ref x) (.type "object")) true := I.type.andThen (W.looks_mroIn X (by unfold W.mroIn; rw [hcd, Option.bind_some, if_neg (by rw [ne]; decide), hob]))
  refine codeAny_call_builtin SF.slot.plain SF.entry (@W.check_slot (model prog w) _ _ ⟨hp, g, d, t, os⟩ "object.__setattr__" "object" "__setattr__" (.ref x) [.str name tk, v] [] _ SF.kind SF.split sub (SF.args (.ref x) (.str name tk) v) ?_)
  have hmr : W.Looks (model prog w) hp (mroOf (.ref C)) cd.mro := (W.looks_clsIn X hcd).andThen .now
  have L3 : W.Looks (model prog w) hp (storeTaker? none) none := .now
  have hcls : W.Looks (model prog w) hp (classData C) cd := W.looks_clsIn X hcd
  rw [W.osa_eq, refuse_eq]
  refine wpAny_bind (wpAny_bind (I.type.at (wpAny_bind (hmr.at ?_))))
  rw [refsLE_pass _ _ hm]
  refine wpAny_pure (wpAny_bind (I.type.at (wpAny_bind ((W.looks_findIn X ha).at (wpAny_bind (L3.at ?_))))))
  show wpAny _ _ (storeInOwnDict (.ref x) (.ref C) (.str name tk) name v false) _ _ _
  obtain ⟨nm, bs, mro, ns, qn, hd, sn, sb, ab, col, del⟩ := cd
  dsimp only at hh
  subst hh
  unfold storeInOwnDict ownDictForStores
  repeat (first | with_reducible refine OEX.store_in_old hns hw hz ?_ | with_reducible refine wpAny_loadPart_at hx ?_ | with_reducible refine hcls.at ?_ | wp_step)
  intro h' tk' hn' hs
  exact hq h' tk' (fun b o hb ho => (hs.2 b hb).trans ho) hn'
end
end LEX
end PySem
namespace L2
open PySem PySem.Spec PyProof.Rows
/-- what the written part says of such a class -/
structure OexL (K : PySem.W.Frag) (C : Addr) : Prop where
  cls : ∃ nm q N bs bm sn sub ab col dd k0 k1 k2 k3 k5, K.lookup C = some (excClassObj nm q C N bs bm true sn sub ab col dd k0 k1 k2 k3 k5 "LookupError.__new__") ∧ PySem.LEX.refsLE bm = true
  saL : PySem.W.findIn K (.ref C) "__setattr__" = some (some (.builtin "object.__setattr__"))
  exL : PySem.W.subIn K (.ref C) (.type "BaseException") = some true
  tyL : PySem.W.typeIn K (.ref C) = some (.type "type")
  kL : PySem.W.keepIn K (.ref C) = true
section
variable {X : Cx} {pins : List (Addr × Obj)} {σ : L2.St} {H : Hp} {s : Shared} {a C dx : Addr} {f : Str} {y : V} {u : Value} {fs : List (Str × V)} {Q : Unit → Shared → Prop} {E : Value → Shared → Prop} {A : Around}
theorem ost_newL (T : OexL X.K C) (I : Inv X pins σ H s) (e : H a = some (exo a C none)) (hno : PySem.W.findIn X.K (.ref C) f = some none) (ry : RelV y u)
    (h : ∀ dx s', H dx = none → dx ≠ a → Inv X pins σ (upd (upd H dx (exd dx [(f, y)])) a (exo a C (some dx))) s' → Q () s') : wpAny (model X.prog X.w) A (setAttr (.ref a) f u) Q E s := by
  obtain ⟨nm, q, N, bs, bm, sn, sub, ab, col, dd, k0, k1, k2, k3, k5, hC, hbm⟩ := T.cls
  have hcl : PySem.W.clsIn X.K C = some { name := nm, bases := bs, mro := .ref C :: bm, ns := N, qualname := q, hasDict := true, slotNames := sn, subclasses := sub, abstract := ab, collection := col, hasDel := false } := by unfold PySem.W.clsIn; rw [hC] <;> rfl
  obtain ⟨t1, ho⟩ := exo_at I.hok e
  obtain ⟨hp, g, d, t, os⟩ := s
  refine PySem.W.set_plain I.kIn (ox := { cls := .ref C, dict := none, data := .fields #[.ref t1, .none, .none, .none, .bool false, .none] }) (od := none) ⟨ho, rfl, rfl, trivial⟩ T.saL ?_
  refine PySem.LEX.exc_osaL I.kIn ho hcl (show PySem.LEX.refsLE (.ref C :: bm) = true from hbm) rfl hno (fun h' tk' dx k dn dne hx hn => ?_)
  have hnd : H dx = none := I.hok.fresh dn
  have nd : ∀ {b : Addr} {o : Obj}, hp.get? b = some o → b ≠ dx := fun {b o} q => Nat.ne_of_lt (Nat.lt_of_lt_of_le (Heap.lt_size q) dn)
  have na : ∀ {b : Addr}, H b = none → b ≠ a := fun {b} n z => by
    rw [z, e] at n
    cases n
  have Un1 : Un X.fs [] H (upd (upd H dx (exd dx [(f, y)])) a (exo a C (some dx))) hp h' := {
    keep := fun b o q n _ _ => k b o (na n) q
    slot := fun b o q n _ _ => ⟨o.slots, k b o (na n) q⟩
    free := fun b o q n _ => by rw [upd_ne (na n), upd_ne (nd q)]; exact n
    there := fun b o q _ => by
      by_cases hb : b = a
      · exact ⟨_, by rw [hb]; exact hx⟩
      · exact ⟨o, k b o hb q⟩
    tups := fun b xs q => by rw [upd_ne (at_ne e q exo_tup), upd_ne (ne_of_none q hnd)]; exact q
    frzs := fun b o v q => by rw [upd_ne (at_ne e q exo_frz), upd_ne (ne_of_none q hnd)]; exact q
    tbls := fun b ps q => ⟨#[], by rw [upd_ne (at_ne e q exo_tbl), upd_ne (ne_of_none q hnd), q]; simp⟩ }
  refine h dx _ hnd dne (I.un (t' := tk') Un1 fun b o q => ?_)
  by_cases hb : b = a
  · subst hb
    rw [upd_same] at q
    cases q
    exact exo_ok hx
  · rw [upd_ne hb] at q
    by_cases hd : b = dx
    · subst hd
      rw [upd_same] at q
      cases q
      exact exd_ok hn (relO_put (fs := []) ry fun g => True.intro)
    · rw [upd_ne hd] at q
      exact (I.hok b o q).stay (fun c v hc z => k c v (by
          rcases hc with hc | hc
          · rw [hc]
            exact hb
          · exact at_ne e hc exo_own) z)
        (fun c hc => by rw [upd_ne (at_ne e hc exo_own), upd_ne (ne_of_none hc hnd)]; exact hc) (fun c xs hc => by rw [upd_ne (at_ne e hc exo_tup), upd_ne (ne_of_none hc hnd)]; exact hc)
theorem ost_oldL (T : OexL X.K C) (I : Inv X pins σ H s) (e : H a = some (exo a C (some dx))) (ed : H dx = some (exd dx fs)) (hl : fs.length ≤ 900) (hno : PySem.W.findIn X.K (.ref C) f = some none) (ry : RelV y u)
    (h : ∀ s', Inv X pins σ (upd H dx (exd dx ((f, y) :: fs))) s' → Q () s') : wpAny (model X.prog X.w) A (setAttr (.ref a) f u) Q E s := by
  obtain ⟨nm, q, N, bs, bm, sn, sub, ab, col, dd, k0, k1, k2, k3, k5, hC, hbm⟩ := T.cls
  have hcl : PySem.W.clsIn X.K C = some { name := nm, bases := bs, mro := .ref C :: bm, ns := N, qualname := q, hasDict := true, slotNames := sn, subclasses := sub, abstract := ab, collection := col, hasDel := false } := by unfold PySem.W.clsIn; rw [hC] <;> rfl
  obtain ⟨t1, ho⟩ := exo_at I.hok e
  obtain ⟨mA, hns, rel⟩ := exd_at I.hok ed
  have hw := within_of rel
  obtain ⟨hp, g, d, t, os⟩ := s
  obtain ⟨oD, _, _, hoD, _, _⟩ := hns.count hw
  refine PySem.W.set_plain I.kIn (ox := { cls := .ref C, dict := some dx, data := .fields #[.ref t1, .none, .none, .none, .bool false, .none] }) (od := some oD) ⟨ho, rfl, rfl, hoD⟩ T.saL ?_
  refine PySem.LEX.osa_oldL I.kIn ho hns hw (by rw [List.length_map]; omega) hcl (show PySem.LEX.refsLE (.ref C :: bm) = true from hbm) rfl hno (fun h' tk' k hn => ?_)
  have hd : ∃ o, h'.get? dx = some o := by
    obtain ⟨o, _, _, e', _⟩ := hn
    exact ⟨o, e'⟩
  exact h _ (I.write (t' := tk') (x := dx) (e := dx) (o := exd dx ((f, y) :: fs)) (by rw [ed]; exact True.intro) (.inl rfl) k hd (exd_ok hn (relO_put ry rel)))
end
def tOstL (K : PySem.W.Frag) (f : Str) (to te : TE) : TS := fun D σ H => te σ H fun y H1 => to σ H1 fun x H2 => ∃ a C : Addr, x = .ref a ∧ OexL K C ∧ PySem.W.findIn K (.ref C) f = some none ∧
  ((H2 a = some (exo a C none) ∧ ∀ dx, H2 dx = none → dx ≠ a → D.nx σ (upd (upd H2 dx (exd dx [(f, y)])) a (exo a C (some dx)))) ∨
    ∃ (dx : Addr) (fs : List (Str × V)), H2 a = some (exo a C (some dx)) ∧ H2 dx = some (exd dx fs) ∧ fs.length ≤ 900 ∧ D.nx σ (upd H2 dx (exd dx ((f, y) :: fs))))
section
variable {X : Cx} {o e : Expr} {es : List Expr} {to te : TE} {ta : TA} {f : Str} {p p' p1 p2 pos : Pos}
theorem ps_ostL (ho : PE X o to) (he : PE X e te) (hs : swapsWith e (some (.Attribute o f p')) pos.line X.env = pure false := by rfl) : PS X (.Assign [.Attribute o f p'] e pos) (tOstL X.K f to te) := by
  refine ⟨fun pins s σ H D I h => ?_⟩
  refine plainObj_wpAny_Assign_Attribute (thn (he.run pins s σ H _ I h) fun v s1 ⟨y, H1, I1, r1, q1⟩ => thn (ho.run pins s1 σ H1 _ I1 q1) fun u s2 ⟨x, H2, I2, r2, a, C, ex, T, hno, q⟩ => ?_) hs
  subst ex
  obtain rfl : u = Value.ref a := r2
  rcases q with ⟨ea, q⟩ | ⟨dx, fs, ea, ed, hl, q⟩
  · exact ost_newL T I2 ea hno r1 fun dx s' n ne J => ⟨σ, _, J, q dx n ne⟩
  · exact ost_oldL T I2 ea ed hl hno r1 fun s' J => ⟨σ, _, J, q⟩
theorem pmk_oexL {CX : CXT} {x : Str} {C fI : Addr} {k : Nat} {fd : FuncData} {ps : List Str} {sp : Sp} {ds : List Value} {dvs : List V} (T : OexL X.K C) (iC : PySem.W.findIn X.K (.ref C) "__init__" = some (some (.ref fI))) (tI : PySem.W.typeIn X.K (.ref fI) = some (.type "function"))
    (F1 : FnOk X.prog X.w X.K X.mg X.base CX k fI fd ps sp) (hr : Room (k + 1) X.A) (hb : Binds X.K fd ps ds) (hd : Vals dvs ds) (hx : Passes CX X (fun _ _ _ => False)) (hg : Gl X x) (hm : X.mg x = some (.ref C)) (ha : PA X (e :: es) ta)
    (hdb : (x == ("__debug__" : Str)) = false := by decide) (he : starEach (e :: es) X.env = (false, eval e X.env) :: starEach es X.env := by rfl) (hpl : (backTo pos (starEach es X.env)).any (·.1) = false := by rfl) :
    PMk X (.Call (.Name x p) (e :: es) [] pos) (tMkO C sp dvs ta) := by
  intro pins s σ H Q I h
  obtain ⟨nm, q, N, bs, bm, sn, sub, ab, col, dd, k0, k1, k2, k3, k5, hC, hbm⟩ := T.cls
  refine wpAny_Call_Name_kw (ld_glob I hg hm ?_ hdb)
  refine PySem.W.callWith_K (h₀ := X.base) I.ok.mod.kin T.kL (thn (ha.run pos pins s σ H _ I h) fun us s1 ⟨vs, H1, I1, r1, hz, q1⟩ => ⟨I1.kIn, ?_⟩) he hpl
  show wpAny _ _ (call (.ref C) us) _ _ _
  obtain ⟨hp, g, dr, tk, os⟩ := s1
  have hsz : hp.objs.size ≤ hp.objs.size + 1 := Nat.le_succ _
  have hn : H1 (hp.objs.size + 1) = none := I1.hok.fresh hsz
  have hq := q1 (hp.objs.size + 1) hn
  have kk : ∀ b o, hp.get? b = some o → ((hp.push (PySem.W.kdv_tup us)).push (PySem.HandSPX.excO C hp.objs.size)).get? b = some o := fun b o e => Heap.get?_push_of_some _ (Heap.get?_push_of_some _ e)
  have hget : ((hp.push (PySem.W.kdv_tup us)).push (PySem.HandSPX.excO C hp.objs.size)).get? (hp.objs.size + 1) = some (PySem.HandSPX.excO C hp.objs.size) := by heap_get
  have I2 : Inv X pins σ (upd H1 (hp.objs.size + 1) (exo (hp.objs.size + 1) C none)) ⟨(hp.push (PySem.W.kdv_tup us)).push (PySem.HandSPX.excO C hp.objs.size), g, dr, tk, os⟩ :=
    I1.laid (t' := tk) (a := hp.objs.size + 1) (o := exo (hp.objs.size + 1) C none) (h' := (hp.push (PySem.W.kdv_tup us)).push (PySem.HandSPX.excO C hp.objs.size)) kk hsz (exo_ok hget)
  have r2 : Vals (V.ref (hp.objs.size + 1) :: (vs ++ dvs)) (Value.ref (hp.objs.size + 1) :: (us ++ ds)) := .cons rfl (r1.append hd)
  have hl : (Value.ref (hp.objs.size + 1) :: us ++ ds).length = ps.length := by
    have e := r2.length
    rw [F1.len _ _ _ _ hq] at e
    exact e.symm
  have hus : us.length ≤ sizeLine := by
    rw [← Paired.length r1, sizeLine_eq]
    omega
  refine wpAny_call (PySem.HandSPX.call_own F.excBase_LookupError (fun Y => PySem.LEX.refsLE_has Y bm hbm) (I1.kIn _ _ hC) (PySem.W.looks_findIn I1.kIn iC) (fun self => PySem.W.bind_fn I1.kIn self tI) hus
    (codeAny_mono (F1.run _ X.stack _ _ ⟨Value.ref (hp.objs.size + 1) :: us, []⟩ (Value.ref (hp.objs.size + 1) :: (us ++ ds)) _ _ (fun _ _ _ => False) (hr.make C us []) (I2.env0.make C us []) (hb _ (Value.ref (hp.objs.size + 1) :: us) I2.kIn hl) r2 hq) fun r s' hq' => ?_))
  cases r with
  | error er => exact hx pins σ _ _ er s' I2 hq'
  | ok fl =>
    cases fl with
    | ret u =>
      obtain ⟨v, H2, os2, bare2, un2, hok2, rv, ev, d, fs, ea, ed, hd1, q2⟩ := hq'
      subst ev
      obtain ⟨h2, g2, d2, t2, os'⟩ := s'
      exact ⟨rv, mk_end (raises_own T.exL T.tyL) I1 hsz kk un2 hok2 os2 bare2 ea ed hd1 q2⟩
    | next => exact False.elim hq'
    | brk => exact False.elim hq'
    | cont => exact False.elim hq'
end
end L2
end
section
set_option Elab.async false
set_option linter.all false
set_option maxRecDepth 100000
set_option maxHeartbeats 4000000
namespace Nr
open PySem PySem.Spec PyProof.Rows L2
/-! ### calls by keywords; what they may raise is told by the slots as they stand -/
def tCallQ (n m : Nat) (sp : Sp) (gV : List V → List V → List V) (E : L2.St → XK) (t tk : TA) : TE := fun σ H Q => t σ H fun vs H1 => tk σ H1 fun zs H2 => vs.length = n ∧ zs.length = m ∧ sp (gV vs zs) H2 Q (E σ)
def tMethQ (C : Addr) (mt : Str) (n m : Nat) (sp : Sp) (gV : List V → List V → List V) (E : L2.St → XK) (ta : TE) (t tk : TA) : TE := fun σ H Q => ta σ H fun x H1 => ∃ a dx fs, x = .ref a ∧ H1 a = some (.ins C dx fs) ∧ fs.lookup mt = none ∧
  t σ H1 fun vs H2 => tk σ H2 fun zs H3 => vs.length = n ∧ zs.length = m ∧ sp (gV (x :: vs) zs) H3 Q (E σ)
section
variable {X : Cx} {CX : CXT} {k n : Nat} {f C : Addr} {fd : FuncData} {ps ks : List Str} {sp : Sp} {E : L2.St → XK} {x mt : Str} {p pos apos : Pos} {e o : Expr} {es : List Expr} {kws : List Keyword} {ta : TE} {t tk : TA} {g : List Value → List Value → List Value} {gV : List V → List V → List V}
theorem at_of_passes {E0 : XK} (h : Passes CX X E0) : ∀ σ : L2.St, PassesAt CX X σ E0 := fun σ pins H s e s' I c => h pins σ H s e s' I c
theorem run_fnQ {pins : List (Addr × Obj)} {σ : L2.St} {H : Hp} {s : Shared} {Q : VK} {us ws : List Value} {vs zs : List V} (F : FnOk X.prog X.w X.K X.mg X.base CX k f fd ps sp) (hr : Room k X.A) (hb : KBn X.K fd ps n ks g gV) (hx : PassesAt CX X σ (E σ))
    (I : Inv X pins σ H s) (r : Vals vs us) (rz : Vals zs ws) (l1 : vs.length = n) (l2 : zs.length = ks.length) (h : sp (gV vs zs) H Q (E σ)) : wpAny (model X.prog X.w) X.A (call (.ref f) us (ks.zip ws)) (EP X pins σ Q) X.xe s := by
  have r2 := hb.rel r rz
  refine wpAny_call (codeAny_mono (F.run X.A X.stack s H ⟨us, ks.zip ws⟩ (g us ws) (gV vs zs) Q (E σ) hr I.env0 (hb.to s us ws I.kIn (r.length.symm.trans l1) (rz.length.symm.trans l2)) r2 h) fun r s' hq => ?_)
  cases r with
  | error e => exact hx pins H s e s' I hq
  | ok fl =>
    cases fl with
    | ret u => exact I.after hq
    | next => exact False.elim hq
    | brk => exact False.elim hq
    | cont => exact False.elim hq
/-- f(e, .., k = v, ..) -/
theorem pe_callQ (F : FnOk X.prog X.w X.K X.mg X.base CX k f fd ps sp) (hr : Room k X.A) (hg : Gl X x) (hm : X.mg x = some (.ref f)) (hk : PySem.W.keepIn X.K (.ref f) = true) (hb : KBn X.K fd ps n ks g gV) (hx : ∀ σ, PassesAt CX X σ (E σ))
    (ha : PA X (e :: es) t) (hkw : PK X kws tk) (hall : (backToKw pos (keywordEach kws X.env)).all (·.1.isSome) = true := by rfl) (hks : (backToKw pos (keywordEach kws X.env)).filterMap (·.1) = ks := by rfl)
    (hdb : (x == ("__debug__" : Str)) = false := by decide) (he : starEach (e :: es) X.env = (false, eval e X.env) :: starEach es X.env := by rfl)
    (hpl : ((backTo pos (starEach (e :: es) X.env)).any (·.1) || (backToKw pos (keywordEach kws X.env)).any (·.1.isNone)) = false := by rfl) :
    PE X (.Call (.Name x p) (e :: es) kws pos) (tCallQ n ks.length sp gV E t tk) := by
  refine ⟨fun pins s σ H Q I h => ?_⟩
  refine wpAny_Call_Name_kw (ld_glob I hg hm ?_ hdb)
  refine PySem.W.callWith_KW (h₀ := X.base) I.ok.mod.kin hk hall (thn (ha.run pos pins s σ H _ I h) fun us s1 ⟨vs, H1, I1, r, q⟩ => ?_) hpl he
  refine thn (hkw.run pos pins s1 σ H1 _ I1 q) fun ws s2 ⟨zs, H2, I2, rz, l1, l2, q2⟩ => ⟨I2.kIn, ?_⟩
  rw [hks]
  exact run_fnQ F hr hb (hx σ) I2 r rz l1 l2 q2
/-- f(k = v, ..) -/
theorem pe_callQ0 (F : FnOk X.prog X.w X.K X.mg X.base CX k f fd ps sp) (hr : Room k X.A) (hg : Gl X x) (hm : X.mg x = some (.ref f)) (hk : PySem.W.keepIn X.K (.ref f) = true) (hb : KBn X.K fd ps 0 ks g gV) (hx : ∀ σ, PassesAt CX X σ (E σ))
    (hkw : PK X kws tk) (hall : (backToKw pos (keywordEach kws X.env)).all (·.1.isSome) = true := by rfl) (hks : (backToKw pos (keywordEach kws X.env)).filterMap (·.1) = ks := by rfl)
    (hdb : (x == ("__debug__" : Str)) = false := by decide) (hpl : ((backTo pos (starEach [] X.env)).any (·.1) || (backToKw pos (keywordEach kws X.env)).any (·.1.isNone)) = false := by rfl) :
    PE X (.Call (.Name x p) [] kws pos) (tCallQ 0 ks.length sp gV E tNil tk) := by
  refine ⟨fun pins s σ H Q I h => ?_⟩
  refine wpAny_Call_Name_kw (ld_glob I hg hm ?_ hdb)
  refine PySem.W.callWith_KW0 (h₀ := X.base) I.ok.mod.kin hk hall ?_ hpl
  refine thn (hkw.run pos pins s σ H _ I h) fun ws s2 ⟨zs, H2, I2, rz, l1, l2, q2⟩ => ⟨I2.kIn, ?_⟩
  rw [hks]
  exact run_fnQ (us := []) (vs := []) F hr hb (hx σ) I2 .nil rz rfl l2 q2
/-- o.m(e, .., k = v, ..) -/
theorem pe_methQ {pl : Sem Bool} (he : PE X o ta) (c : Cls X.K C) (hm : Meth X.K C mt f) (F : FnOk X.prog X.w X.K X.mg X.base CX k f fd ps sp) (hr : Room k X.A) (hb : KBn X.K fd ps (n + 1) ks g gV) (hx : ∀ σ, PassesAt CX X σ (E σ)) (ha : PA X (e :: es) t) (hkw : PK X kws tk)
    (hall : (backToKw pos (keywordEach kws X.env)).all (·.1.isSome) = true := by rfl) (hks : (backToKw pos (keywordEach kws X.env)).filterMap (·.1) = ks := by rfl)
    (hst : starEach (e :: es) X.env = (false, eval e X.env) :: starEach es X.env := by rfl) (hpl : ((backTo pos (starEach (e :: es) X.env)).any (·.1) || (backToKw pos (keywordEach kws X.env)).any (·.1.isNone)) = false := by rfl)
    (ht : eval (.Call (.Attribute o mt apos) (e :: es) kws pos) X.env = (do
      let ov ← eval o X.env
      standAt apos.atName
      let (f, first) ← holding [ov] (getMethod ov mt pl)
      callWith pos f first (backTo pos (starEach (e :: es) X.env)) (backToKw pos (keywordEach kws X.env))) := by rfl) :
    PE X (.Call (.Attribute o mt apos) (e :: es) kws pos) (tMethQ C mt n ks.length sp gV E ta t tk) := by
  refine ⟨fun pins s σ H Q I h => ?_⟩
  refine PySem.W.methodCall_KW (pl := pl) (thn (he.run pins s σ H _ I h) fun u s1 ⟨x, H1, I1, rx, a, dx, fs, ex, ea, l, q⟩ => ?_) ht
  subst ex
  obtain rfl : u = Value.ref a := rx
  refine getmeth_ok I1 ea c hm l ?_
  refine PySem.W.callWith_KW (first := [.ref a]) (h₀ := X.base) I.ok.mod.kin hm.kp hall (thn (ha.run pos pins s1 σ H1 _ I1 q) fun us s2 ⟨vs, H2, I2, r, q2⟩ => ?_) hpl hst
  refine thn (hkw.run pos pins s2 σ H2 _ I2 q2) fun ws s3 ⟨zs, H3, I3, rz, l1, l2, q3⟩ => ⟨I3.kIn, ?_⟩
  rw [hks]
  exact run_fnQ (us := .ref a :: us) (vs := .ref a :: vs) F hr hb (hx σ) I3 (.cons rfl r) rz (by rw [List.length_cons, l1]) l2 q3
/-- o.m(k = v, ..) -/
theorem pe_methQ0 {pl : Sem Bool} (he : PE X o ta) (c : Cls X.K C) (hm : Meth X.K C mt f) (F : FnOk X.prog X.w X.K X.mg X.base CX k f fd ps sp) (hr : Room k X.A) (hb : KBn X.K fd ps 1 ks g gV) (hx : ∀ σ, PassesAt CX X σ (E σ)) (hkw : PK X kws tk)
    (hall : (backToKw pos (keywordEach kws X.env)).all (·.1.isSome) = true := by rfl) (hks : (backToKw pos (keywordEach kws X.env)).filterMap (·.1) = ks := by rfl)
    (hpl : ((backTo pos (starEach [] X.env)).any (·.1) || (backToKw pos (keywordEach kws X.env)).any (·.1.isNone)) = false := by rfl)
    (ht : eval (.Call (.Attribute o mt apos) [] kws pos) X.env = (do
      let ov ← eval o X.env
      standAt apos.atName
      let (f, first) ← holding [ov] (getMethod ov mt pl)
      callWith pos f first (backTo pos (starEach [] X.env)) (backToKw pos (keywordEach kws X.env))) := by rfl) :
    PE X (.Call (.Attribute o mt apos) [] kws pos) (tMethQ C mt 0 ks.length sp gV E ta tNil tk) := by
  refine ⟨fun pins s σ H Q I h => ?_⟩
  refine PySem.W.methodCall_KW (pl := pl) (thn (he.run pins s σ H _ I h) fun u s1 ⟨x, H1, I1, rx, a, dx, fs, ex, ea, l, q⟩ => ?_) ht
  subst ex
  obtain rfl : u = Value.ref a := rx
  refine getmeth_ok I1 ea c hm l ?_
  refine PySem.W.callWith_KW0 (first := [.ref a]) (h₀ := X.base) I.ok.mod.kin hm.kp hall ?_ hpl
  refine thn (hkw.run pos pins s1 σ H1 _ I1 q) fun ws s3 ⟨zs, H3, I3, rz, l1, l2, q3⟩ => ⟨I3.kIn, ?_⟩
  rw [hks]
  exact run_fnQ (us := [.ref a]) (vs := [.ref a]) F hr hb (hx σ) I3 (.cons rfl .nil) rz rfl l2 q3
end
/-- a def without defaults, called by keywords -/
theorem kbn {K : PySem.W.Frag} {x qual : Str} {params : Arguments} {body : List Stmt} {scope : Scope} {f : Addr} {fd : FuncData} {ps ks : List Str} {n : Nat} {g : List Value → List Value → List Value} {gV : List V → List V → List V} (F : FunD K x qual params body scope [] [] f fd)
    (hrel : ∀ {vs : List V} {us : List Value} {zs : List V} {ws : List Value}, Vals vs us → Vals zs ws → Vals (gV vs zs) (g us ws))
    (h : ∀ (kV doc pm : Value) (an : Option Addr) (cdv ct : Value) (us ws : List Value), us.length = n → ws.length = ks.length → bindArgs (PySem.W.fnOf x qual params body scope .none kV doc pm an cdv ct) ⟨us, ks.zip ws⟩ = pure (ps.zip (g us ws))) : KBn K fd ps n ks g gV := by
  obtain ⟨oc, od, dV, kV, doc, pm, an, cdv, ct, osl, rfl, lk, hcd, hD, hK⟩ := F.ex
  rcases hD with ⟨_, rfl⟩ | ⟨e, _⟩
  · exact ⟨fun s us ws _ l1 l2 => .of_eq (h kV doc pm an cdv ct us ws l1 l2), fun r1 r2 => hrel r1 r2⟩
  · exact absurd rfl e
end Nr
end
section
set_option Elab.async false
set_option linter.all false
set_option maxRecDepth 100000
set_option maxHeartbeats 4000000
namespace Nr
open PySem PySem.Spec PyProof.Rows L2
/-! ### several except clauses, each with the name n, which is slot i -/
def ends_ (i : Nat) (D : Ends) : Ends := { nx := fun σ H => D.nx (σ.set i none) H, rt := D.rt, bk := fun σ H => D.bk (σ.set i none) H, ct := fun σ H => D.ct (σ.set i none) H }
def wTries (K : PySem.W.Frag) (i : Nat) (Wout : WX) (D : Ends) : List (Value × (Addr → Value → Option Addr → TS)) → WX
  | [] => Wout
  | (c, ts) :: r => fun cls d σ H => ∃ b, PySem.W.exmOne K cls c = some b ∧ (b = true → ∀ a, H a = none → ts a cls d (ends_ i D) (σ.set i (some (.ref a))) H) ∧ (b = false → wTries K i Wout D r cls d σ H)
inductive Tries (X : Cx) (n : Str) (i : Nat) : List ExceptHandler → List (Value × (Addr → Value → Option Addr → TS)) → Prop
  | nil : Tries X n i [] []
  | cons {x : Str} {c : Value} {ts : Addr → Value → Option Addr → TS} {b₀ : Stmt} {suite : List Stmt} {np pos' : Pos} {hds : List ExceptHandler} {l : List (Value × (Addr → Value → Option Addr → TS))} (hc : Names X x c)
      (hsu : ∀ (a : Addr) (oe : Obj) (cls : Value) (d : Option Addr) (pn : List (Addr × Obj)), Zc cls d oe → (∃ vs, oe.data = .fields vs) → PSs (X.suite a ((a, oe) :: pn)) (b₀ :: suite) (ts a cls d)) (r : Tries X n i hds l) :
      Tries X n i (.ExceptHandler (some (.Name x np)) (some n) (b₀ :: suite) pos' :: hds) ((c, ts) :: l)
section
variable {X : Cx} {n : Str} {i : Nat} {body : List Stmt} {h₀ : ExceptHandler} {hds : List ExceptHandler} {l : List (Value × (Addr → Value → Option Addr → TS))} {pos : Pos} {tb : WX → TS} {Wout : WX}
theorem ps_tries (hs : X.stack = X.env :: X.outer) (hf : X.env.frame = some X.env.locals) (hN : X.N.Nodup) (hi : X.N[i]? = some n) (hln : X.env.kindOf n = some .local) (tk : Takes X Wout)
    (hb : ∀ (W : WX) (pn : List (Addr × Obj)) (xe : Value → Shared → Prop), Takes (X.tr pn xe) W → PassesOwn (model X.prog X.w) X.A X.env xe → PSs (X.tr pn xe) body (tb W))
    (hh : Tries X n i (h₀ :: hds) l) : PS X (.Try body (h₀ :: hds) [] [] pos) (fun D σ H => tb (wTries X.K i Wout D l) D σ H) := by
  refine ⟨fun pins s σ H D I h => ?_⟩
  have ok := I.ok
  have hfr : X.A.frames = some (X.env :: X.outer) := by rw [ok.frames, hs]
  refine wpAny_Try_except ?_
  refine wpAny_mono ((hb (wTries X.K i Wout D l) (X.pn ++ pins) (fun e s₁ => wpAny (model X.prog X.w) X.A (noteFrame e X.env) (fun _ s₂ => wpAny (model X.prog X.w) X.A (setFlight e none) (fun _ s₃ =>
    wpAny (model X.prog X.w) X.A (handleBy e X.env (h₀ :: hds)) (SP X pins D) X.xe s₃) X.xe s₂) X.xe s₁) (fun u s' xx => ?_) PassesOwn.looking).run [] s σ H D (I.toTry _) h) (fun f s1 hsp => ?_) (fun e s1 he => he)
  · -- the catch
    obtain ⟨a, B, sI, pins', σ', H', cls, d, rfl, J', nb, up, sky, na, os, ag, w⟩ := xx
    have J : Inv X pins σ' H' sI := J'.ofTry ok
    have sky' : Sky B (X.env :: X.outer) a (Zc cls d) X.env.locals s'.heap := by rw [← hs]; exact sky
    show wpAny (model X.prog X.w) X.A (noteFrame (.ref a) X.env) _ _ _
    refine Sky.land Zc.steady hfr hf sky' fun h3 fl3 up3 => ?_
    have J3 : Inv X pins σ' H' { s' with heap := h3 } := J.landed nb fl3.1 (up.trans up3) os ag
    obtain ⟨oe3, vs3, he3, hz3, hd3⟩ := fl3.there
    have notFr : ∀ {h : Heap} {o : Obj} {vs : Array Value}, h.FunFrames B (X.env :: X.outer) → h.get? a = some o → o.data = .fields vs → a ∉ frs (X.env :: X.outer) := fun {h o vs} ff e dd hm => by
      obtain ⟨_, o', e', hnf⟩ := ff.mem hm
      rw [e] at e'; cases e'
      exact hnf _ dd
    have nfr := notFr fl3.2.2.1 he3 hd3
    have nL : a ≠ X.env.locals := fun z => nfr (List.mem_filterMap.mpr ⟨X.env, List.mem_cons_self, by rw [hf, z]⟩)
    have nF : a ∉ X.fs := fun hm => by
      obtain ⟨e, he, q⟩ := List.mem_filterMap.mp hm
      exact nfr (List.mem_filterMap.mpr ⟨e, List.mem_cons_of_mem _ he, q⟩)
    have S3 := J3.suite he3 hd3 na nL nF
    have go : ∀ {hds' : List ExceptHandler} {l' : List (Value × (Addr → Value → Option Addr → TS))}, Tries X n i hds' l' → wTries X.K i Wout D l' cls d σ' H' →
        wpAny (model X.prog X.w) X.A (handleBy (.ref a) X.env hds') (SP X pins D) X.xe { s' with heap := h3 } := by
      intro hds' l' hk
      induction hk with
      | nil =>
        intro w
        refine wpAny_handleBy_nil ?_
        obtain ⟨k1, k2, k3, oe, vs, T, oT, ts', he, hz, hd, h1, hr⟩ := id fl3
        unfold PySem.passOn
        refine wpAny_bind (wpAny_field he hd h1 ?_)
        rw [if_neg (show ¬ ((Value.ref T == Value.none) = true) from by simp)]
        have fin : wpAny (model X.prog X.w) X.A (setFlight (.ref a) X.env.frame) (fun _ s4 => wpAny (model X.prog X.w) X.A (throw (.ref a) : Sem Flow) (SP X pins D) X.xe s4) X.xe { s' with heap := h3 } := by
          rw [hf]
          refine HandSPX.setFlight_upZ fl3 fun h4 hh4 up4 => wpAny_throw (tk _ _ ?_)
          exact ⟨a, B, sI, pins, σ', H', cls, d, rfl, J, nb, (up.trans up3).trans up4, .inr (.inr (by rw [hs]; exact hh4)), na, os, ag, w⟩
        first
          | exact wpAny_bind (wpAny_pure (wpAny_bind fin))
          | exact wpAny_bind fin
      | @cons x c ts b₀ suite np pos' hds2 l2 hc hsu r ih =>
        intro w
        obtain ⟨b, hb1, hyes, hno⟩ := w
        refine wpAny_handleBy_cons (codeAny_handlers_test ?_) (by intro q; cases q)
        have LT : PySem.W.Looks (model X.prog X.w) h3 (typeOf (.ref a)) cls := fun A Q E s k q => wpAny_typeOf_ref (k _ _ he3) (by rw [hz3.1]; exact q)
        have LM := PySem.W.exm_one (M := model X.prog X.w) (J3.kIn) LT hb1
        have test : ∀ {Q : Value → Shared → Prop} {E : Value → Shared → Prop}, Q c { s' with heap := h3 } → wpAny (model X.prog X.w) (X.A.mark (some (.ref a))) (eval (.Name x np) X.env) Q E { s' with heap := h3 } := fun {Q E} q => by
          obtain ⟨hg, hdbg, hm | ⟨hm, hv, hnn⟩⟩ := hc
          · exact ld_glob (X := X.suite a ((a, oe3) :: (X.pn ++ pins))) S3 hg hm q hdbg
          · exact ld_blt (X := X.suite a ((a, oe3) :: (X.pn ++ pins))) S3 hg hm hv q hnn hdbg
        refine test (LM.here ?_)
        cases b with
        | true =>
          refine codeAny_handlers_suite_as ?_
          refine HandSPX.lands_againZ fl3 fun h4 fl4 up4 => ?_
          have J4 : Inv X pins σ' H' { s' with heap := h4 } := J.landed nb fl4.1 ((up.trans up3).trans up4) os ag
          obtain ⟨oe4, vs4, he4, hz4, hd4⟩ := fl4.there
          have S4 := J4.suite he4 hd4 na nL nF
          refine store_ok (X := X.suite a ((a, oe4) :: (X.pn ++ pins))) (v := .ref a) S4 hN hi (.inl hln) rfl (fun s5 S5 => ?_) (.inr hln)
          refine wpAny_mono ((hsu a oe4 cls d (X.pn ++ pins) hz4 ⟨_, hd4⟩).run [] s5 _ H' _ S5 (hyes rfl a na)) (fun f s6 hsp => ?_) (fun _ _ z => False.elim z)
          have out : ∀ {σ6 : L2.St} {H6 : Hp} {Q : Shared → Prop}, Inv (X.suite a ((a, oe4) :: (X.pn ++ pins))) [] σ6 H6 s6 → (∀ s7, Inv X pins (σ6.set i none) H6 s7 → Q s7) →
              wpAny (model X.prog X.w) X.A (do bindName X.env n .none; unbindBehindTheSuite X.env n pos') (fun _ s7 => Q s7) X.xe s6 := fun {σ6 H6 Q} S6 hq => gone_ok (S6.unsuite ok) hN hi hln hq
          cases f with
          | next =>
            obtain ⟨σ6, H6, S6, q6⟩ := hsp
            exact out S6 fun s7 J7 => ⟨_, _, J7, q6⟩
          | brk =>
            obtain ⟨σ6, H6, S6, q6⟩ := hsp
            exact out S6 fun s7 J7 => ⟨_, _, J7, q6⟩
          | cont =>
            obtain ⟨σ6, H6, S6, q6⟩ := hsp
            exact out S6 fun s7 J7 => ⟨_, _, J7, q6⟩
          | ret u =>
            obtain ⟨v6, σ6, H6, S6, r6, q6⟩ := hsp
            exact out S6 fun s7 J7 => ⟨_, _, _, J7, r6, q6⟩
        | false =>
          show wpAny _ X.A (handleBy (.ref a) X.env hds2) _ _ _
          exact ih (hno rfl)
    exact go hh w
  · cases f with
    | next =>
      obtain ⟨σ', H', J', q⟩ := hsp
      exact wpAny_execs_nil ⟨σ', H', J'.ofTry ok, q⟩
    | brk =>
      obtain ⟨σ', H', J', q⟩ := hsp
      exact ⟨σ', H', J'.ofTry ok, q⟩
    | cont =>
      obtain ⟨σ', H', J', q⟩ := hsp
      exact ⟨σ', H', J'.ofTry ok, q⟩
    | ret u =>
      obtain ⟨v, σ', H', J', r, q⟩ := hsp
      exact ⟨v, σ', H', J'.ofTry ok, r, q⟩
end
end Nr
end
section
set_option Elab.async false
set_option linter.all false
set_option maxRecDepth 100000
set_option maxHeartbeats 1000000
namespace Nr
open PySem PySem.Spec PyProof.Rows L2
/-! ### sets of texts (the library's way with sets of whole numbers, turned to texts) -/
def keyT (e : Int × Value) : Str := match e.2 with | .str k _ => k | _ => Str.empty
def GoodT (w : World) (e : Int × Value) : Prop := ∃ k tk, e.2 = Value.str k tk ∧ e.1 = hashStr w k

/-- the set of ints at a: S its members, n their number; its table rises and can be walked -/
def SetS (w : World) (h : Heap) (a : Addr) (S : Str → Bool) (n : Nat) : Prop :=
  ∃ o es ep t, h.get? a = some o ∧ o.ExactSet ∧ o.data = .set es ep t ∧ (∀ e ∈ es.toList, GoodT w e) ∧ (es.toList.map keyT).Nodup ∧ (∀ k, S k = true ↔ k ∈ es.toList.map keyT) ∧
    es.size < scanBound ∧ t.fits es.size = true ∧ es.size = n ∧ Ris t.place.toList ∧ (w.params.followText "set-order" = true ∨ t.led = true)

section
variable {P : Program} {w : World} {h h' : Heap} {a : Addr} {S : Str → Bool} {n : Nat}

theorem SetS.at (R : SetS w h a S n) (k : ∀ o, h.get? a = some o → h'.get? a = some o) : SetS w h' a S n := by
  obtain ⟨o, es, ep, t, ho, r⟩ := R
  exact ⟨o, es, ep, t, k o ho, r⟩
theorem SetS.lt (R : SetS w h a S n) : a < h.objs.size := by
  obtain ⟨o, es, ep, t, ho, r⟩ := R
  exact Heap.lt_size ho
theorem SetS.congr {S' : Str → Bool} (R : SetS w h a S n) (e : ∀ k, S' k = S k) : SetS w h a S' n := by
  have q : S' = S := funext e
  rw [q]; exact R
theorem goodT_elems {l : List (Int × Value)} (g : ∀ e ∈ l, GoodT w e) : ElemsOf (PySem.strKind P w) l := fun e he => by
  obtain ⟨k, tk, h1, h2⟩ := g e he
  exact ⟨⟨k, by rw [h1]; exact strKind_is P w k tk, h2⟩, by rw [h1] <;> rfl⟩
theorem goodT_is {e : Int × Value} (g : GoodT w e) (k : Str) : (PySem.strKind P w).is k e.2 = true ↔ keyT e = k := by
  obtain ⟨k0, tk, h1, _⟩ := g
  unfold keyT
  rw [h1]
  show ((k0 == k) = true) ↔ k0 = k
  exact beq_iff_eq
theorem goodT_mem {l : List (Int × Value)} (g : ∀ e ∈ l, GoodT w e) (k : Str) : k ∈ l.map keyT ↔ ∃ e ∈ l, (PySem.strKind P w).is k e.2 = true := by
  rw [List.mem_map]
  constructor
  · rintro ⟨e, he, q⟩
    exact ⟨e, he, (goodT_is (g e he) k).2 q⟩
  · rintro ⟨e, he, q⟩
    exact ⟨e, he, (goodT_is (g e he) k).1 q⟩
theorem SetS.setOf (R : SetS w h a S n) : h.SetOf (PySem.strKind P w) a S n := by
  obtain ⟨o, es, ep, t, ho, hx, hd, g, nd, hm, hb, hf, hn, _⟩ := R
  exact ⟨o, es, ep, t, ho, hx, hd, goodT_elems g, fun k => (hm k).trans (goodT_mem g k), hb, hf, hn⟩
end

section
variable {P : Program} {w : World} {A : Around} {E : Value → Shared → Prop} {s : Shared} {a : Addr} {S : Str → Bool} {n : Nat}

/-! ### add -/
theorem store_atT {h : Heap} {a : Addr} {o : Obj} {es es' : Array (Int × Value)} {ep : Nat} {t t' : SetTable} (ho : h.get? a = some o) (hd : o.data = .set es ep t) :
    (h.update a (Obj.putSet es' t')).get? a = some { o with data := .set es' (ep + 1) t' } := by
  have q := Heap.get?_update_self (Obj.putSet es' t') ho (by rw [putSet_of es' t' hd]; rfl)
  rw [putSet_of es' t' hd] at q
  exact q

theorem setS_add_tail {g : Bool → Sem Unit} (hg : ∀ (b : Bool) (s₁ : Shared) (Q' : Unit → Shared → Prop), Q' () s₁ → wpAny (model P w) A (g b) Q' E s₁)
    {o : Obj} {es : Array (Int × Value)} {ep : Nat} {t : SetTable} (ho : s.heap.get? a = some o) (hex : o.ExactSet) (hd : o.data = .set es ep t)
    {es1 : Array (Int × Value)} {t2 : SetTable} {S' : Str → Bool} (g1 : ∀ e ∈ es1.toList, GoodT w e) (nd1 : (es1.toList.map keyT).Nodup) (m1 : ∀ k, S' k = true ↔ k ∈ es1.toList.map keyT)
    (hb1 : es1.size < scanBound) (hf2 : t2.fits es1.size = true) (hr : Ris t2.place.toList) (hl : w.params.followText "set-order" = true ∨ t2.led = true) {wasDummy : Bool} {R : Option Bool → Shared → Prop}
    (hR : ∀ h', Heap.SameBut a s.heap h' → SetS w h' a S' es1.size → R (some true) { s with heap := h' }) :
    wpAny (model P w) A (do
        storeSet a es1 t2
        if (!wasDummy && t2.tooFull) = true then do
            g (relayAll t2 es1 (SetTable.grown es1.size)).2.2
            storeSet a (relayAll t2 es1 (SetTable.grown es1.size)).1 (relayAll t2 es1 (SetTable.grown es1.size)).2.1
            pure (some true)
          else pure (some true)) R E s := by
  refine wpAny_bind (wpAny_storeSet_of ho hd ?_ (fits_of_scanBound hb1))
  have ho1 := store_atT (es' := es1) (t' := t2) ho hd
  have sb1 := Heap.SameBut.update s.heap a (Obj.putSet es1 t2)
  split
  · have pm := relayAll_perm t2 es1 (SetTable.grown es1.size)
    have hf3 := relayAll_fits t2 es1 (SetTable.grown es1.size)
    have hr3 := relayAll_ris t2 es1 (SetTable.grown es1.size)
    have hl3 := relayAll_led t2 es1 (SetTable.grown es1.size)
    generalize relayAll t2 es1 (SetTable.grown es1.size) = Z at pm hf3 hr3 hl3 ⊢
    obtain ⟨es2, t3, gave⟩ := Z
    dsimp only at pm hf3 hr3 hl3 ⊢
    have hsz : es2.size = es1.size := by rw [← Array.length_toList, pm.length_eq, Array.length_toList]
    have hb2 : es2.size < scanBound := by rw [hsz]; exact hb1
    refine wpAny_bind (hg _ _ _ ?_)
    refine wpAny_bind (wpAny_storeSet_of ho1 rfl ?_ (fits_of_scanBound hb2))
    have ho2 := store_atT (es' := es2) (t' := t3) ho1 rfl
    refine wpAny_pure (hR _ (sb1.trans (Heap.SameBut.update _ a _)) ?_)
    exact ⟨_, es2, _, t3, ho2, hex, rfl, fun e he => g1 e (pm.mem_iff.mp he), (pm.map keyT).nodup_iff.mpr nd1, fun k => (m1 k).trans (pm.map keyT).mem_iff.symm, hb2, hf3, hsz, hr3,
      hl.imp id fun z => by rw [hl3]; exact z⟩
  · exact wpAny_pure (hR _ sb1 ⟨_, es1, _, t2, ho1, hex, rfl, g1, nd1, m1, hb1, hf2, rfl, hr, hl⟩)

theorem setS_add_hashed {k : Str} {tk : Tok} {Q : Bool → Shared → Prop} (R : SetS w s.heap a S n) (room : n + 1 < scanBound)
    (hQ : ∀ h', Heap.SameBut a s.heap h' → SetS w h' a (fun j => S j || decide (j = k)) (if S k = true then n else n + 1) → Q (!S k) { s with heap := h' }) :
    wpAny (model P w) A (setAddHashed a (.str k tk) ((PySem.strKind P w).hash k)) Q E s := by
  obtain ⟨o, es, ep, t, ho, hex, hd, g, nd, hm, hb, hf, hn, hr, hl⟩ := R
  have hkey : (PySem.strKind P w).is k (.str k tk) = true := strKind_is P w k tk
  have hsc : (Value.str k tk).scannable = true := rfl
  have hel : ElemsOf (PySem.strKind P w) es.toList := goodT_elems g
  unfold setAddHashed setAddHashedIn
  refine wpAny_holding (wpAny_bind (wpAny_setState_of ho hd hf ?_))
  dsimp only
  rw [byScan_of hsc hb hel]
  simp only [↓reduceIte]
  unfold setAddByScan
  refine wpAny_bind ?_
  refine wpAny_bind (wpAny_rule ?_)
  refine wpAny_bind (wpAny_setScan_of hkey ho hd hf hel ?_)
  cases hfi : List.findIdx? (fun e => (PySem.strKind P w).is k e.2) es.toList with
  | some j =>
    dsimp only
    obtain ⟨hj, pj, _⟩ := List.findIdx?_eq_some_iff_getElem.mp hfi
    have hSk : S k = true := (hm k).2 ((goodT_mem (P := P) (w := w) g k).2 ⟨es.toList[j], List.getElem_mem hj, pj⟩)
    refine wpAny_pure (wpAny_pure ?_)
    have q := hQ s.heap (Heap.SameBut.refl a s.heap) ⟨o, es, ep, t, ho, hex, hd, g, nd, fun i => by
      rw [Bool.or_eq_true, decide_eq_true_eq, ← hm i]
      exact ⟨fun z => z.elim id (fun e => e ▸ hSk), .inl⟩, hb, hf, by rw [if_pos hSk]; exact hn, hr, hl⟩
    rw [hSk] at q
    exact q
  | none =>
    dsimp only
    have hnk : k ∉ es.toList.map keyT := fun z => by
      obtain ⟨e, he, q⟩ := (goodT_mem (P := P) (w := w) g k).1 z
      have c := List.findIdx?_eq_none_iff.mp hfi e he
      rw [q] at c
      cases c
    have hSk : S k = false := by
      cases q : S k with
      | false => rfl
      | true => exact absurd ((hm k).1 q) hnk
    have hgw : ∀ (b : Bool) {s₁ : Shared} {Q' : Unit → Shared → Prop}, Q' () s₁ → wpAny (model P w) A (match b with | true => rule "set.scan.the-table-gave-way" | false => pure ()) Q' E s₁ :=
      fun b s₁ Q' q => by cases b <;> first | exact wpAny_pure q | exact wpAny_rule q
    have pm := layNew_perm t es ((PySem.strKind P w).hash k) (.str k tk)
    have hf1 := layNew_fits t es ((PySem.strKind P w).hash k) (.str k tk)
    have hr1 := layNew_ris t es ((PySem.strKind P w).hash k) (.str k tk) hr
    have hl1 := layNew_led t es ((PySem.strKind P w).hash k) (.str k tk)
    generalize layNew t es ((PySem.strKind P w).hash k) (.str k tk) = Z at pm hf1 hr1 hl1 ⊢
    obtain ⟨es1, t1, wasDummy, gave⟩ := Z
    dsimp only at pm hf1 hr1 hl1 ⊢
    rw [Array.toList_push] at pm
    have pc : es1.toList.Perm (((PySem.strKind P w).hash k, Value.str k tk) :: es.toList) := pm.trans (List.perm_append_singleton _ _)
    have pk : (es1.toList.map keyT).Perm (k :: es.toList.map keyT) := pc.map keyT
    have g1 : ∀ e ∈ es1.toList, GoodT w e := fun e he => by
      rcases List.mem_cons.mp (pc.mem_iff.mp he) with z | z
      · rw [z]; exact ⟨k, tk, rfl, rfl⟩
      · exact g e z
    have nd1 : (es1.toList.map keyT).Nodup := pk.nodup_iff.mpr (List.nodup_cons.mpr ⟨hnk, nd⟩)
    have m1 : ∀ i, (S i || decide (i = k)) = true ↔ i ∈ es1.toList.map keyT := fun i => by
      rw [Bool.or_eq_true, decide_eq_true_eq, hm i, pk.mem_iff, List.mem_cons]
      exact Or.comm
    have hsz : es1.size = n + 1 := by rw [← Array.length_toList, pc.length_eq, List.length_cons, Array.length_toList, hn]
    have hb1 : es1.size < scanBound := by rw [hsz]; exact room
    have hled : w.params.followText "set-order" = true ∨ t1.led = true := hl.imp id fun z => by rw [hl1]; exact z
    have fin : ∀ h', Heap.SameBut a s.heap h' → SetS w h' a (fun j => S j || decide (j = k)) es1.size → Q true { s with heap := h' } := fun h' sb r => by
      have q := hQ h' sb
      rw [hSk] at q
      rw [hsz] at r
      exact q r
    refine wpAny_bind (hgw _ ?_)
    split
    · refine wpAny_bind ?_
      rw [hashByValue_scannable 8 hsc]
      refine wpAny_pure ?_
      refine setS_add_tail ?_ ho hex hd g1 nd1 m1 hb1 ?_ ?_ ?_ ?_
      · intro b s₁ Q' q; cases b <;> first | exact wpAny_pure q | exact wpAny_rule q
      · first | (split <;> first | exact hf1 | exact SetTable.fits_plain_off hf1) | exact hf1
      · first | (split <;> exact hr1) | exact hr1
      · first | (split <;> exact hled) | exact hled
      · intro h' sb r; dsimp only; exact wpAny_pure (fin h' sb r)
    · refine wpAny_bind (wpAny_pure ?_)
      simp only [↓reduceIte]
      refine setS_add_tail ?_ ho hex hd g1 nd1 m1 hb1 hf1 hr1 hled ?_
      · intro b s₁ Q' q; cases b <;> first | exact wpAny_pure q | exact wpAny_rule q
      · intro h' sb r; dsimp only; exact wpAny_pure (fin h' sb r)

end
section
variable {prog : Program} {w : World} {A : Around} {R : Result → Shared → Prop} {I : Addr} {fp wr : List Addr} {G : Array GenState → Array GenState → Prop} {n : Nat} {P : Nat → Value → Prop} {St : Nat → Shared → Prop}
theorem loopT (W : WalksS prog w A.in1 I fp wr G n P St) (S : Addr) (hSf : S ∉ fp)
    (val : Nat → Str) (hval : ∀ i v, P i v → ∃ t, v = .str (val i) t) (hb : n + 1 < scanBound) :
    ∀ (k i : Nat) (s : Shared), n - i = k → i ≤ n → St i s →
      (∃ m Sf, m ≤ i ∧ SetS w s.heap S Sf m) →
      (∀ s', Moved (S :: wr) G s s' → (∃ m Sf, m ≤ n ∧ SetS w s'.heap S Sf m) → R (.ok (.ret .none)) s') →
      codeAny (model prog w) A (.builtin "set.update.loop" ⟨[.ref S, .ref I], []⟩) R s := by
  have hSw : S ∉ wr := fun h => hSf (W.sub _ h)
  have hsub : ∀ b ∈ wr, b ∈ S :: wr := fun b hb => List.mem_cons_of_mem _ hb
  intro k
  induction k with
  | zero =>
    intro i s hk hi hst hS hR
    have hin : i = n := by omega
    subst hin
    refine codeAny_builtin PyProof.Rows.F.entry_set_update_loop ?_
    rw [Around.under_plainId PyProof.Rows.F.plain_set_update_loop _]
    show wpAny _ A.in1 (pyNext (.ref I) >>= _) _ _ s
    refine wpAny_bind (W.done s _ _ hst fun s' hm => ?_)
    show wpAny _ A.in1 (ret Value.none) _ _ s'
    exact wpAny_pure (hR s' (hm.mono hsub) (by
      obtain ⟨m, Sf, hle, hS⟩ := hS
      exact ⟨m, Sf, hle, hS.at fun o e => hm.heap S _ hSw e⟩))
  | succ k ih =>
    intro i s hk hi hst hS hR
    have hlt : i < n := by omega
    refine codeAny_builtin PyProof.Rows.F.entry_set_update_loop ?_
    rw [Around.under_plainId PyProof.Rows.F.plain_set_update_loop _]
    show wpAny _ A.in1 (pyNext (.ref I) >>= _) _ _ s
    refine wpAny_bind (W.item i s _ _ hlt hst fun v s' hP hst' hm => ?_)
    obtain ⟨t, rfl⟩ := hval i v hP
    obtain ⟨m, Sf, hle, hS⟩ := hS
    have hS' : SetS w s'.heap S Sf m := hS.at fun o e => hm.heap S _ hSw e
    show wpAny _ A.in1 (holding [Value.str (val i) t] (setAdd S (.str (val i) t)) >>= _) _ _ s'
    refine wpAny_bind (wpAny_holding ?_)
    unfold setAdd
    refine wpAny_holding ?_
    refine wpAny_bind ((PySem.strKind prog w).pyHash (k := val i) (strKind_is _ _ _ _) ?_)
    refine setS_add_hashed (s := { s' with toks := s'.toks + 1 }) hS' (by omega) fun h' hsb hS2 => ?_
    have hSi : ∃ m Sf, m ≤ i + 1 ∧ SetS w h' S Sf m := ⟨_, _, by split <;> omega, hS2⟩
    refine wpAny_pure ⟨plainId_quiet PyProof.Rows.F.plain_set_update_loop _, ih (i + 1) _ (by omega) hlt (W.frame _ s' _ _ hst' (Nat.le_succ _) fun b hb o e => ?_) hSi fun s'' hm'' hS'' => ?_⟩
    · rw [hsb.2 b (fun h : b = S => hSf (by rw [← h]; exact hb))]; exact e
    · refine hR s'' (Moved.trans W.gtrans ((hm.mono hsub).then_heap (Nat.le_succ _) fun b o hb e => ?_) hm'') hS''
      rw [hsb.2 b (fun h : b = S => hb (by rw [h]; exact List.mem_cons_self))]; exact e
end
section
variable {prog : Program} {w : World} {A : Around} {E : Value → Shared → Prop} {s : Shared}
theorem setS_fresh {h : Heap} (w : World) : SetS w (h.push { cls := .type "set", dict := none, data := .set #[] 0 (.fresh 0 0 (!w.params.followText "set-order")) }) h.objs.size (fun _ => false) 0 :=
  ⟨_, #[], 0, _, Heap.get?_push_size _ rfl, ⟨rfl, rfl, rfl⟩, rfl, (fun e he => by simp at he), (by simp), (fun k => by simp), (by decide), (by rfl), rfl, List.Pairwise.nil, by
    show _ ∨ (!w.params.followText "set-order") = true
    cases w.params.followText "set-order"
    · exact .inr rfl
    · exact .inl rfl⟩
theorem code_setT (a : Value) {Q₁ : Value → Shared → Prop}
    (h : Q₁ (.ref s.heap.objs.size) { s with heap := s.heap.push { cls := .type "set", dict := none, data := .set #[] 0 (.fresh 0 0 (!w.params.followText "set-order")) } }) :
    codeAny (model prog w) A (.call (.builtin "set.__new__") ⟨[.type "set", a], []⟩) (wants Q₁ E) s := by
  refine codeAny_of_tree ?_
  show wpAny _ A.in1 (do checkBuiltinCall "set.__new__" ⟨[.type "set", a], []⟩; again (.builtin "set.__new__" ⟨[.type "set", a], []⟩)) _ _ s
  refine wpAny_bind (wpAny_of_eq (PySem.F.newCall_set_1 a) (wpAny_pure ⟨plainId_quiet PySem.F.plain_set_new _, codeAny_builtin PySem.F.entry_set_new ?_⟩))
  rw [Around.under_plainId PySem.F.plain_set_new _]
  unfold Builtin.«set.__new__» Builtin.Frozenset.newClass
  have hsub := sub_set_self
  obtain ⟨hp, g, d, tk, os⟩ := s
  dsimp only
  wp_walk
  refine wpAny_askSetting (wpAny_pure ?_)
  dsimp only
  simp only [newObj]
  refine wpAny_bind (wpAny_alloc (wpAny_pure ?_))
  exact wpAny_pure h

set_option maxRecDepth 100000 in
set_option maxHeartbeats 3200000 in
theorem call_setT {l : Addr} {items : Array Value} {xs : List Str} {Q : Value → Shared → Prop}
    (hh : A.handled = none) (hl : s.heap.IsList l items) (hi : PyProof.Rows.StrsAre items.toList xs) (hb : items.size + 1 < scanBound)
    (h : ∀ (h' : Heap) (tk : Nat), (∃ m Sf, m ≤ items.size ∧ SetS w h' s.heap.objs.size Sf m) →
      (∀ b o, b < s.heap.objs.size → s.heap.get? b = some o → h'.get? b = some o) → Q (.ref s.heap.objs.size) { s with heap := h', toks := tk }) :
    wpAny (model prog w) A (call (.type "set") [.ref l]) Q E s := by
  obtain ⟨c, tl, hmro⟩ := PySem.F.called_set.mro
  have hmade := PySem.F.called_set.made
  have hsub := PySem.F.called_set.sub
  refine wpAny_call (codeAny_of_tree ?_)
  show wpAny _ _ (callAny (.type "set") _) _ _ _
  refine wpAny_pure ⟨Code.quiet_builtin _ (by decide +kernel), codeAny_builtin PySem.F.entry_type_call ?_⟩
  rw [Around.under_plain (weight_type_call_type "set" [.ref l] []) rfl]
  have h1 := PySem.F.called_set.notType
  have h2 := PySem.F.called_set.canCreate
  have hct := PySem.F.typeCall_set_1 (.ref l)
  repeat (any_goals (first | assumption | wp_step))

  refine codeAny_mono (code_setT (.ref l) (E := E) (Q₁ := fun obj s₁ => obj = .ref s.heap.objs.size ∧ s₁ = { s with heap := s.heap.push { cls := .type "set", dict := none, data := .set #[] 0 (.fresh 0 0 (!w.params.followText "set-order")) } }) ⟨rfl, rfl⟩) fun r s₁ hr => ?_
  cases r with
  | error e => exact hr
  | ok fl =>
    cases fl with
    | ret obj =>
      obtain ⟨rfl, rfl⟩ := hr
      have hS : (s.heap.push { cls := .type "set", dict := none, data := .set #[] 0 (.fresh 0 0 (!w.params.followText "set-order")) }).get? s.heap.objs.size = some { cls := .type "set", dict := none, data := .set #[] 0 (.fresh 0 0 (!w.params.followText "set-order")) } := Heap.get?_push_size _ rfl
      have hT : Shared.TypeIs { s with heap := s.heap.push { cls := .type "set", dict := none, data := .set #[] 0 (.fresh 0 0 (!w.params.followText "set-order")) } } (.ref s.heap.objs.size) "set" := ⟨_, hS, rfl⟩
      have hli := PySem.F.called_set.init.lookup
      have hbi := PySem.F.called_set.init.bind (.ref s.heap.objs.size)
      repeat (any_goals (first | assumption | wp_step))

      refine codeAny_mono (codeAny_call_builtin (R := wants (fun r s₂ => r = .none ∧ ∃ h' tk, s₂ = { s with heap := h', toks := tk } ∧
          (∃ m Sf, m ≤ items.size ∧ SetS w h' s.heap.objs.size Sf m) ∧
          (∀ b o, b < s.heap.objs.size → s.heap.get? b = some o → h'.get? b = some o)) E) PySem.F.called_set.init.plain PySem.F.entry_set_init (check_set_init_1 hT ?_)) fun r₂ s₂ hr₂ => ?_
      · obtain ⟨ol, hol, hcl, nl, hdl⟩ := hl
        obtain ⟨ocls, odict, odata, oslots⟩ := ol
        simp only at hcl hdl
        subst hcl; subst hdl
        have hol' : (s.heap.push { cls := .type "set", dict := none, data := .set #[] 0 (.fresh 0 0 (!w.params.followText "set-order")) }).get? l = some { cls := .type "list", dict := odict, data := .seq items nl, slots := oslots } := Heap.get?_push_of_some _ hol
        have hsls := PySem.F.sub_list_set
        have hslf := PySem.F.sub_list_frozenset
        have hne : (Value.type "list" == Value.type "dict") = false := by decide
        have hl1 : (s.heap.push { cls := .type "set", dict := none, data := .set #[] 0 (.fresh 0 0 (!w.params.followText "set-order")) }).IsList l items := ⟨_, hol', rfl, nl, rfl⟩
        unfold Builtin.«set.__init__» noKeywords Builtin.Frozenset.updateFrom
        generalize hPI : pyIter = PI
        wp_walk
        subst hPI

        refine wpAny_pyIter_list hl1 ?_
        refine wpAny_bind (wpAny_runValue ?_)
        have hlS : l < s.heap.objs.size := Heap.lt_size hol
        have hh3 : A.in1.in1.in1.handled = none := by simp [hh]
        have hneI : l ≠ (s.heap.push { cls := .type "set", dict := none, data := .set #[] 0 (.fresh 0 0 (!w.params.followText "set-order")) }).objs.size := by
          rw [Heap.size_push]; exact Nat.ne_of_lt (Nat.lt_succ_of_lt hlS)
        have hSf : s.heap.objs.size ∉ [(s.heap.push { cls := .type "set", dict := none, data := .set #[] 0 (.fresh 0 0 (!w.params.followText "set-order")) }).objs.size, l] := by
          rw [Heap.size_push]; simp only [List.mem_cons, List.mem_singleton, List.not_mem_nil, or_false, not_or]
          exact ⟨Nat.ne_of_lt (Nat.lt_succ_self _), Nat.ne_of_gt hlS⟩
        have hval : ∀ (i : Nat) (v : Value), items[i]? = some v → ∃ t, v = .str ((fun i => xs.getD i Str.empty) i) t := fun i v hv => SS.strs_at hi i v (by rw [Array.getElem?_toList]; exact hv)
        refine loopT ((Walks.list hh3 _ l hneI items).toS) s.heap.objs.size
          hSf (fun i => xs.getD i Str.empty) hval hb (items.size - 0) 0 _ (by omega) (Nat.zero_le _)
          ⟨⟨_, Heap.get?_push_size _ rfl, rfl, rfl⟩, (hl1.push _)⟩ ?hS0 ?hR
        case hS0 =>
          exact ⟨0, _, Nat.le_refl 0, (setS_fresh (h := s.heap) w).at fun o e => Heap.get?_push_of_some _ e⟩
        case hR =>
          intro s' hm hS'
          obtain ⟨h', g', d', tk', os'⟩ := s'
          have eg : g' = s.gens := hm.gens
          have ed : d' = s.drawn := hm.drawn
          have eo : os' = s.os := hm.os
          subst eg; subst ed; subst eo
          show wpAny _ _ _ _ _ _
          refine wpAny_pure ?_
          show wpAny _ _ (ret Value.none) _ _ _
          refine wpAny_pure ⟨rfl, h', tk', rfl, hS', fun b o hb e => ?_⟩
          have hb1 : b ≠ s.heap.objs.size := Nat.ne_of_lt hb
          have hb2 : b ≠ (s.heap.push { cls := .type "set", dict := none, data := .set #[] 0 (.fresh 0 0 (!w.params.followText "set-order")) }).objs.size := by
            rw [Heap.size_push]; exact Nat.ne_of_lt (Nat.lt_succ_of_lt hb)
          exact hm.heap b o (by simp only [List.mem_cons, List.mem_singleton, List.not_mem_nil, or_false, not_or]; exact ⟨hb1, hb2⟩) (Heap.get?_push_of_some _ (Heap.get?_push_of_some _ e))

      · cases r₂ with
        | error e => exact hr₂
        | ok fl₂ =>
          cases fl₂ with
          | ret r =>
            obtain ⟨rfl, h', tk, rfl, hS', hk'⟩ := hr₂
            repeat (any_goals (first | assumption | wp_step))
            exact h _ _ hS' hk'
          | _ => exact hr₂.elim
    | _ => exact hr.elim
end
end Nr
end
section
set_option Elab.async false
set_option linter.all false
set_option maxRecDepth 100000
set_option maxHeartbeats 1000000
namespace Nr
open PySem PySem.Spec PyProof.Rows L2
theorem strs_of : ∀ (l : List Value), (∀ v ∈ l, ∃ k tk, v = Value.str k tk) → ∃ ss, StrsAre l ss ∧ ss.length = l.length
  | [], _ => ⟨[], .nil, rfl⟩
  | v :: l, h => by
    obtain ⟨k, tk, rfl⟩ := h v List.mem_cons_self
    obtain ⟨ss, h1, h2⟩ := strs_of l fun v hv => h v (List.mem_cons_of_mem _ hv)
    exact ⟨k :: ss, .cons k tk h1, by rw [List.length_cons, List.length_cons, h2]⟩
section
variable {P : Program} {w : World} {A : Around} {E : Value → Shared → Prop} {s : Shared} {a : Addr}
theorem sorted_setT {S : Str → Bool} {n : Nat} {Q : Value → Shared → Prop} (R : SetS w s.heap a S n) (hh : A.handled = none) (h64 : n < 64)
    (hQ : ∀ s' p (out : Array Value) (c : Nat) (ss : List Str), (∀ b o, s.heap.get? b = some o → s'.heap.get? b = some o) → s'.gens = s.gens → s'.os = s.os → s.heap.objs.size ≤ p →
      s'.heap.get? p = some (seqObj "list" out c) → StrsAre out.toList ss → ss.length = n → Q (.ref p) s') :
    wpAny (model P w) A (call (.builtin "sorted") [.ref a]) Q E s := by
  obtain ⟨o, es, ep, t, ho, hex, hd, g, nd, hm, hb, hf, hn, hr, hl⟩ := R
  refine Calls.call_function_entry kind_sorted plain_sorted entry_sorted (args_sorted1 _) ?_
  unfold Builtin.«sorted»
  refine wpAny_bind (m := checkCount "sorted" 1 1 _) (wpAny_pure ?_)
  refine wpAny_bind (collect_set (A := A.in1) hh ⟨o, ho, hex.1, hd⟩ hf hb hr hl fun s1 vs k1 hz g1 o1 pm => ?_)
  have hvl : vs.length = n := by rw [pm.length_eq, List.length_map, Array.length_toList]; exact hn
  obtain ⟨ss, hI, hsl⟩ := strs_of vs fun v hv => by
    obtain ⟨e, he, q⟩ := List.mem_map.mp (pm.mem_iff.mp hv)
    obtain ⟨k, tk, h1, _⟩ := g e he
    exact ⟨k, tk, by rw [← q]; exact h1⟩
  refine wpAny_bind (wpAny_newList ?_ (by rw [hvl, sizeLine_eq]; omega))
  have hoL : (s1.heap.push (seqObj "list" vs.toArray 0)).get? s1.heap.objs.size = some (seqObj "list" vs.toArray 0) := Heap.get?_push_size _ rfl
  refine wpAny_bind (wpAny_holding (wpAny_call_entry slot_list_sort ⟨_, hoL, rfl⟩ entry_list_sort (list_sort_treeKAny strKind_oneLt hoL hI.keysOf (fun v₁ v₂ rest e => keyKind_strs (by rw [← e]; exact hI)) (by rw [hvl, sizeLine_eq]; omega) fun st' hp hs => ⟨_, rfl, ?_⟩) (args_list_sort _)))
  obtain ⟨ss', a1, a2, a3⟩ := sorted_out_str hI hp hs
  obtain ⟨c, hc⟩ := sortedHeap_at (vs := vs) (out := (arrOf st').map (·.2)) hoL
  refine wpAny_pure ⟨_, rfl, hQ _ s1.heap.objs.size _ c ss' (fun b u e => ?_) g1 o1 hz hc a1 (by rw [a2.length_eq, hsl, hvl])⟩
  have q := k1 b u e
  have hlt := Heap.lt_size q
  show (sortedHeap (s1.heap.push (seqObj "list" vs.toArray 0)) s1.heap.objs.size vs _).get? b = some u
  rw [sortedHeap_old (Nat.ne_of_lt hlt) (by rw [size_push']; exact Nat.lt_succ_of_lt hlt)]
  exact Heap.get?_push_of_some _ q
end
end Nr
end
section
set_option Elab.async false
set_option linter.all false
set_option maxRecDepth 100000
set_option maxHeartbeats 1000000
namespace Nr
open PySem PySem.Spec PyProof.Rows L2
/-- a set of texts at a, at most n -/
def SetTO (w : World) (a : Addr) (n : Nat) : HO := .ext fun h => ∃ S m, m ≤ n ∧ SetS w h a S m
section
variable {X : Cx}
theorem setTO_new {w : World} {P : Program} {H : Hp} {h : Heap} {a : Addr} {n : Nat} (R : ∃ S m, m ≤ n ∧ SetS w h a S m) : ObjOk P w H h a (SetTO w a n) := by
  obtain ⟨S, m, hm, R⟩ := R
  have ⟨o, _, _, _, ho, _⟩ := R
  exact ⟨⟨S, m, hm, R⟩, ⟨o, ho⟩, fun h1 h2 p k => by
    obtain ⟨S, m, hm, R⟩ := p
    exact ⟨S, m, hm, R.at k⟩⟩
theorem setTO_get {pins : List (Addr × Obj)} {σ : L2.St} {H : Hp} {s : Shared} {a : Addr} {n : Nat} (I : Inv X pins σ H s) (ha : H a = some (SetTO X.w a n)) : ∃ S m, m ≤ n ∧ SetS X.w s.heap a S m := (I.hok a _ ha).1
/-- set(xs), xs a list of fewer than 64 texts -/
def rSetT (K : PySem.W.Frag) (w : World) : List V → Hp → VK → Prop := fun vs H Q => ∃ (l : Addr) (xs : List Str), vs = [.ref l] ∧ SqL K H l (xs.map V.str) ∧ xs.length < 64 ∧ ∀ p, H p = none → Q (.ref p) (upd H p (SetTO w p xs.length))
theorem cr_setT (hc : X.calm = true) : CallR X (.type "set") (rSetT X.K X.w) := by
  intro pins s σ H vs us Q I r h
  obtain ⟨l, xs, rfl, hq, h64, q⟩ := h
  rw [Vals.ref1 r]
  obtain ⟨its, rv, pl, hz⟩ := I.list hq
  have hl : its.toArray.size = xs.length := by rw [List.size_toArray, ← rv.length, List.length_map]
  refine call_setT (I.ok.hd hc) pl.isList (xs := xs) (by simpa using strsAre_of rv) (by rw [hl]; unfold scanBound; omega) fun h' tk hS hk => ?_
  obtain ⟨m, Sf, hm, hS⟩ := hS
  rw [hl] at hm
  exact ⟨.ref _, upd H s.heap.objs.size (SetTO X.w s.heap.objs.size xs.length), I.laid (t' := tk) (fun b u e => hk b u (Heap.lt_size e) e) (Nat.le_refl _) (setTO_new ⟨Sf, m, hm, hS⟩), rfl, q _ (I.hok.fresh (Nat.le_refl _))⟩
/-- sorted of such a set -/
def rSortedT (w : World) : List V → Hp → VK → Prop := fun vs H Q => ∃ (a : Addr) (n : Nat), vs = [.ref a] ∧ H a = some (SetTO w a n) ∧ n < 64 ∧ ∀ (ss : List Str) (p : Addr), ss.length ≤ n → H p = none → Q (.ref p) (upd H p (.lst (ss.map V.str)))
theorem cr_sortedT (hc : X.calm = true) : CallR X (.builtin "sorted") (rSortedT X.w) := by
  intro pins s σ H vs us Q I r h
  obtain ⟨a, n, rfl, ha, h64, q⟩ := h
  obtain ⟨S, m, hm, R⟩ := setTO_get I ha
  rw [Vals.ref1 r]
  refine sorted_setT R (I.ok.hd hc) (by omega) fun s' p out c ss k g o hp hg hi hl => ?_
  have hlen : (ss.map V.str).length ≤ sizeLine := by rw [List.length_map, hl, sizeLine_eq]; omega
  have hn : H p = none := I.hok.fresh hp
  have J : Inv X pins σ (upd H p (.lst (ss.map V.str))) { s with heap := s'.heap, gens := s'.gens, drawn := s'.drawn, toks := s'.toks } :=
    I.call (ch := []) (Un.laid k hp hn) (I.hok.laid k hp ⟨hlen, out.toList, c, vals_of_strs hi, hg⟩) (by rw [g]; exact I.bare) (fun _ z => nomatch z)
  have e : s' = { s with heap := s'.heap, gens := s'.gens, drawn := s'.drawn, toks := s'.toks } := by
    cases s'
    cases s
    cases o
    rfl
  rw [e]
  exact ⟨.ref p, _, J, rfl, q ss p (by omega) hn⟩
end
end Nr
end
section
set_option Elab.async false
set_option linter.all false
set_option maxRecDepth 100000
set_option maxHeartbeats 4000000
namespace Nt
open PySem PySem.Spec PyProof.Rows L2
def top (i : Nat) : Stmt := PySem.Challenge.pw_newesttells_k35_whole_shows_until.main.body.getD i (.Pass ⟨0, 0, 0, 0⟩)
structure Ad where
  f : Str → Addr
  fd : Str → FuncData
  C : Str → Addr
abbrev s_isname : Stmt := top 15
abbrev s_isnumber : Stmt := top 16
abbrev s_newestat : Stmt := top 18
abbrev s_nextat : Stmt := top 19
abbrev s_seen : Stmt := top 20
abbrev s_showsuntil : Stmt := top 21
abbrev s_latestidle : Stmt := top 22
abbrev s_checkcells : Stmt := top 34
abbrev s_isrow : Stmt := top 35
abbrev s_over : Stmt := top 36
abbrev s_lotof : Stmt := top 37
abbrev s_blank : Stmt := top 38
abbrev s_within : Stmt := top 39
abbrev s_union : Stmt := top 40
abbrev s_lotsize : Stmt := top 41
abbrev s_orderedlots : Stmt := top 42
abbrev s_checkseeds : Stmt := top 52
abbrev s_grownrows : Stmt := top 53
abbrev s_Bandinit : Stmt := inClass (top 54) 0
abbrev s_Bandnames : Stmt := inClass (top 54) 3
abbrev s_Bandblankrow : Stmt := inClass (top 54) 8
abbrev s_Bandcheckrow : Stmt := inClass (top 54) 11
abbrev s_newesttellers : Stmt := top 56
abbrev s_Streaminit : Stmt := inClass (top 59) 0
abbrev s_Streamstanding : Stmt := inClass (top 59) 1
abbrev s_Streamsparecount : Stmt := inClass (top 59) 2
abbrev s_Streamrows : Stmt := inClass (top 59) 3
abbrev s_Streamput : Stmt := inClass (top 59) 9
abbrev s_Streamwindow : Stmt := inClass (top 59) 13
abbrev s_Streamtellers : Stmt := inClass (top 59) 14
abbrev s_Streamendof : Stmt := inClass (top 59) 15
abbrev s_Streamends : Stmt := inClass (top 59) 16
abbrev s_Streamtwin : Stmt := inClass (top 59) 19
abbrev s_Streamlen : Stmt := inClass (top 59) 22
abbrev s_Streambool : Stmt := inClass (top 59) 23
abbrev s_Streamrepr : Stmt := inClass (top 59) 24
abbrev s_Streamcheckmoment : Stmt := inClass (top 59) 25
abbrev s_Streamlastmoment : Stmt := inClass (top 59) 26
abbrev s_Streamwindowrow : Stmt := inClass (top 59) 27
abbrev s_wbag : Stmt := top 61
abbrev s_wdraw : Stmt := top 62
abbrev s_wof : Stmt := top 63
abbrev s_wsame : Stmt := top 64
abbrev s_wword : Stmt := top 65
abbrev s_wframe : Stmt := top 66
abbrev s_wseed : Stmt := top 67
abbrev s_wmended : Stmt := top 68
abbrev s_wover : Stmt := top 69
abbrev s_wclosed : Stmt := top 70
abbrev s_whome : Stmt := top 71
abbrev s_wline : Stmt := top 72
abbrev s_wpast : Stmt := top 73
abbrev s_wstanding : Stmt := top 74
abbrev s_wtellers : Stmt := top 75
abbrev s_wend : Stmt := top 76
abbrev s_wfacts : Stmt := top 77
abbrev s_wduefacts : Stmt := top 78
abbrev s_wis : Stmt := top 79
abbrev s_wwrong : Stmt := top 80
abbrev s_wany : Stmt := top 81
abbrev s_woddline : Stmt := top 82
abbrev s_wsomeline : Stmt := top 83
abbrev s_wsomespot : Stmt := top 84
abbrev s_wasksuntil : Stmt := top 85
abbrev s_wasksseen : Stmt := top 86
abbrev s_wuntil : Stmt := top 87
abbrev s_wfullso : Stmt := top 88
abbrev s_law : Stmt := top 89
abbrev s_BadRowinit : Stmt := inClass (top 5) 0
abbrev s_NotInBandinit : Stmt := inClass (top 11) 0
abbrev s_NoMomentinit : Stmt := inClass (top 12) 0
structure Tx (K : PySem.W.Frag) (mg : Str → Option Value) (A : Ad) : Prop where
  F_isname : FunD K "is_name" "is_name" (defArgs s_isname) (defBody s_isname) (defScope s_isname) [] [] (A.f "is_name") (A.fd "is_name")
  g_isname : mg "is_name" = some (.ref (A.f "is_name"))
  F_isnumber : FunD K "is_number" "is_number" (defArgs s_isnumber) (defBody s_isnumber) (defScope s_isnumber) [] [] (A.f "is_number") (A.fd "is_number")
  g_isnumber : mg "is_number" = some (.ref (A.f "is_number"))
  F_newestat : FunD K "newest_at" "newest_at" (defArgs s_newestat) (defBody s_newestat) (defScope s_newestat) [] [] (A.f "newest_at") (A.fd "newest_at")
  g_newestat : mg "newest_at" = some (.ref (A.f "newest_at"))
  F_nextat : FunD K "next_at" "next_at" (defArgs s_nextat) (defBody s_nextat) (defScope s_nextat) [] [] (A.f "next_at") (A.fd "next_at")
  g_nextat : mg "next_at" = some (.ref (A.f "next_at"))
  F_seen : FunD K "seen" "seen" (defArgs s_seen) (defBody s_seen) (defScope s_seen) [] [] (A.f "seen") (A.fd "seen")
  g_seen : mg "seen" = some (.ref (A.f "seen"))
  F_showsuntil : FunD K "shows_until" "shows_until" (defArgs s_showsuntil) (defBody s_showsuntil) (defScope s_showsuntil) [] [] (A.f "shows_until") (A.fd "shows_until")
  g_showsuntil : mg "shows_until" = some (.ref (A.f "shows_until"))
  F_latestidle : FunD K "latest_idle" "latest_idle" (defArgs s_latestidle) (defBody s_latestidle) (defScope s_latestidle) [] [] (A.f "latest_idle") (A.fd "latest_idle")
  g_latestidle : mg "latest_idle" = some (.ref (A.f "latest_idle"))
  F_checkcells : FunD K "check_cells" "check_cells" (defArgs s_checkcells) (defBody s_checkcells) (defScope s_checkcells) [] [] (A.f "check_cells") (A.fd "check_cells")
  g_checkcells : mg "check_cells" = some (.ref (A.f "check_cells"))
  F_isrow : FunD K "is_row" "is_row" (defArgs s_isrow) (defBody s_isrow) (defScope s_isrow) [] [] (A.f "is_row") (A.fd "is_row")
  g_isrow : mg "is_row" = some (.ref (A.f "is_row"))
  F_over : FunD K "over" "over" (defArgs s_over) (defBody s_over) (defScope s_over) [] [] (A.f "over") (A.fd "over")
  g_over : mg "over" = some (.ref (A.f "over"))
  F_lotof : FunD K "lot_of" "lot_of" (defArgs s_lotof) (defBody s_lotof) (defScope s_lotof) [] [] (A.f "lot_of") (A.fd "lot_of")
  g_lotof : mg "lot_of" = some (.ref (A.f "lot_of"))
  F_blank : FunD K "blank" "blank" (defArgs s_blank) (defBody s_blank) (defScope s_blank) [] [] (A.f "blank") (A.fd "blank")
  g_blank : mg "blank" = some (.ref (A.f "blank"))
  F_within : FunD K "within" "within" (defArgs s_within) (defBody s_within) (defScope s_within) [] [] (A.f "within") (A.fd "within")
  g_within : mg "within" = some (.ref (A.f "within"))
  F_union : FunD K "union" "union" (defArgs s_union) (defBody s_union) (defScope s_union) [] [] (A.f "union") (A.fd "union")
  g_union : mg "union" = some (.ref (A.f "union"))
  F_lotsize : FunD K "lot_size" "lot_size" (defArgs s_lotsize) (defBody s_lotsize) (defScope s_lotsize) [] [] (A.f "lot_size") (A.fd "lot_size")
  g_lotsize : mg "lot_size" = some (.ref (A.f "lot_size"))
  F_orderedlots : FunD K "ordered_lots" "ordered_lots" (defArgs s_orderedlots) (defBody s_orderedlots) (defScope s_orderedlots) [] [] (A.f "ordered_lots") (A.fd "ordered_lots")
  g_orderedlots : mg "ordered_lots" = some (.ref (A.f "ordered_lots"))
  F_checkseeds : FunD K "check_seeds" "check_seeds" (defArgs s_checkseeds) (defBody s_checkseeds) (defScope s_checkseeds) [] [] (A.f "check_seeds") (A.fd "check_seeds")
  g_checkseeds : mg "check_seeds" = some (.ref (A.f "check_seeds"))
  F_grownrows : FunD K "grown_rows" "grown_rows" (defArgs s_grownrows) (defBody s_grownrows) (defScope s_grownrows) [] [] (A.f "grown_rows") (A.fd "grown_rows")
  g_grownrows : mg "grown_rows" = some (.ref (A.f "grown_rows"))
  F_Bandinit : FunD K "__init__" "Band.__init__" (defArgs s_Bandinit) (defBody s_Bandinit) (defScope s_Bandinit) [] [("most", .int 800)] (A.f "Band.__init__") (A.fd "Band.__init__")
  F_Bandnames : FunD K "names" "Band.names" (defArgs s_Bandnames) (defBody s_Bandnames) (defScope s_Bandnames) [] [] (A.f "Band.names") (A.fd "Band.names")
  m_Bandnames : Meth K (A.C "Band") "names" (A.f "Band.names")
  F_Bandblankrow : FunD K "blank_row" "Band.blank_row" (defArgs s_Bandblankrow) (defBody s_Bandblankrow) (defScope s_Bandblankrow) [] [] (A.f "Band.blank_row") (A.fd "Band.blank_row")
  m_Bandblankrow : Meth K (A.C "Band") "blank_row" (A.f "Band.blank_row")
  F_Bandcheckrow : FunD K "check_row" "Band.check_row" (defArgs s_Bandcheckrow) (defBody s_Bandcheckrow) (defScope s_Bandcheckrow) [] [] (A.f "Band.check_row") (A.fd "Band.check_row")
  m_Bandcheckrow : Meth K (A.C "Band") "check_row" (A.f "Band.check_row")
  F_newesttellers : FunD K "newest_tellers" "newest_tellers" (defArgs s_newesttellers) (defBody s_newesttellers) (defScope s_newesttellers) [] [] (A.f "newest_tellers") (A.fd "newest_tellers")
  g_newesttellers : mg "newest_tellers" = some (.ref (A.f "newest_tellers"))
  F_Streaminit : FunD K "__init__" "Stream.__init__" (defArgs s_Streaminit) (defBody s_Streaminit) (defScope s_Streaminit) [.ref (A.f "()")] [] (A.f "Stream.__init__") (A.fd "Stream.__init__")
  F_Streamstanding : FunD K "standing" "Stream.standing" (defArgs s_Streamstanding) (defBody s_Streamstanding) (defScope s_Streamstanding) [] [] (A.f "Stream.standing") (A.fd "Stream.standing")
  p_Streamstanding : PropOf K (A.C "Stream") "standing" (A.C "Stream.standing") (A.f "Stream.standing")
  F_Streamsparecount : FunD K "spare_count" "Stream.spare_count" (defArgs s_Streamsparecount) (defBody s_Streamsparecount) (defScope s_Streamsparecount) [] [] (A.f "Stream.spare_count") (A.fd "Stream.spare_count")
  p_Streamsparecount : PropOf K (A.C "Stream") "spare_count" (A.C "Stream.spare_count") (A.f "Stream.spare_count")
  F_Streamrows : FunD K "rows" "Stream.rows" (defArgs s_Streamrows) (defBody s_Streamrows) (defScope s_Streamrows) [] [] (A.f "Stream.rows") (A.fd "Stream.rows")
  m_Streamrows : Meth K (A.C "Stream") "rows" (A.f "Stream.rows")
  F_Streamput : FunD K "put" "Stream.put" (defArgs s_Streamput) (defBody s_Streamput) (defScope s_Streamput) [] [] (A.f "Stream.put") (A.fd "Stream.put")
  m_Streamput : Meth K (A.C "Stream") "put" (A.f "Stream.put")
  F_Streamwindow : FunD K "window" "Stream.window" (defArgs s_Streamwindow) (defBody s_Streamwindow) (defScope s_Streamwindow) [] [("start", .int 1), ("end", .non)] (A.f "Stream.window") (A.fd "Stream.window")
  m_Streamwindow : Meth K (A.C "Stream") "window" (A.f "Stream.window")
  F_Streamtellers : FunD K "tellers" "Stream.tellers" (defArgs s_Streamtellers) (defBody s_Streamtellers) (defScope s_Streamtellers) [] [("start", .int 1), ("end", .non)] (A.f "Stream.tellers") (A.fd "Stream.tellers")
  m_Streamtellers : Meth K (A.C "Stream") "tellers" (A.f "Stream.tellers")
  F_Streamendof : FunD K "end_of" "Stream.end_of" (defArgs s_Streamendof) (defBody s_Streamendof) (defScope s_Streamendof) [] [] (A.f "Stream.end_of") (A.fd "Stream.end_of")
  m_Streamendof : Meth K (A.C "Stream") "end_of" (A.f "Stream.end_of")
  F_Streamends : FunD K "ends" "Stream.ends" (defArgs s_Streamends) (defBody s_Streamends) (defScope s_Streamends) [] [] (A.f "Stream.ends") (A.fd "Stream.ends")
  m_Streamends : Meth K (A.C "Stream") "ends" (A.f "Stream.ends")
  F_Streamtwin : FunD K "twin" "Stream.twin" (defArgs s_Streamtwin) (defBody s_Streamtwin) (defScope s_Streamtwin) [] [] (A.f "Stream.twin") (A.fd "Stream.twin")
  m_Streamtwin : Meth K (A.C "Stream") "twin" (A.f "Stream.twin")
  F_Streamlen : FunD K "__len__" "Stream.__len__" (defArgs s_Streamlen) (defBody s_Streamlen) (defScope s_Streamlen) [] [] (A.f "Stream.__len__") (A.fd "Stream.__len__")
  m_Streamlen : Meth K (A.C "Stream") "__len__" (A.f "Stream.__len__")
  F_Streambool : FunD K "__bool__" "Stream.__bool__" (defArgs s_Streambool) (defBody s_Streambool) (defScope s_Streambool) [] [] (A.f "Stream.__bool__") (A.fd "Stream.__bool__")
  m_Streambool : Meth K (A.C "Stream") "__bool__" (A.f "Stream.__bool__")
  F_Streamrepr : FunD K "__repr__" "Stream.__repr__" (defArgs s_Streamrepr) (defBody s_Streamrepr) (defScope s_Streamrepr) [] [] (A.f "Stream.__repr__") (A.fd "Stream.__repr__")
  m_Streamrepr : Meth K (A.C "Stream") "__repr__" (A.f "Stream.__repr__")
  F_Streamcheckmoment : FunD K "check_moment" "Stream.check_moment" (defArgs s_Streamcheckmoment) (defBody s_Streamcheckmoment) (defScope s_Streamcheckmoment) [] [] (A.f "Stream.check_moment") (A.fd "Stream.check_moment")
  m_Streamcheckmoment : Meth K (A.C "Stream") "check_moment" (A.f "Stream.check_moment")
  F_Streamlastmoment : FunD K "last_moment" "Stream.last_moment" (defArgs s_Streamlastmoment) (defBody s_Streamlastmoment) (defScope s_Streamlastmoment) [] [] (A.f "Stream.last_moment") (A.fd "Stream.last_moment")
  m_Streamlastmoment : Meth K (A.C "Stream") "last_moment" (A.f "Stream.last_moment")
  F_Streamwindowrow : FunD K "window_row" "Stream.window_row" (defArgs s_Streamwindowrow) (defBody s_Streamwindowrow) (defScope s_Streamwindowrow) [] [] (A.f "Stream.window_row") (A.fd "Stream.window_row")
  m_Streamwindowrow : Meth K (A.C "Stream") "window_row" (A.f "Stream.window_row")
  F_wbag : FunD K "_law_bag" "_law_bag" (defArgs s_wbag) (defBody s_wbag) (defScope s_wbag) [] [] (A.f "_law_bag") (A.fd "_law_bag")
  g_wbag : mg "_law_bag" = some (.ref (A.f "_law_bag"))
  F_wdraw : FunD K "_law_draw" "_law_draw" (defArgs s_wdraw) (defBody s_wdraw) (defScope s_wdraw) [] [] (A.f "_law_draw") (A.fd "_law_draw")
  g_wdraw : mg "_law_draw" = some (.ref (A.f "_law_draw"))
  F_wof : FunD K "_law_of" "_law_of" (defArgs s_wof) (defBody s_wof) (defScope s_wof) [] [] (A.f "_law_of") (A.fd "_law_of")
  g_wof : mg "_law_of" = some (.ref (A.f "_law_of"))
  F_wsame : FunD K "_law_same" "_law_same" (defArgs s_wsame) (defBody s_wsame) (defScope s_wsame) [] [] (A.f "_law_same") (A.fd "_law_same")
  g_wsame : mg "_law_same" = some (.ref (A.f "_law_same"))
  F_wword : FunD K "_law_word" "_law_word" (defArgs s_wword) (defBody s_wword) (defScope s_wword) [] [] (A.f "_law_word") (A.fd "_law_word")
  g_wword : mg "_law_word" = some (.ref (A.f "_law_word"))
  F_wframe : FunD K "_law_frame" "_law_frame" (defArgs s_wframe) (defBody s_wframe) (defScope s_wframe) [] [] (A.f "_law_frame") (A.fd "_law_frame")
  g_wframe : mg "_law_frame" = some (.ref (A.f "_law_frame"))
  F_wseed : FunD K "_law_seed" "_law_seed" (defArgs s_wseed) (defBody s_wseed) (defScope s_wseed) [] [] (A.f "_law_seed") (A.fd "_law_seed")
  g_wseed : mg "_law_seed" = some (.ref (A.f "_law_seed"))
  F_wmended : FunD K "_law_mended" "_law_mended" (defArgs s_wmended) (defBody s_wmended) (defScope s_wmended) [] [] (A.f "_law_mended") (A.fd "_law_mended")
  g_wmended : mg "_law_mended" = some (.ref (A.f "_law_mended"))
  F_wover : FunD K "_law_over" "_law_over" (defArgs s_wover) (defBody s_wover) (defScope s_wover) [] [] (A.f "_law_over") (A.fd "_law_over")
  g_wover : mg "_law_over" = some (.ref (A.f "_law_over"))
  F_wclosed : FunD K "_law_closed" "_law_closed" (defArgs s_wclosed) (defBody s_wclosed) (defScope s_wclosed) [] [] (A.f "_law_closed") (A.fd "_law_closed")
  g_wclosed : mg "_law_closed" = some (.ref (A.f "_law_closed"))
  F_whome : FunD K "_law_home" "_law_home" (defArgs s_whome) (defBody s_whome) (defScope s_whome) [] [] (A.f "_law_home") (A.fd "_law_home")
  g_whome : mg "_law_home" = some (.ref (A.f "_law_home"))
  F_wline : FunD K "_law_line" "_law_line" (defArgs s_wline) (defBody s_wline) (defScope s_wline) [] [] (A.f "_law_line") (A.fd "_law_line")
  g_wline : mg "_law_line" = some (.ref (A.f "_law_line"))
  F_wpast : FunD K "_law_past" "_law_past" (defArgs s_wpast) (defBody s_wpast) (defScope s_wpast) [] [] (A.f "_law_past") (A.fd "_law_past")
  g_wpast : mg "_law_past" = some (.ref (A.f "_law_past"))
  F_wstanding : FunD K "_law_standing" "_law_standing" (defArgs s_wstanding) (defBody s_wstanding) (defScope s_wstanding) [] [] (A.f "_law_standing") (A.fd "_law_standing")
  g_wstanding : mg "_law_standing" = some (.ref (A.f "_law_standing"))
  F_wtellers : FunD K "_law_tellers" "_law_tellers" (defArgs s_wtellers) (defBody s_wtellers) (defScope s_wtellers) [] [] (A.f "_law_tellers") (A.fd "_law_tellers")
  g_wtellers : mg "_law_tellers" = some (.ref (A.f "_law_tellers"))
  F_wend : FunD K "_law_end" "_law_end" (defArgs s_wend) (defBody s_wend) (defScope s_wend) [] [] (A.f "_law_end") (A.fd "_law_end")
  g_wend : mg "_law_end" = some (.ref (A.f "_law_end"))
  F_wfacts : FunD K "_law_facts" "_law_facts" (defArgs s_wfacts) (defBody s_wfacts) (defScope s_wfacts) [] [] (A.f "_law_facts") (A.fd "_law_facts")
  g_wfacts : mg "_law_facts" = some (.ref (A.f "_law_facts"))
  F_wduefacts : FunD K "_law_due_facts" "_law_due_facts" (defArgs s_wduefacts) (defBody s_wduefacts) (defScope s_wduefacts) [] [] (A.f "_law_due_facts") (A.fd "_law_due_facts")
  g_wduefacts : mg "_law_due_facts" = some (.ref (A.f "_law_due_facts"))
  F_wis : FunD K "_law_is" "_law_is" (defArgs s_wis) (defBody s_wis) (defScope s_wis) [] [] (A.f "_law_is") (A.fd "_law_is")
  g_wis : mg "_law_is" = some (.ref (A.f "_law_is"))
  F_wwrong : FunD K "_law_wrong" "_law_wrong" (defArgs s_wwrong) (defBody s_wwrong) (defScope s_wwrong) [] [] (A.f "_law_wrong") (A.fd "_law_wrong")
  g_wwrong : mg "_law_wrong" = some (.ref (A.f "_law_wrong"))
  F_wany : FunD K "_law_any" "_law_any" (defArgs s_wany) (defBody s_wany) (defScope s_wany) [] [] (A.f "_law_any") (A.fd "_law_any")
  g_wany : mg "_law_any" = some (.ref (A.f "_law_any"))
  F_woddline : FunD K "_law_odd_line" "_law_odd_line" (defArgs s_woddline) (defBody s_woddline) (defScope s_woddline) [] [] (A.f "_law_odd_line") (A.fd "_law_odd_line")
  g_woddline : mg "_law_odd_line" = some (.ref (A.f "_law_odd_line"))
  F_wsomeline : FunD K "_law_some_line" "_law_some_line" (defArgs s_wsomeline) (defBody s_wsomeline) (defScope s_wsomeline) [] [] (A.f "_law_some_line") (A.fd "_law_some_line")
  g_wsomeline : mg "_law_some_line" = some (.ref (A.f "_law_some_line"))
  F_wsomespot : FunD K "_law_some_spot" "_law_some_spot" (defArgs s_wsomespot) (defBody s_wsomespot) (defScope s_wsomespot) [] [] (A.f "_law_some_spot") (A.fd "_law_some_spot")
  g_wsomespot : mg "_law_some_spot" = some (.ref (A.f "_law_some_spot"))
  F_wasksuntil : FunD K "_law_asks_until" "_law_asks_until" (defArgs s_wasksuntil) (defBody s_wasksuntil) (defScope s_wasksuntil) [] [] (A.f "_law_asks_until") (A.fd "_law_asks_until")
  g_wasksuntil : mg "_law_asks_until" = some (.ref (A.f "_law_asks_until"))
  F_wasksseen : FunD K "_law_asks_seen" "_law_asks_seen" (defArgs s_wasksseen) (defBody s_wasksseen) (defScope s_wasksseen) [] [] (A.f "_law_asks_seen") (A.fd "_law_asks_seen")
  g_wasksseen : mg "_law_asks_seen" = some (.ref (A.f "_law_asks_seen"))
  F_wuntil : FunD K "_law_until" "_law_until" (defArgs s_wuntil) (defBody s_wuntil) (defScope s_wuntil) [] [] (A.f "_law_until") (A.fd "_law_until")
  g_wuntil : mg "_law_until" = some (.ref (A.f "_law_until"))
  F_wfullso : FunD K "_law_full_so" "_law_full_so" (defArgs s_wfullso) (defBody s_wfullso) (defScope s_wfullso) [] [] (A.f "_law_full_so") (A.fd "_law_full_so")
  g_wfullso : mg "_law_full_so" = some (.ref (A.f "_law_full_so"))
  F_law : FunD K "law" "law" (defArgs s_law) (defBody s_law) (defScope s_law) [] [] (A.f "law") (A.fd "law")
  g_law : mg "law" = some (.ref (A.f "law"))
  c_Band : Cls K (A.C "Band")
  mk_Band : Mk K (A.C "Band") (A.f "Band.__init__")
  g_Band : mg "Band" = some (.ref (A.C "Band"))
  c_Stream : Cls K (A.C "Stream")
  mk_Stream : Mk K (A.C "Stream") (A.f "Stream.__init__")
  g_Stream : mg "Stream" = some (.ref (A.C "Stream"))
  na_cell_list : NoAttr K (A.C "Band") "cell_list"
  na_seed_list : NoAttr K (A.C "Band") "seed_list"
  na_row_listB : NoAttr K (A.C "Band") "row_list"
  na_known_rows : NoAttr K (A.C "Band") "known_rows"
  na_lot_list : NoAttr K (A.C "Band") "lot_list"
  na_band : NoAttr K (A.C "Stream") "band"
  na_row_listS : NoAttr K (A.C "Stream") "row_list"
  F_BadRowinit : FunD K "__init__" "BadRow.__init__" (defArgs s_BadRowinit) (defBody s_BadRowinit) (defScope s_BadRowinit) [] [] (A.f "BadRow.__init__") (A.fd "BadRow.__init__")
  x_BadRow : OexC K (A.C "BadRow")
  g_BadRow : mg "BadRow" = some (.ref (A.C "BadRow"))
  i_BadRow : PySem.W.findIn K (.ref (A.C "BadRow")) "__init__" = some (some (.ref (A.f "BadRow.__init__")))
  t_BadRow : PySem.W.typeIn K (.ref (A.f "BadRow.__init__")) = some (.type "function")
  n_BadRow_row : PySem.W.findIn K (.ref (A.C "BadRow")) "row" = some none
  n_BadRow_code : PySem.W.findIn K (.ref (A.C "BadRow")) "code" = some none
  xf_BadRow : XfC K (A.C "BadRow")
  F_NotInBandinit : FunD K "__init__" "NotInBand.__init__" (defArgs s_NotInBandinit) (defBody s_NotInBandinit) (defScope s_NotInBandinit) [] [] (A.f "NotInBand.__init__") (A.fd "NotInBand.__init__")
  x_NotInBand : OexL K (A.C "NotInBand")
  g_NotInBand : mg "NotInBand" = some (.ref (A.C "NotInBand"))
  i_NotInBand : PySem.W.findIn K (.ref (A.C "NotInBand")) "__init__" = some (some (.ref (A.f "NotInBand.__init__")))
  t_NotInBand : PySem.W.typeIn K (.ref (A.f "NotInBand.__init__")) = some (.type "function")
  n_NotInBand_row : PySem.W.findIn K (.ref (A.C "NotInBand")) "row" = some none
  n_NotInBand_code : PySem.W.findIn K (.ref (A.C "NotInBand")) "code" = some none
  xf_NotInBand : XfC K (A.C "NotInBand")
  F_NoMomentinit : FunD K "__init__" "NoMoment.__init__" (defArgs s_NoMomentinit) (defBody s_NoMomentinit) (defScope s_NoMomentinit) [] [] (A.f "NoMoment.__init__") (A.fd "NoMoment.__init__")
  x_NoMoment : OexL K (A.C "NoMoment")
  g_NoMoment : mg "NoMoment" = some (.ref (A.C "NoMoment"))
  i_NoMoment : PySem.W.findIn K (.ref (A.C "NoMoment")) "__init__" = some (some (.ref (A.f "NoMoment.__init__")))
  t_NoMoment : PySem.W.typeIn K (.ref (A.f "NoMoment.__init__")) = some (.type "function")
  n_NoMoment_moment : PySem.W.findIn K (.ref (A.C "NoMoment")) "moment" = some none
  n_NoMoment_code : PySem.W.findIn K (.ref (A.C "NoMoment")) "code" = some none
  xf_NoMoment : XfC K (A.C "NoMoment")
  em_NoMoment_NoMoment : PySem.W.exmOne K (.ref (A.C "NoMoment")) (.ref (A.C "NoMoment")) = some true
  em_NotInBand_NoMoment : PySem.W.exmOne K (.ref (A.C "NotInBand")) (.ref (A.C "NoMoment")) = some false
  em_NotInBand_NotInBand : PySem.W.exmOne K (.ref (A.C "NotInBand")) (.ref (A.C "NotInBand")) = some true
  em_BadRow_NoMoment : PySem.W.exmOne K (.ref (A.C "BadRow")) (.ref (A.C "NoMoment")) = some false
  em_BadRow_NotInBand : PySem.W.exmOne K (.ref (A.C "BadRow")) (.ref (A.C "NotInBand")) = some false
  em_BadRow_BadRow : PySem.W.exmOne K (.ref (A.C "BadRow")) (.ref (A.C "BadRow")) = some true
  n_isinstance : mg "isinstance" = none
  n_len : mg "len" = none
  n_abs : mg "abs" = none
  n_all : mg "all" = none
  n_max : mg "max" = none
  n_min : mg "min" = none
  n_repr : mg "repr" = none
  n_sorted : mg "sorted" = none
  n_range : mg "range" = none
  n_enumerate : mg "enumerate" = none
  n_zip : mg "zip" = none
  n_str : mg "str" = none
  n_int : mg "int" = none
  n_bool : mg "bool" = none
  n_list : mg "list" = none
  n_tuple : mg "tuple" = none
  n_dict : mg "dict" = none
  n_set : mg "set" = none
  g_LETTERS : ∃ t, mg "LETTERS" = some (.str "abcdefghijklmnopqrstuvwxyz" t)
  g_MOST_ROWS : ∃ t, mg "MOST_ROWS" = some (.int 800 t)
  g_MOST_SEEDS : ∃ t, mg "MOST_SEEDS" = some (.int 30 t)
  g_MOST_CELLS : ∃ t, mg "MOST_CELLS" = some (.int 12 t)
  g_MOST_VALUES : ∃ t, mg "MOST_VALUES" = some (.int 4 t)
  g_MOST_MOMENTS : ∃ t, mg "MOST_MOMENTS" = some (.int 400 t)
section
variable {K : PySem.W.Frag} {mg : Str → Option Value} {A : Ad}
theorem Tx.b_isname (T : Tx K mg A) : Binds K (A.fd "is_name") ["value"] [] := T.F_isname.bindsN fun _ _ _ _ _ _ us hl => match us, hl with | [_], _ => rfl
theorem Tx.b_isnumber (T : Tx K mg A) : Binds K (A.fd "is_number") ["value", "least", "most"] [] := T.F_isnumber.bindsN fun _ _ _ _ _ _ us hl => match us, hl with | [_, _, _], _ => rfl
theorem Tx.b_newestat (T : Tx K mg A) : Binds K (A.fd "newest_at") ["rows", "place", "last"] [] := T.F_newestat.bindsN fun _ _ _ _ _ _ us hl => match us, hl with | [_, _, _], _ => rfl
theorem Tx.b_nextat (T : Tx K mg A) : Binds K (A.fd "next_at") ["rows", "place", "behind"] [] := T.F_nextat.bindsN fun _ _ _ _ _ _ us hl => match us, hl with | [_, _, _], _ => rfl
theorem Tx.b_latestidle (T : Tx K mg A) : Binds K (A.fd "latest_idle") ["stream", "row"] [] := T.F_latestidle.bindsN fun _ _ _ _ _ _ us hl => match us, hl with | [_, _], _ => rfl
theorem Tx.b_checkcells (T : Tx K mg A) : Binds K (A.fd "check_cells") ["cells"] [] := T.F_checkcells.bindsN fun _ _ _ _ _ _ us hl => match us, hl with | [_], _ => rfl
theorem Tx.b_isrow (T : Tx K mg A) : Binds K (A.fd "is_row") ["cells", "value"] [] := T.F_isrow.bindsN fun _ _ _ _ _ _ us hl => match us, hl with | [_, _], _ => rfl
theorem Tx.b_over (T : Tx K mg A) : Binds K (A.fd "over") ["newer", "older"] [] := T.F_over.bindsN fun _ _ _ _ _ _ us hl => match us, hl with | [_, _], _ => rfl
theorem Tx.b_lotof (T : Tx K mg A) : Binds K (A.fd "lot_of") ["row"] [] := T.F_lotof.bindsN fun _ _ _ _ _ _ us hl => match us, hl with | [_], _ => rfl
theorem Tx.b_blank (T : Tx K mg A) : Binds K (A.fd "blank") ["many"] [] := T.F_blank.bindsN fun _ _ _ _ _ _ us hl => match us, hl with | [_], _ => rfl
theorem Tx.b_within (T : Tx K mg A) : Binds K (A.fd "within") ["one", "other"] [] := T.F_within.bindsN fun _ _ _ _ _ _ us hl => match us, hl with | [_, _], _ => rfl
theorem Tx.b_union (T : Tx K mg A) : Binds K (A.fd "union") ["one", "other"] [] := T.F_union.bindsN fun _ _ _ _ _ _ us hl => match us, hl with | [_, _], _ => rfl
theorem Tx.b_lotsize (T : Tx K mg A) : Binds K (A.fd "lot_size") ["lot"] [] := T.F_lotsize.bindsN fun _ _ _ _ _ _ us hl => match us, hl with | [_], _ => rfl
theorem Tx.b_orderedlots (T : Tx K mg A) : Binds K (A.fd "ordered_lots") ["lots"] [] := T.F_orderedlots.bindsN fun _ _ _ _ _ _ us hl => match us, hl with | [_], _ => rfl
theorem Tx.b_checkseeds (T : Tx K mg A) : Binds K (A.fd "check_seeds") ["cells", "seeds"] [] := T.F_checkseeds.bindsN fun _ _ _ _ _ _ us hl => match us, hl with | [_, _], _ => rfl
theorem Tx.b_grownrows (T : Tx K mg A) : Binds K (A.fd "grown_rows") ["seeds", "first", "most"] [] := T.F_grownrows.bindsN fun _ _ _ _ _ _ us hl => match us, hl with | [_, _, _], _ => rfl
theorem Tx.b_Bandnames (T : Tx K mg A) : Binds K (A.fd "Band.names") ["self"] [] := T.F_Bandnames.bindsN fun _ _ _ _ _ _ us hl => match us, hl with | [_], _ => rfl
theorem Tx.b_Bandblankrow (T : Tx K mg A) : Binds K (A.fd "Band.blank_row") ["self"] [] := T.F_Bandblankrow.bindsN fun _ _ _ _ _ _ us hl => match us, hl with | [_], _ => rfl
theorem Tx.b_Bandcheckrow (T : Tx K mg A) : Binds K (A.fd "Band.check_row") ["self", "row"] [] := T.F_Bandcheckrow.bindsN fun _ _ _ _ _ _ us hl => match us, hl with | [_, _], _ => rfl
theorem Tx.b_newesttellers (T : Tx K mg A) : Binds K (A.fd "newest_tellers") ["pairs", "told"] [] := T.F_newesttellers.bindsN fun _ _ _ _ _ _ us hl => match us, hl with | [_, _], _ => rfl
theorem Tx.b_Streamstanding (T : Tx K mg A) : Binds K (A.fd "Stream.standing") ["self"] [] := T.F_Streamstanding.bindsN fun _ _ _ _ _ _ us hl => match us, hl with | [_], _ => rfl
theorem Tx.b_Streamsparecount (T : Tx K mg A) : Binds K (A.fd "Stream.spare_count") ["self"] [] := T.F_Streamsparecount.bindsN fun _ _ _ _ _ _ us hl => match us, hl with | [_], _ => rfl
theorem Tx.b_Streamrows (T : Tx K mg A) : Binds K (A.fd "Stream.rows") ["self"] [] := T.F_Streamrows.bindsN fun _ _ _ _ _ _ us hl => match us, hl with | [_], _ => rfl
theorem Tx.b_Streamendof (T : Tx K mg A) : Binds K (A.fd "Stream.end_of") ["self", "moment"] [] := T.F_Streamendof.bindsN fun _ _ _ _ _ _ us hl => match us, hl with | [_, _], _ => rfl
theorem Tx.b_Streamends (T : Tx K mg A) : Binds K (A.fd "Stream.ends") ["self"] [] := T.F_Streamends.bindsN fun _ _ _ _ _ _ us hl => match us, hl with | [_], _ => rfl
theorem Tx.b_Streamtwin (T : Tx K mg A) : Binds K (A.fd "Stream.twin") ["self"] [] := T.F_Streamtwin.bindsN fun _ _ _ _ _ _ us hl => match us, hl with | [_], _ => rfl
theorem Tx.b_Streamlen (T : Tx K mg A) : Binds K (A.fd "Stream.__len__") ["self"] [] := T.F_Streamlen.bindsN fun _ _ _ _ _ _ us hl => match us, hl with | [_], _ => rfl
theorem Tx.b_Streambool (T : Tx K mg A) : Binds K (A.fd "Stream.__bool__") ["self"] [] := T.F_Streambool.bindsN fun _ _ _ _ _ _ us hl => match us, hl with | [_], _ => rfl
theorem Tx.b_Streamrepr (T : Tx K mg A) : Binds K (A.fd "Stream.__repr__") ["self"] [] := T.F_Streamrepr.bindsN fun _ _ _ _ _ _ us hl => match us, hl with | [_], _ => rfl
theorem Tx.b_Streamcheckmoment (T : Tx K mg A) : Binds K (A.fd "Stream.check_moment") ["self", "moment"] [] := T.F_Streamcheckmoment.bindsN fun _ _ _ _ _ _ us hl => match us, hl with | [_, _], _ => rfl
theorem Tx.b_Streamlastmoment (T : Tx K mg A) : Binds K (A.fd "Stream.last_moment") ["self", "start", "end"] [] := T.F_Streamlastmoment.bindsN fun _ _ _ _ _ _ us hl => match us, hl with | [_, _, _], _ => rfl
theorem Tx.b_Streamwindowrow (T : Tx K mg A) : Binds K (A.fd "Stream.window_row") ["self", "start", "end"] [] := T.F_Streamwindowrow.bindsN fun _ _ _ _ _ _ us hl => match us, hl with | [_, _, _], _ => rfl
theorem Tx.b_wbag (T : Tx K mg A) : Binds K (A.fd "_law_bag") ["_law_script"] [] := T.F_wbag.bindsN fun _ _ _ _ _ _ us hl => match us, hl with | [_], _ => rfl
theorem Tx.b_wdraw (T : Tx K mg A) : Binds K (A.fd "_law_draw") ["_law_bag_here", "_law_top"] [] := T.F_wdraw.bindsN fun _ _ _ _ _ _ us hl => match us, hl with | [_, _], _ => rfl
theorem Tx.b_wof (T : Tx K mg A) : Binds K (A.fd "_law_of") ["_law_bag_here", "_law_some"] [] := T.F_wof.bindsN fun _ _ _ _ _ _ us hl => match us, hl with | [_, _], _ => rfl
theorem Tx.b_wsame (T : Tx K mg A) : Binds K (A.fd "_law_same") ["_law_found", "_law_due"] [] := T.F_wsame.bindsN fun _ _ _ _ _ _ us hl => match us, hl with | [_, _], _ => rfl
theorem Tx.b_wword (T : Tx K mg A) : Binds K (A.fd "_law_word") ["_law_bag_here"] [] := T.F_wword.bindsN fun _ _ _ _ _ _ us hl => match us, hl with | [_], _ => rfl
theorem Tx.b_wframe (T : Tx K mg A) : Binds K (A.fd "_law_frame") ["_law_bag_here", "_law_count"] [] := T.F_wframe.bindsN fun _ _ _ _ _ _ us hl => match us, hl with | [_, _], _ => rfl
theorem Tx.b_wseed (T : Tx K mg A) : Binds K (A.fd "_law_seed") ["_law_bag_here", "_law_frame_here", "_law_share"] [] := T.F_wseed.bindsN fun _ _ _ _ _ _ us hl => match us, hl with | [_, _, _], _ => rfl
theorem Tx.b_wmended (T : Tx K mg A) : Binds K (A.fd "_law_mended") ["_law_frame_here", "_law_sown"] [] := T.F_wmended.bindsN fun _ _ _ _ _ _ us hl => match us, hl with | [_, _], _ => rfl
theorem Tx.b_wover (T : Tx K mg A) : Binds K (A.fd "_law_over") ["_law_one", "_law_two"] [] := T.F_wover.bindsN fun _ _ _ _ _ _ us hl => match us, hl with | [_, _], _ => rfl
theorem Tx.b_wclosed (T : Tx K mg A) : Binds K (A.fd "_law_closed") ["_law_sown", "_law_cap"] [] := T.F_wclosed.bindsN fun _ _ _ _ _ _ us hl => match us, hl with | [_, _], _ => rfl
theorem Tx.b_whome (T : Tx K mg A) : Binds K (A.fd "_law_home") ["_law_bag_here"] [] := T.F_whome.bindsN fun _ _ _ _ _ _ us hl => match us, hl with | [_], _ => rfl
theorem Tx.b_wline (T : Tx K mg A) : Binds K (A.fd "_law_line") ["_law_bag_here", "_law_sown", "_law_kept"] [] := T.F_wline.bindsN fun _ _ _ _ _ _ us hl => match us, hl with | [_, _, _], _ => rfl
theorem Tx.b_wpast (T : Tx K mg A) : Binds K (A.fd "_law_past") ["_law_bag_here", "_law_sown", "_law_kept", "_law_count"] [] := T.F_wpast.bindsN fun _ _ _ _ _ _ us hl => match us, hl with | [_, _, _, _], _ => rfl
theorem Tx.b_wstanding (T : Tx K mg A) : Binds K (A.fd "_law_standing") ["_law_wide", "_law_part"] [] := T.F_wstanding.bindsN fun _ _ _ _ _ _ us hl => match us, hl with | [_, _], _ => rfl
theorem Tx.b_wtellers (T : Tx K mg A) : Binds K (A.fd "_law_tellers") ["_law_wide", "_law_past_here", "_law_low", "_law_high"] [] := T.F_wtellers.bindsN fun _ _ _ _ _ _ us hl => match us, hl with | [_, _, _, _], _ => rfl
theorem Tx.b_wend (T : Tx K mg A) : Binds K (A.fd "_law_end") ["_law_wide", "_law_past_here", "_law_n"] [] := T.F_wend.bindsN fun _ _ _ _ _ _ us hl => match us, hl with | [_, _, _], _ => rfl
theorem Tx.b_wfacts (T : Tx K mg A) : Binds K (A.fd "_law_facts") ["_law_flow"] [] := T.F_wfacts.bindsN fun _ _ _ _ _ _ us hl => match us, hl with | [_], _ => rfl
theorem Tx.b_wduefacts (T : Tx K mg A) : Binds K (A.fd "_law_due_facts") ["_law_wide", "_law_past_here"] [] := T.F_wduefacts.bindsN fun _ _ _ _ _ _ us hl => match us, hl with | [_, _], _ => rfl
theorem Tx.b_wis (T : Tx K mg A) : Binds K (A.fd "_law_is") ["_law_v", "_law_least", "_law_greatest"] [] := T.F_wis.bindsN fun _ _ _ _ _ _ us hl => match us, hl with | [_, _, _], _ => rfl
theorem Tx.b_wwrong (T : Tx K mg A) : Binds K (A.fd "_law_wrong") ["_law_frame_here", "_law_kept", "_law_v"] [] := T.F_wwrong.bindsN fun _ _ _ _ _ _ us hl => match us, hl with | [_, _, _], _ => rfl
theorem Tx.b_wany (T : Tx K mg A) : Binds K (A.fd "_law_any") ["_law_bag_here"] [] := T.F_wany.bindsN fun _ _ _ _ _ _ us hl => match us, hl with | [_], _ => rfl
theorem Tx.b_woddline (T : Tx K mg A) : Binds K (A.fd "_law_odd_line") ["_law_bag_here", "_law_frame_here", "_law_kept"] [] := T.F_woddline.bindsN fun _ _ _ _ _ _ us hl => match us, hl with | [_, _, _], _ => rfl
theorem Tx.b_wsomeline (T : Tx K mg A) : Binds K (A.fd "_law_some_line") ["_law_bag_here", "_law_frame_here", "_law_sown", "_law_kept", "_law_tame"] [] := T.F_wsomeline.bindsN fun _ _ _ _ _ _ us hl => match us, hl with | [_, _, _, _, _], _ => rfl
theorem Tx.b_wsomespot (T : Tx K mg A) : Binds K (A.fd "_law_some_spot") ["_law_bag_here", "_law_low", "_law_high", "_law_tame"] [] := T.F_wsomespot.bindsN fun _ _ _ _ _ _ us hl => match us, hl with | [_, _, _, _], _ => rfl
theorem Tx.b_wasksuntil (T : Tx K mg A) : Binds K (A.fd "_law_asks_until") ["_law_flow", "_law_v", "_law_p", "_law_named"] [] := T.F_wasksuntil.bindsN fun _ _ _ _ _ _ us hl => match us, hl with | [_, _, _, _], _ => rfl
theorem Tx.b_wasksseen (T : Tx K mg A) : Binds K (A.fd "_law_asks_seen") ["_law_flow", "_law_v", "_law_p"] [] := T.F_wasksseen.bindsN fun _ _ _ _ _ _ us hl => match us, hl with | [_, _, _], _ => rfl
theorem Tx.b_wuntil (T : Tx K mg A) : Binds K (A.fd "_law_until") ["_law_wide", "_law_past_here", "_law_line_here", "_law_p"] [] := T.F_wuntil.bindsN fun _ _ _ _ _ _ us hl => match us, hl with | [_, _, _, _], _ => rfl
theorem Tx.b_wfullso (T : Tx K mg A) : Binds K (A.fd "_law_full_so") ["_law_home_here", "_law_wide", "_law_past_here", "_law_line_here"] [] := T.F_wfullso.bindsN fun _ _ _ _ _ _ us hl => match us, hl with | [_, _, _, _], _ => rfl
theorem Tx.b_law (T : Tx K mg A) : Binds K (A.fd "law") ["_law_script"] [] := T.F_law.bindsN fun _ _ _ _ _ _ us hl => match us, hl with | [_], _ => rfl
theorem Tx.b_BadRowinit (T : Tx K mg A) : Binds K (A.fd "BadRow.__init__") ["self", "row"] [] := T.F_BadRowinit.bindsN fun _ _ _ _ _ _ us hl => match us, hl with | [_, _], _ => rfl
theorem Tx.b_NotInBandinit (T : Tx K mg A) : Binds K (A.fd "NotInBand.__init__") ["self", "row"] [] := T.F_NotInBandinit.bindsN fun _ _ _ _ _ _ us hl => match us, hl with | [_, _], _ => rfl
theorem Tx.b_NoMomentinit (T : Tx K mg A) : Binds K (A.fd "NoMoment.__init__") ["self", "moment"] [] := T.F_NoMomentinit.bindsN fun _ _ _ _ _ _ us hl => match us, hl with | [_, _], _ => rfl
def rot {α : Type} : List α → List α
  | [r, s, b] => [s, r, b]
  | _ => []
theorem rot_vals {zs : List V} {ws : List Value} (r : Vals zs ws) : Vals (rot zs) (rot ws) := by
  match zs, ws, r with
  | [], _, .nil => exact .nil
  | [_], _, .cons _ .nil => exact .nil
  | [_, _], _, .cons _ (.cons _ .nil) => exact .nil
  | [_, _, _], _, .cons a (.cons b (.cons c .nil)) => exact .cons b (.cons a (.cons c .nil))
  | _ :: _ :: _ :: _ :: _, _, .cons _ (.cons _ (.cons _ (.cons _ _))) => exact .nil
theorem Tx.kb_seen (T : Tx K mg A) : KBn K (A.fd "seen") ["stream", "row", "behind"] 2 ["behind"] (fun us ws => us ++ ws) (fun vs zs => vs ++ zs) := Nr.kbn T.F_seen (fun r1 r2 => r1.append r2) fun _ _ _ _ _ _ us ws h1 h2 => match us, h1, ws, h2 with | [_, _], _, [_], _ => rfl
theorem Tx.kb_showsuntil (T : Tx K mg A) : KBn K (A.fd "shows_until") ["stream", "row", "behind"] 2 ["behind"] (fun us ws => us ++ ws) (fun vs zs => vs ++ zs) := Nr.kbn T.F_showsuntil (fun r1 r2 => r1.append r2) fun _ _ _ _ _ _ us ws h1 h2 => match us, h1, ws, h2 with | [_, _], _, [_], _ => rfl
theorem Tx.kb0_showsuntil (T : Tx K mg A) : KBn K (A.fd "shows_until") ["stream", "row", "behind"] 0 ["row", "stream", "behind"] (fun us ws => us ++ rot ws) (fun vs zs => vs ++ rot zs) := Nr.kbn T.F_showsuntil (fun r1 r2 => r1.append (rot_vals r2)) fun _ _ _ _ _ _ us ws h1 h2 => match us, h1, ws, h2 with | [], _, [_, _, _], _ => rfl
theorem Tx.kb_Streamput (T : Tx K mg A) : KBn K (A.fd "Stream.put") ["self", "row", "behind"] (1 + 1) ["behind"] (fun us ws => us ++ ws) (fun vs zs => vs ++ zs) := Nr.kbn T.F_Streamput (fun r1 r2 => r1.append r2) fun _ _ _ _ _ _ us ws h1 h2 => match us, h1, ws, h2 with | [_, _], _, [_], _ => rfl
theorem Tx.kb_Streamwindow (T : Tx K mg A) : ∃ mv : List Value, KBn K (A.fd "Stream.window") ["self", "start", "end"] 1 ["end"] (fun us ws => us ++ (mv ++ ws)) (fun vs zs => vs ++ ([V.int 1] ++ zs)) := T.F_Streamwindow.kbinds0 1 ["end"] [("start", .int 1)] (fun us mv ws => us ++ (mv ++ ws)) (by simp) (by simp) (fun r1 r2 r3 => r1.append (r2.append r3)) fun _ _ _ _ _ _ us mv ws h1 h2 h3 => match us, h1, mv, h2, ws, h3 with | [_], _, [_], _, [_], _ => ⟨_, _, _, _, _, _, rfl, rfl, rfl⟩
theorem Tx.b_Bandinit (T : Tx K mg A) : ∃ ds, Vals [V.int 800] ds ∧ Binds K (A.fd "Band.__init__") ["self", "cells", "seeds", "most"] ds := T.F_Bandinit.binds0 3 (by simp) rfl fun _ _ _ _ _ _ us ks hu hk => match us, hu, ks, hk with | [_, _, _], _, [_], _ => ⟨_, _, _, _, _, _, rfl, rfl, rfl⟩
theorem Tx.b_Streaminit (T : Tx K mg A) : ∃ ds, Vals ([] : List V) ds ∧ Binds K (A.fd "Stream.__init__") ["self", "band", "rows"] ds := T.F_Streaminit.binds1 3 1 (by simp) rfl fun _ _ _ _ _ _ _ us its hu hi => match us, hu, its, hi with | [_, _, _], _, [_], _ => ⟨_, rfl, rfl⟩
theorem Tx.b_Streamtellers (T : Tx K mg A) : ∃ ds, Vals [V.int 1, V.non] ds ∧ Binds K (A.fd "Stream.tellers") ["self", "start", "end"] ds := T.F_Streamtellers.binds0 1 (by simp) rfl fun _ _ _ _ _ _ us ks hu hk => match us, hu, ks, hk with | [_], _, [_, _], _ => ⟨_, _, _, _, _, _, rfl, rfl, _, _, _, _, _, _, rfl, rfl, rfl⟩
end
end Nt
end
section
set_option Elab.async false
set_option linter.all false
set_option maxRecDepth 100000
set_option maxHeartbeats 4000000
namespace Nt
open PySem PySem.Spec PyProof.Rows L2 Evl SX
/-! ### what an iterator gives, whatever else stands in the heap: it draws n times; at turn i the target takes σ to τ i σ -/
structure Feeds (J : It) (g : TG) (W : Hp) (n : Nat) (τ : Nat → L2.St → L2.St) : Prop where
  go : ∀ i H, Ex W H → i < n → J.go i H
  stop : ∀ H, Ex W H → J.stop n H
  yld : ∀ i H x H', Ex W H → i < n → J.yld i H x H' → Ex H H' ∧ ∀ (σ : L2.St) (Q : L2.St → Hp → Prop), Q (τ i σ) H' → g x σ H' Q
theorem Feeds.mono {J : It} {g : TG} {W W' : Hp} {n : Nat} {τ : Nat → L2.St → L2.St} (F : Feeds J g W n τ) (e : Ex W W') : Feeds J g W' n τ :=
  ⟨fun i H h => F.go i H (e.trans h), fun H h => F.stop H (e.trans h), fun i H x H' h => F.yld i H x H' (e.trans h)⟩
/-- a walk that comes to such an iterator -/
def EvI (wi : TI) (g : TG) (σ : L2.St) (W : Hp) (n : Nat) (τ : Nat → L2.St → L2.St) : Prop := ∀ H, Ex W H → ∀ R : It → Hp → Prop,
  (∀ J H1 W1, Ex H H1 → Ex W W1 → Ex W1 H1 → (∀ a o, H a = some o → W1 a = W a) → Feeds J g W1 n τ → R J H1) → wi σ H R
theorem EvI.of {wi : TI} {g : TG} {σ : L2.St} {W : Hp} {n : Nat} {τ : Nat → L2.St → L2.St} (h : ∀ H, Ex W H → ∀ R : It → Hp → Prop, (∀ J H1, Ex H H1 → Feeds J g W n τ → R J H1) → wi σ H R) : EvI wi g σ W n τ :=
  fun H e R q => h H e R fun J H1 e1 F => q J H1 W e1 (Ex.refl W) (e.trans e1) (fun _ _ _ => rfl) F
section
variable {K : PySem.W.Frag} {σ : L2.St} {W H H' : Hp} {ta tb te tl : TE} {t u : TT} {x y z v : V} {D : Ends} {tu tz : TS} {g : TG} {wi : TI}
theorem fd_list {a : Addr} {xs : List V} {j : Nat} {it : Nat → V} (h : SqL K W a xs) (hi : ∀ i, i < xs.length → xs[i]? = some (it i)) : Feeds (Itl K a) (gName j) W xs.length (fun i σ => σ.set j (some (it i))) :=
  ⟨fun i H e hn => ⟨xs, it i, ex_l e h, hi i hn⟩, fun H e => ⟨xs, ex_l e h, Nat.le_refl _⟩, fun i H y H1 e hn q => by
    obtain ⟨rfl, q⟩ := q
    have e1 := (hi i hn).symm.trans (q xs (ex_l e h))
    cases e1
    exact ⟨Ex.refl _, fun σ Q k => k⟩⟩
/-- the items are tuples of two, written elsewhere -/
theorem fd_pairs {a : Addr} {ps : Nat → Addr} {p q : Nat → V} {n j k : Nat} (h : SqL K W a ((List.range n).map fun i => .ref (ps i))) (hp : ∀ i, i < n → W (ps i) = some (.tup [p i, q i])) :
    Feeds (Itl K a) (gTup K 2 (gCons (gName j) (gCons (gName k) gNil))) W n (fun i σ => (σ.set j (some (p i))).set k (some (q i))) := by
  have hi : ∀ i, i < n → ((List.range n).map fun i => V.ref (ps i))[i]? = some (.ref (ps i)) := fun i hn => by
    rw [List.getElem?_map, List.getElem?_range hn]
    rfl
  refine ⟨fun i H e hn => ⟨_, _, ex_l e h, hi i hn⟩, fun H e => ⟨_, ex_l e h, by rw [List.length_map, List.length_range]; exact Nat.le_refl _⟩, fun i H y H1 e hn r => ?_⟩
  obtain ⟨rfl, r⟩ := r
  have e1 := (hi i hn).symm.trans (r _ (ex_l e h))
  cases e1
  exact ⟨Ex.refl _, fun σ Q r => ⟨ps i, _, rfl, st_of (e _ _ (hp i hn)), rfl, _, _, rfl, _, _, rfl, rfl, r⟩⟩
theorem fd_text {l : List Nat} {j : Nat} {c : Nat → Nat} (hi : ∀ i, i < l.length → l[i]? = some (c i)) : Feeds (Its (S l)) (gName j) W l.length (fun i σ => σ.set j (some (.str (S [c i])))) := by
  have hs : (S l).cps.size = l.length := by simp [S]
  refine ⟨fun i H e hn => by show i < (S l).cps.size; rw [hs]; exact hn, fun H e => by show (S l).cps.size ≤ l.length; rw [hs]; exact Nat.le_refl _, fun i H y H1 e hn q => ?_⟩
  obtain ⟨rfl, d, hd, rfl⟩ := q
  have e2 : (S l).cps[i]? = l[i]? := by simp [S]
  rw [e2, hi i hn] at hd
  cases hd
  exact ⟨Ex.refl _, fun σ Q k => k⟩
theorem fd_range {lo : Int} {n j : Nat} : Feeds (Itr lo n) (gName j) W n (fun i σ => σ.set j (some (.int (lo + (i : Int))))) :=
  ⟨fun i H e hn => hn, fun H e => Nat.le_refl _, fun i H y H1 e hn q => by
    obtain ⟨rfl, rfl⟩ := q
    exact ⟨Ex.refl _, fun σ Q k => k⟩⟩
theorem fd_rangeC {a c : Int} {n j : Nat} : Feeds (Itc a c n) (gName j) W n (fun i σ => σ.set j (some (.int (a + (i : Int) * c)))) :=
  ⟨fun i H e hn => hn, fun H e => Nat.le_refl _, fun i H y H1 e hn q => by
    obtain ⟨rfl, rfl⟩ := q
    exact ⟨Ex.refl _, fun σ Q k => k⟩⟩
theorem fd_enum {s1 : Nr.Src} {xs : List V} {j k : Nat} {it : Nat → V} (h : ∀ H, Ex W H → s1.Is K H xs) (hi : ∀ i, i < xs.length → xs[i]? = some (it i)) :
    Feeds (Nr.Ie K s1) (gTup K 2 (gCons (gName j) (gCons (gName k) gNil))) W xs.length (fun i σ => (σ.set j (some (.int (i : Nat)))).set k (some (it i))) := by
  refine ⟨fun i H e hn => ⟨xs, it i, h H e, hi i hn⟩, fun H e => ⟨xs, h H e, rfl⟩, fun i H y H1 e hn q => ?_⟩
  obtain ⟨T, x, rfl, hT, rfl, q⟩ := q
  have e1 := (hi i hn).symm.trans (q xs (h H e))
  cases e1
  exact ⟨Ex.new hT, fun σ Q r => ⟨T, _, rfl, st_of upd_same, rfl, _, _, rfl, _, _, rfl, rfl, r⟩⟩
theorem fd_zip {s1 s2 : Nr.Src} {xs ys : List V} {j k n : Nat} {it1 it2 : Nat → V} (h1 : ∀ H, Ex W H → s1.Is K H xs) (h2 : ∀ H, Ex W H → s2.Is K H ys) (l1 : xs.length = n) (l2 : ys.length = n)
    (hi : ∀ i, i < n → xs[i]? = some (it1 i)) (hj : ∀ i, i < n → ys[i]? = some (it2 i)) :
    Feeds (Nr.Its2 K s1 s2) (gTup K 2 (gCons (gName j) (gCons (gName k) gNil))) W n (fun i σ => (σ.set j (some (it1 i))).set k (some (it2 i))) := by
  refine ⟨fun i H e hn => ⟨xs, ys, it1 i, it2 i, h1 H e, h2 H e, hi i hn, hj i hn⟩, fun H e => ⟨xs, ys, h1 H e, h2 H e, by omega, by omega, Or.inl l1⟩, fun i H y H1 e hn q => ?_⟩
  obtain ⟨T, x, y, rfl, hT, rfl, q1, q2⟩ := q
  have e1 := (hi i hn).symm.trans (q1 xs (h1 H e))
  have e2 := (hj i hn).symm.trans (q2 ys (h2 H e))
  cases e1
  cases e2
  exact ⟨Ex.new hT, fun σ Q r => ⟨T, _, rfl, st_of upd_same, rfl, _, _, rfl, _, _, rfl, rfl, r⟩⟩
/-! walks -/
theorem ei_list {a : Addr} {xs : List V} {j : Nat} {it : Nat → V} (h : Ev tl σ W (.ref a)) (hx : SqL K W a xs) (hi : ∀ i, i < xs.length → xs[i]? = some (it i)) : EvI (iList K tl) (gName j) σ W xs.length (fun i σ => σ.set j (some (it i))) :=
  EvI.of fun H e R q => h H e _ fun H1 e1 => ⟨a, rfl, ⟨xs, ex_l (e.trans e1) hx⟩, q _ H1 e1 (fd_list hx hi)⟩
theorem ei_listN {xs : List V} {j : Nat} {it : Nat → V} (h : EvL tl σ W xs) (hi : ∀ i, i < xs.length → xs[i]? = some (it i)) : EvI (iList K tl) (gName j) σ W xs.length (fun i σ => σ.set j (some (it i))) :=
  fun H e R q => h H e _ fun a H1 na e1 hx => ⟨a, rfl, ⟨xs, sq_of hx⟩, by
    have nw : W a = none := fresh_back e na
    refine q _ H1 (upd W a (.lst xs)) e1 (Ex.new nw) (fun b o hb => ?_) (fun b o hb => upd_ne (ne_of_none hb na)) (fd_list (sq_of upd_same) hi)
    by_cases eb : b = a
    · subst eb
      rw [upd_same] at hb
      rw [← hb]
      exact hx
    · rw [upd_ne eb] at hb
      exact e1 b o (e b o hb)⟩
theorem ei_text {l : List Nat} {j : Nat} {c : Nat → Nat} (h : Ev tl σ W (.str (S l))) (hi : ∀ i, i < l.length → l[i]? = some (c i)) : EvI (iStr tl) (gName j) σ W l.length (fun i σ => σ.set j (some (.str (S [c i])))) :=
  EvI.of fun H e R q => h H e _ fun H1 e1 => ⟨S l, rfl, q _ H1 e1 (fd_text hi)⟩
theorem ei_rng1 {ta : TA} {n : Int} {j m : Nat} (h : EvA ta σ W [.int n]) (hn : -(2 ^ 62) ≤ n ∧ n < 2 ^ 62) (hm : n.toNat = m) : EvI (iRng1 ta) (gName j) σ W m (fun i σ => σ.set j (some (.int (i : Int)))) :=
  EvI.of fun H e R q => h H e _ fun H1 e1 => ⟨n, rfl, hn.1, hn.2, by
    rw [hm]
    refine q _ H1 e1 ?_
    have F : Feeds (Itr 0 m) (gName j) W m (fun i σ => σ.set j (some (.int (0 + (i : Int))))) := fd_range
    simpa using F⟩
theorem ei_rng2 {ta : TA} {lo hi : Int} {j m : Nat} (h : EvA ta σ W [.int lo, .int hi]) (hn : -(2 ^ 62) ≤ lo ∧ lo < 2 ^ 62 ∧ -(2 ^ 62) ≤ hi ∧ hi < 2 ^ 62) (hm : (hi - lo).toNat = m) : EvI (iRng2 ta) (gName j) σ W m (fun i σ => σ.set j (some (.int (lo + (i : Int))))) :=
  EvI.of fun H e R q => h H e _ fun H1 e1 => ⟨lo, hi, rfl, hn, by
    rw [hm]
    exact q _ H1 e1 fd_range⟩
theorem ei_rng3 {ta : TA} {lo hi c : Int} {j m : Nat} (h : EvA ta σ W [.int lo, .int hi, .int c]) (hn : RgC lo hi c m) : EvI (iRng3 ta) (gName j) σ W m (fun i σ => σ.set j (some (.int (lo + (i : Int) * c)))) :=
  EvI.of fun H e R q => h H e _ fun H1 e1 => ⟨lo, hi, c, m, rfl, hn, q _ H1 e1 fd_rangeC⟩
theorem ei_enumL {ta : TA} {a : Addr} {xs : List V} {j k : Nat} {it : Nat → V} (h : EvA ta σ W [.ref a]) (hx : SqL K W a xs) (hi : ∀ i, i < xs.length → xs[i]? = some (it i)) :
    EvI (Nr.iEnumS K ta) (gTup K 2 (gCons (gName j) (gCons (gName k) gNil))) σ W xs.length (fun i σ => (σ.set j (some (.int (i : Nat)))).set k (some (it i))) :=
  EvI.of fun H e R q => h H e _ fun H1 e1 => ⟨.ref a, .lst a, rfl, rfl, ⟨xs, ex_l (e.trans e1) hx⟩, q _ H1 e1 (fd_enum (fun H2 e2 => ex_l e2 hx) hi)⟩
theorem is_txt {l : List Nat} {H : Hp} : (Nr.Src.txt (S l)).Is K H (l.map fun c => V.str (S [c])) := by
  show _ = (S l).cps.toList.map fun c => V.str ⟨#[c]⟩
  simp [S]
theorem ei_enumS {ta : TA} {l : List Nat} {j k : Nat} {c : Nat → Nat} (h : EvA ta σ W [.str (S l)]) (hi : ∀ i, i < l.length → l[i]? = some (c i)) :
    EvI (Nr.iEnumS K ta) (gTup K 2 (gCons (gName j) (gCons (gName k) gNil))) σ W l.length (fun i σ => (σ.set j (some (.int (i : Nat)))).set k (some (.str (S [c i])))) :=
  EvI.of fun H e R q => h H e _ fun H1 e1 => ⟨.str (S l), .txt (S l), rfl, rfl, ⟨_, is_txt⟩, q _ H1 e1 (by
    have F := fd_enum (K := K) (W := W) (s1 := .txt (S l)) (xs := l.map fun c => V.str (S [c])) (j := j) (k := k) (it := fun i => .str (S [c i])) (fun _ _ => is_txt) (fun i hn => by
      rw [List.length_map] at hn
      rw [List.getElem?_map, hi i hn] <;> rfl)
    rw [List.length_map] at F
    exact F)⟩
theorem ei_zipSS {ta : TA} {l m : List Nat} {j k n : Nat} {c d : Nat → Nat} (h : EvA ta σ W [.str (S l), .str (S m)]) (l1 : l.length = n) (l2 : m.length = n) (hi : ∀ i, i < n → l[i]? = some (c i)) (hj : ∀ i, i < n → m[i]? = some (d i)) :
    EvI (Nr.iZipS K ta) (gTup K 2 (gCons (gName j) (gCons (gName k) gNil))) σ W n (fun i σ => (σ.set j (some (.str (S [c i])))).set k (some (.str (S [d i])))) :=
  EvI.of fun H e R q => h H e _ fun H1 e1 => ⟨.str (S l), .str (S m), .txt (S l), .txt (S m), rfl, rfl, rfl, ⟨_, is_txt⟩, ⟨_, is_txt⟩, q _ H1 e1
    (fd_zip (it1 := fun i => .str (S [c i])) (it2 := fun i => .str (S [d i])) (fun _ _ => is_txt) (fun _ _ => is_txt) (by rw [List.length_map]; exact l1) (by rw [List.length_map]; exact l2) (fun i hn => by
      rw [List.getElem?_map, hi i hn] <;> rfl) (fun i hn => by
      rw [List.getElem?_map, hj i hn] <;> rfl))⟩
theorem ei_zipSL {ta : TA} {l : List Nat} {a : Addr} {ys : List V} {j k n : Nat} {c : Nat → Nat} {it : Nat → V} (h : EvA ta σ W [.str (S l), .ref a]) (hy : SqL K W a ys) (l1 : l.length = n) (l2 : ys.length = n) (hi : ∀ i, i < n → l[i]? = some (c i)) (hj : ∀ i, i < n → ys[i]? = some (it i)) :
    EvI (Nr.iZipS K ta) (gTup K 2 (gCons (gName j) (gCons (gName k) gNil))) σ W n (fun i σ => (σ.set j (some (.str (S [c i])))).set k (some (it i))) :=
  EvI.of fun H e R q => h H e _ fun H1 e1 => ⟨.str (S l), .ref a, .txt (S l), .lst a, rfl, rfl, Or.inl rfl, ⟨_, is_txt⟩, ⟨_, ex_l (e.trans e1) hy⟩, q _ H1 e1
    (fd_zip (it1 := fun i => .str (S [c i])) (it2 := it) (fun _ _ => is_txt) (fun H2 e2 => ex_l e2 hy) (by rw [List.length_map]; exact l1) l2 (fun i hn => by
      rw [List.getElem?_map, hi i hn] <;> rfl) hj)⟩
theorem ei_zipLL {ta : TA} {a b : Addr} {xs ys : List V} {j k n : Nat} {it1 it2 : Nat → V} (h : EvA ta σ W [.ref a, .ref b]) (hx : SqL K W a xs) (hy : SqL K W b ys) (l1 : xs.length = n) (l2 : ys.length = n) (hi : ∀ i, i < n → xs[i]? = some (it1 i)) (hj : ∀ i, i < n → ys[i]? = some (it2 i)) :
    EvI (Nr.iZipS K ta) (gTup K 2 (gCons (gName j) (gCons (gName k) gNil))) σ W n (fun i σ => (σ.set j (some (it1 i))).set k (some (it2 i))) :=
  EvI.of fun H e R q => h H e _ fun H1 e1 => ⟨.ref a, .ref b, .lst a, .lst b, rfl, Or.inl rfl, Or.inl rfl, ⟨_, ex_l (e.trans e1) hx⟩, ⟨_, ex_l (e.trans e1) hy⟩, q _ H1 e1
    (fd_zip (it1 := it1) (it2 := it2) (fun H2 e2 => ex_l e2 hx) (fun H2 e2 => ex_l e2 hy) l1 l2 hi hj)⟩
theorem ei_zipTT {ta : TA} {a b : Addr} {xs ys : List V} {j k n : Nat} {it1 it2 : Nat → V} (h : EvA ta σ W [.ref a, .ref b]) (hx : W a = some (.tup xs)) (hy : W b = some (.tup ys)) (l1 : xs.length = n) (l2 : ys.length = n) (hi : ∀ i, i < n → xs[i]? = some (it1 i)) (hj : ∀ i, i < n → ys[i]? = some (it2 i)) :
    EvI (Nr.iZipS K ta) (gTup K 2 (gCons (gName j) (gCons (gName k) gNil))) σ W n (fun i σ => (σ.set j (some (it1 i))).set k (some (it2 i))) :=
  EvI.of fun H e R q => h H e _ fun H1 e1 => ⟨.ref a, .ref b, .tup a, .tup b, rfl, Or.inr rfl, Or.inr rfl, ⟨_, (e.trans e1) _ _ hx⟩, ⟨_, (e.trans e1) _ _ hy⟩, q _ H1 e1
    (fd_zip (it1 := it1) (it2 := it2) (fun H2 e2 => e2 _ _ hx) (fun H2 e2 => e2 _ _ hy) l1 l2 hi hj)⟩
/-! ### comprehensions -/
theorem el_lc {vs : List Nat} {n : Nat} {τ : Nat → L2.St → L2.St} (h : EvI wi g σ W n τ) (hn : n ≤ 40000) (f : Nat → Bool) (v : Nat → V) (hw : ∀ i, i < n → wipe (τ i (wipe σ vs)) vs = wipe σ vs)
    (ht : ∀ i, i < n → EvT t (τ i (wipe σ vs)) W (f i)) (he : ∀ i, i < n → f i = true → Ev te (τ i (wipe σ vs)) W (v i)) : EvL (tLc wi g t te vs) σ W (given n f v) := fun H0 e0 Q q => h H0 e0 _ fun J H1 W1 e1 _ ew _ F0 Dl hD => by
  have eW : Ex W H1 := e0.trans e1
  have F := F0.mono ew
  refine ⟨fun i m H => m = n - i ∧ i ≤ n ∧ Cw H1 f v Dl i H, ⟨n, by simp, Nat.zero_le _, hD, Ex.new hD, upd_same⟩, fun i m H hI => ?_⟩
  obtain ⟨rfl, hi, p⟩ := hI
  by_cases hlt : i < n
  · refine Or.inr ⟨F.go i H p.2.1 hlt, Cw H1 f v Dl (i + 1), fun H' p' => ⟨n - (i + 1), by omega, rfl, hlt, p'⟩, fun x H' y => ?_⟩
    obtain ⟨e2, k⟩ := F.yld i H x H' p.2.1 hlt y
    refine k _ _ ⟨hw i hlt, ?_⟩
    exact cw_turn ⟨p.1, p.2.1.trans e2, e2 Dl _ p.2.2⟩ (by omega) ((ht i hlt).mono eW) (fun hf => (he i hlt hf).mono eW)
  · have e : i = n := by omega
    subst e
    exact Or.inl ⟨F.stop H p.2.1, q Dl H (fresh_back e1 p.1) (e1.trans p.2.1) p.2.2⟩
theorem given_all {n : Nat} {v : Nat → V} : given n (fun _ => true) v = (List.range n).map v := by
  unfold given
  rw [List.filter_eq_self.mpr fun _ _ => rfl]
/-- without an if -/
theorem el_lcA {vs : List Nat} {n : Nat} {τ : Nat → L2.St → L2.St} (h : EvI wi g σ W n τ) (hn : n ≤ 40000) (v : Nat → V) (hw : ∀ i, i < n → wipe (τ i (wipe σ vs)) vs = wipe σ vs)
    (he : ∀ i, i < n → Ev te (τ i (wipe σ vs)) W (v i)) : EvL (tLc wi g tYes te vs) σ W ((List.range n).map v) := by
  have k := el_lc (t := tYes) h hn (fun _ => true) v hw (fun i hi => fun H1 e Q q => q H1 (Ex.refl H1)) (fun i hi _ => he i hi)
  rw [given_all] at k
  exact k
/-! ### for -/
/-- W: what stands while the loop runs (and what the loop walks); Pv i: ahead of turn i -/
theorem s_forF {n : Nat} {τ : Nat → L2.St → L2.St} (h : EvI wi g σ W n τ) (hW : Ex W H) (Pv : Hp → Nat → L2.St → Hp → Prop) (h0 : ∀ W1 H1, Ex H H1 → Ex W W1 → Ex W1 H1 → (∀ a o, H a = some o → W1 a = W a) → Pv W1 0 σ H1)
    (hp : ∀ W1 i σ' H', Pv W1 i σ' H' → Ex W1 H')
    (hs : ∀ W1 i σ' H', Ex W W1 → i < n → Pv W1 i σ' H' → ∀ H1, Ex H' H1 → tu { D with nx := Pv W1 (i + 1), ct := Pv W1 (i + 1), bk := D.nx } (τ i σ') H1) (hd : ∀ W1 σ' H', Ex W W1 → Pv W1 n σ' H' → D.nx σ' H') : tFor wi g tu D σ H :=
  h H hW _ fun J H1 W1 e1 eW ew ha F => by
  refine ⟨fun i m σ' H' => m = n - i ∧ i ≤ n ∧ Pv W1 i σ' H', ⟨n, by simp, Nat.zero_le _, h0 W1 H1 e1 eW ew ha⟩, fun i m σ' H' hI => ?_⟩
  obtain ⟨rfl, hi, p⟩ := hI
  by_cases hlt : i < n
  · refine Or.inr ⟨F.go i H' (hp W1 i σ' H' p) hlt, Pv W1 (i + 1), fun σ2 H2 p' => ⟨n - (i + 1), by omega, rfl, hlt, p'⟩, fun x H2 y => ?_⟩
    obtain ⟨e2, k⟩ := F.yld i H' x H2 (hp W1 i σ' H' p) hlt y
    exact k _ _ (hs W1 i σ' H' eW hlt p H2 e2)
  · have e : i = n := by omega
    subst e
    exact Or.inl ⟨F.stop H' (hp W1 i σ' H' p), hd W1 σ' H' eW p⟩
theorem q_forF {n : Nat} {τ : Nat → L2.St → L2.St} (h : EvI wi g σ W n τ) (hW : Ex W H) (Pv : Hp → Nat → L2.St → Hp → Prop) (h0 : ∀ W1 H1, Ex H H1 → Ex W W1 → Ex W1 H1 → (∀ a o, H a = some o → W1 a = W a) → Pv W1 0 σ H1)
    (hp : ∀ W1 i σ' H', Pv W1 i σ' H' → Ex W1 H')
    (hs : ∀ W1 i σ' H', Ex W W1 → i < n → Pv W1 i σ' H' → ∀ H1, Ex H' H1 → tu { D with nx := Pv W1 (i + 1), ct := Pv W1 (i + 1), bk := tz D } (τ i σ') H1) (hd : ∀ W1 σ' H', Ex W W1 → Pv W1 n σ' H' → tz D σ' H') : tSeq (tFor wi g tu) tz D σ H :=
  s_forF (D := { D with nx := tz D }) h hW Pv h0 hp hs hd
end
end Nt
end
section
set_option Elab.async false
set_option linter.all false
set_option maxRecDepth 100000
set_option maxHeartbeats 4000000
namespace Nt
open PySem PySem.Spec PyProof.Rows L2 Evl SX
/-! ### values -/
abbrev vS (l : List Nat) : V := .str (S l)
theorem vS_inj {a b : List Nat} (h : vS a = vS b) : a = b := S_inj (V.str.inj h)
theorem vS_dec {a b : List Nat} : decide (vS a = vS b) = decide (a = b) := by
  by_cases h : a = b
  · subst h
    simp
  · rw [decide_eq_false h, decide_eq_false fun z => h (vS_inj z)]
theorem c1_dec {a b : Nat} : decide (vS [a] = vS [b]) = decide (a = b) := by
  rw [vS_dec]
  simp
section
variable {K : PySem.W.Frag} {σ : L2.St} {W H H' : Hp} {ta tb tc te tl : TE} {t u : TT} {x y z v w' : V} {D : Ends} {tu tz : TS} {r r' : R2}
/-! ### operators on values -/
theorem rv_add {i j : Int} : RV (rI0 fun i j => .int (i + j)) (.int i) (.int j) H (.int (i + j)) := rv_I0
theorem rv_sub {i j : Int} : RV (rI0 fun i j => .int (i - j)) (.int i) (.int j) H (.int (i - j)) := rv_I0
theorem rv_lt {i j : Int} : RV (rI0 fun i j => .bl (decide (i < j))) (.int i) (.int j) H (.bl (decide (i < j))) := rv_I0
theorem rv_le {i j : Int} : RV (rI0 fun i j => .bl (decide (i ≤ j))) (.int i) (.int j) H (.bl (decide (i ≤ j))) := rv_I0
theorem rv_gt {i j : Int} : RV (rI0 fun i j => .bl (decide (j < i))) (.int i) (.int j) H (.bl (decide (j < i))) := rv_I0
theorem rv_ge {i j : Int} : RV (rI0 fun i j => .bl (decide (j ≤ i))) (.int i) (.int j) H (.bl (decide (j ≤ i))) := rv_I0
theorem rv_eqS {a b : List Nat} : RV rEq (vS a) (vS b) H (.bl (decide (a = b))) := by
  have h := rv_eq (x := vS a) (y := vS b) (H := H) rfl
  rw [vS_dec] at h
  exact h
theorem rv_neS {a b : List Nat} : RV rNe (vS a) (vS b) H (.bl (!decide (a = b))) := by
  have h := rv_ne (x := vS a) (y := vS b) (H := H) rfl
  rw [vS_dec] at h
  exact h
theorem rv_eq1 {a b : Nat} : RV rEq (vS [a]) (vS [b]) H (.bl (decide (a = b))) := by
  have h := rv_eqS (a := [a]) (b := [b]) (H := H)
  simpa using h
theorem rv_ne1 {a b : Nat} : RV rNe (vS [a]) (vS [b]) H (.bl (!decide (a = b))) := by
  have h := rv_neS (a := [a]) (b := [b]) (H := H)
  simpa using h
theorem rv_eqI {i j : Int} : RV rEq (.int i) (.int j) H (.bl (decide (i = j))) := by
  have h := rv_eq (x := .int i) (y := .int j) (H := H) rfl
  have e : decide (V.int i = V.int j) = decide (i = j) := by simp
  rw [e] at h
  exact h
theorem rv_neI {i j : Int} : RV rNe (.int i) (.int j) H (.bl (!decide (i = j))) := by
  have h := rv_ne (x := .int i) (y := .int j) (H := H) rfl
  have e : decide (V.int i = V.int j) = decide (i = j) := by simp
  rw [e] at h
  exact h
theorem rv_isN : RV (fun x y H Q => y = .non ∧ Q (.bl (decide (x = .non))) H) x .non H (.bl (decide (x = .non))) := fun H1 _ _ q => ⟨rfl, q H1 (Ex.refl H1)⟩
theorem rv_notN : RV (fun x y H Q => y = .non ∧ Q (.bl (!decide (x = .non))) H) x .non H (.bl (!decide (x = .non))) := fun H1 _ _ q => ⟨rfl, q H1 (Ex.refl H1)⟩
theorem rv_catS {a b : List Nat} (h : a.length + b.length ≤ 100000) : RV (fun x y H Q => ∃ i j, x = .str i ∧ y = .str j ∧ i.length + j.length ≤ sizeLine ∧ Q (.str (i ++ j)) H) (vS a) (vS b) H (vS (a ++ b)) := fun H1 _ Q q =>
  ⟨S a, S b, rfl, rfl, by rw [S_len, S_len]; exact sz_of h, by rw [S_cat]; exact q H1 (Ex.refl H1)⟩
theorem rv_inS {c : Nat} {l : List Nat} : RV (fun x y H Q => ∃ (c : Nat) (z : Str), x = .str ⟨#[c]⟩ ∧ y = .str z ∧ Q (.bl (decide (c ∈ z.cps.toList))) H) (vS [c]) (vS l) H (.bl (decide (c ∈ l))) := fun H1 _ Q q =>
  ⟨c, S l, rfl, rfl, q H1 (Ex.refl H1)⟩
theorem rv_niS {c : Nat} {l : List Nat} : RV (fun x y H Q => ∃ (c : Nat) (z : Str), x = .str ⟨#[c]⟩ ∧ y = .str z ∧ Q (.bl (!decide (c ∈ z.cps.toList))) H) (vS [c]) (vS l) H (.bl (!decide (c ∈ l))) := fun H1 _ Q q =>
  ⟨c, S l, rfl, rfl, q H1 (Ex.refl H1)⟩
theorem rv_ixS1 {l : List Nat} {i : Int} {c : Nat} (h : l.length ≤ 100000) (ha : atI l i = some c) : RV rIxS (vS l) (.int i) H (vS [c]) := fun H1 _ _ q => ⟨S l, i, c, rfl, rfl, by rw [S_len]; exact sz_of h, ha, q H1 (Ex.refl H1)⟩
theorem atI_n {α : Type} {l : List α} {i : Nat} {c : α} (h : l[i]? = some c) : atI l (i : Int) = some c := atI_nat h
theorem rv_ixSn {l : List Nat} {i c : Nat} (h : l.length ≤ 100000) (ha : l[i]? = some c) : RV rIxS (vS l) (.int (i : Int)) H (vS [c]) := rv_ixS1 h (atI_n ha)
theorem rv_ixLn {p : Addr} {xs : List V} {i : Nat} (h : SqL K H p xs) (ha : xs[i]? = some v) : RV (rIxL K) (.ref p) (.int (i : Int)) H v := rv_ixL h (atI_n ha)
theorem rv_ixTn {p : Addr} {xs : List V} {i : Nat} (h : SqT K H p xs) (ha : xs[i]? = some v) : RV (rIxT K) (.ref p) (.int (i : Int)) H v := rv_ixT h (atI_n ha)
theorem ev_lit {s : Str} {l : List Nat} (h : s = S l) : Ev (tC (.str s)) σ H (vS l) := by
  rw [h]
  exact ev_c
theorem ev_not {a : Bool} (h : Ev ta σ H (.bl a)) : Ev (tNotV ta) σ H (.bl (!a)) := ev_notV h
theorem ev_chain {a b : Bool} (h1 : Ev ta σ H x) (h2 : Ev tb σ H y) (hr : RV r x y H (.bl a)) (h3 : a = true → Ev tc σ H z) (hr' : a = true → RV r' y z H (.bl b)) : Ev (tChain r r' ta tb tc) σ H (.bl (a && b)) := fun H1 e Q q =>
  h1 H1 e _ fun H2 e2 => h2 H2 (e.trans e2) _ fun H3 e3 => hr H3 ((e.trans e2).trans e3) _ fun H4 e4 => ⟨a, rfl, by
    cases a with
    | true =>
      show tc σ H4 _
      exact h3 rfl H4 (((e.trans e2).trans e3).trans e4) _ fun H5 e5 => hr' rfl H5 ((((e.trans e2).trans e3).trans e4).trans e5) _ fun H6 e6 => q H6 ((((e2.trans e3).trans e4).trans e5).trans e6)
    | false =>
      show Q (.bl false) H4
      exact q H4 ((e2.trans e3).trans e4)⟩
/-! ### calls -/
theorem ea1 (h : Ev ta σ H x) : EvA (tCons ta tNil) σ H [x] := ea_cons h ea_nil
theorem ea2 (h : Ev ta σ H x) (h2 : Ev tb σ H y) : EvA (tCons ta (tCons tb tNil)) σ H [x, y] := ea_cons h (ea_cons h2 ea_nil)
theorem ea3 (h : Ev ta σ H x) (h2 : Ev tb σ H y) (h3 : Ev tc σ H z) : EvA (tCons ta (tCons tb (tCons tc tNil))) σ H [x, y, z] := ea_cons h (ea_cons h2 (ea_cons h3 ea_nil))
theorem ev_lenS {l : List Nat} (h : Ev ta σ H (vS l)) (hl : l.length ≤ 100000) : Ev (tCB (fun xs H Q => ∃ z, xs = [.str z] ∧ z.length ≤ sizeLine ∧ Q (.int z.length) H) (tCons ta tNil)) σ H (.int (l.length : Int)) := fun H1 e Q q =>
  h H1 e _ fun H2 e2 => ⟨S l, rfl, by rw [S_len]; exact sz_of hl, by rw [S_len]; exact q H2 e2⟩
theorem ev_join {xs : List (List Nat)} {p : List Nat} (ho : Ev ta σ H (vS p)) (h : EvL tb σ H (xs.map vS)) (hz : (xs.map (·.length)).sum + xs.length * p.length ≤ 100000) :
    Ev (tM1 (fun x xs H Q => ∃ a p, ∃ ys : List Str, x = .str a ∧ xs = [.ref p] ∧ (SqL K H p (ys.map V.str) ∨ SqT K H p (ys.map V.str)) ∧ (ys.map (·.length)).sum + ys.length * a.length ≤ 16777216 ∧ Q (.str (Txt.join a ys)) H) ta tb) σ H (vS (TL.joinL p xs)) := fun H1 e Q q =>
  ho H1 e _ fun H2 e2 => ⟨⟨S p, rfl⟩, h H2 (e.trans e2) _ fun D H3 _ e3 hD => ⟨S p, D, xs.map S, rfl, rfl, Or.inl (sq_of (by rw [hD, List.map_map]; rfl)), by
    rw [lens, List.length_map, S_len]
    omega, by
    rw [join_S]
    exact q H3 (e2.trans e3)⟩⟩
theorem joinL_nil : ∀ xs : List (List Nat), TL.joinL [] xs = xs.flatten
  | [] => rfl
  | [a] => by simp [TL.joinL]
  | a :: b :: r => by
    have h := joinL_nil (b :: r)
    simp only [TL.joinL, List.nil_append] at h ⊢
    rw [h]
    simp
theorem flat1 (l : List Nat) : (l.map fun c => [c]).flatten = l := by
  induction l with
  | nil => rfl
  | cons a l ih => rw [List.map_cons, List.flatten_cons, ih] <;> rfl
/-- ''.join of a list of single signs -/
theorem ev_join1 {l : List Nat} {s0 : Str} (h0 : s0 = S []) (h : EvL tb σ H (l.map fun c => vS [c])) (hz : l.length ≤ 50000) :
    Ev (tM1 (fun x xs H Q => ∃ a p, ∃ ys : List Str, x = .str a ∧ xs = [.ref p] ∧ (SqL K H p (ys.map V.str) ∨ SqT K H p (ys.map V.str)) ∧ (ys.map (·.length)).sum + ys.length * a.length ≤ 16777216 ∧ Q (.str (Txt.join a ys)) H) (tC (.str s0)) tb) σ H (vS l) := by
  have k := ev_join (K := K) (p := []) (xs := l.map fun c => [c]) (ta := tC (.str s0)) (tb := tb) (σ := σ) (H := H) (ev_lit h0) (by rw [List.map_map]; exact h) (by
    rw [List.map_map, List.length_map]
    have : (l.map ((fun x : List Nat => x.length) ∘ fun c => [c])).sum = l.length := by
      clear hz h
      induction l with
      | nil => rfl
      | cons a l ih => rw [List.map_cons, List.sum_cons, ih, List.length_cons]; show 1 + l.length = _; omega
    rw [this]
    simp
    omega)
  rw [joinL_nil, flat1] at k
  exact k
theorem ev_all {bs : List Bool} (h : EvL tb σ H (bs.map V.bl)) : Ev (tCB (rAll K) (tCons tb tNil)) σ H (.bl (bs.all id)) := fun H1 e Q q =>
  h H1 e _ fun D H2 _ e2 hD => ⟨D, bs, rfl, sq_of hD, q H2 e2⟩
theorem ev_isi {c : V} {ty u : Value} {b : Bool} (h1 : Ev ta σ H x) (h2 : Ev tb σ H c) (hc : ClsV c u) (ht : ∀ H', Ex H H' → TyX K H' x ty) (hk : PySem.W.kitOne K ty u = some b) : Ev (tCB (rIsi K) (tCons ta (tCons tb tNil))) σ H (.bl b) := fun H1 e Q q =>
  h1 H1 e _ fun H2 e2 => h2 H2 (e.trans e2) _ fun H3 e3 => ⟨x, c, ty, u, b, rfl, hc, ht H3 ((e.trans e2).trans e3), hk, q H3 (e2.trans e3)⟩
/-- len of a list, of a tuple -/
theorem ev_lenL {p : Addr} {xs : List V} (h : Ev ta σ H (.ref p)) (hx : SqL K H p xs) : Ev (tCB (fun xs H Q => ∃ p ys, xs = [.ref p] ∧ (SqL K H p ys ∨ SqT K H p ys) ∧ Q (.int ys.length) H) (tCons ta tNil)) σ H (.int (xs.length : Int)) := ev_len h hx
theorem ev_lenLN {xs : List V} (h : EvL ta σ H xs) : Ev (tCB (fun xs H Q => ∃ p ys, xs = [.ref p] ∧ (SqL K H p ys ∨ SqT K H p ys) ∧ Q (.int ys.length) H) (tCons ta tNil)) σ H (.int (xs.length : Int)) := ev_lenN h
theorem el_listOf {p : Addr} {xs : List V} (h : Ev ta σ H (.ref p)) (hx : SqL K H p xs) : EvL (tCB (fun xs H Q => ∃ p ys, xs = [.ref p] ∧ (SqL K H p ys ∨ SqT K H p ys) ∧ ∀ l, H l = none → Q (.ref l) (upd H l (.lst ys))) (tCons ta tNil)) σ H xs := el_list h hx
/-- a text's part -/
theorem cutS_S (l : List Nat) (lo hi : Option Int) : cutS (S l) lo hi = S ((l.drop (HT.sIx l.length 0 lo)).take (HT.sIx l.length l.length hi - HT.sIx l.length 0 lo)) := by
  unfold cutS
  rw [S_len]
theorem cut_to {α : Type} (l : List α) {k : Int} (h : 0 ≤ k) : (l.drop (HT.sIx l.length 0 none)).take (HT.sIx l.length l.length (some k) - HT.sIx l.length 0 none) = l.take k.toNat := by
  obtain ⟨n, rfl⟩ := Int.eq_ofNat_of_zero_le h
  show (l.drop 0).take (HT.sIx l.length l.length (some (n : Int)) - 0) = _
  rw [HT.sIx_nat, List.drop_zero, Nat.sub_zero, Int.toNat_natCast]
  by_cases hn : n ≤ l.length
  · rw [Nat.min_eq_left hn]
  · rw [Nat.min_eq_right (by omega), List.take_of_length_le (Nat.le_refl _), List.take_of_length_le (by omega)]
theorem cut_from {α : Type} (l : List α) {k : Int} (h : 0 ≤ k) : (l.drop (HT.sIx l.length 0 (some k))).take (HT.sIx l.length l.length none - HT.sIx l.length 0 (some k)) = l.drop k.toNat := by
  obtain ⟨n, rfl⟩ := Int.eq_ofNat_of_zero_le h
  show (l.drop (HT.sIx l.length 0 (some (n : Int)))).take (l.length - HT.sIx l.length 0 (some (n : Int))) = _
  rw [HT.sIx_nat, Int.toNat_natCast]
  by_cases hn : n ≤ l.length
  · rw [Nat.min_eq_left hn, List.take_of_length_le (by rw [List.length_drop]; exact Nat.le_refl _)]
  · rw [Nat.min_eq_right (show l.length ≤ n by omega), List.drop_eq_nil_of_le (Nat.le_refl _), List.drop_eq_nil_of_le (show l.length ≤ n by omega)] <;> simp
theorem cut_mid {α : Type} (l : List α) {j k : Int} (h : 0 ≤ j) (h2 : 0 ≤ k) : (l.drop (HT.sIx l.length 0 (some j))).take (HT.sIx l.length l.length (some k) - HT.sIx l.length 0 (some j)) = (l.take k.toNat).drop j.toNat := by
  obtain ⟨n, rfl⟩ := Int.eq_ofNat_of_zero_le h
  obtain ⟨m, rfl⟩ := Int.eq_ofNat_of_zero_le h2
  rw [HT.sIx_nat, HT.sIx_nat, Int.toNat_natCast, Int.toNat_natCast]
  have e1 : l.take m = l.take (min m l.length) := by
    by_cases hm : m ≤ l.length
    · rw [Nat.min_eq_left hm]
    · rw [Nat.min_eq_right (by omega), List.take_of_length_le (by omega), List.take_of_length_le (Nat.le_refl _)]
  rw [e1, List.drop_take]
  by_cases hn : n ≤ l.length
  · rw [Nat.min_eq_left hn]
  · rw [Nat.min_eq_right (show l.length ≤ n by omega), List.drop_eq_nil_of_le (Nat.le_refl _), List.drop_eq_nil_of_le (show l.length ≤ n by omega)] <;> simp
theorem ev_slS {l : List Nat} {tl th : TO} {lo hi : Option Int} (h : Ev te σ H (vS l)) (h1 : EvO tl σ H lo) (h2 : EvO th σ H hi) (hl : l.length ≤ 100000) : Ev (tSl rSlS te tl th) σ H (.str (cutS (S l) lo hi)) := fun H1 e _ q =>
  h H1 e _ fun H2 e2 => h1 H2 (e.trans e2) _ fun H3 e3 => h2 H3 ((e.trans e2).trans e3) _ fun H4 e4 => ⟨S l, rfl, by rw [S_len]; exact sz_of hl, q H4 ((e2.trans e3).trans e4)⟩
/-- s[:k] -/
theorem ev_slTo {l : List Nat} {th : TE} {k : Int} (h : Ev te σ H (vS l)) (h2 : Ev th σ H (.int k)) (hl : l.length ≤ 100000) (hk : 0 ≤ k) : Ev (tSl rSlS te tNoPart (tPart th)) σ H (vS (l.take k.toNat)) :=
  ev_is (ev_slS h eo_none (eo_some h2) hl) (by rw [cutS_S, cut_to l hk])
theorem ev_slFrom {l : List Nat} {th : TE} {k : Int} (h : Ev te σ H (vS l)) (h2 : Ev th σ H (.int k)) (hl : l.length ≤ 100000) (hk : 0 ≤ k) : Ev (tSl rSlS te (tPart th) tNoPart) σ H (vS (l.drop k.toNat)) :=
  ev_is (ev_slS h (eo_some h2) eo_none hl) (by rw [cutS_S, cut_from l hk])
theorem el_slTo {p : Addr} {xs : List V} {th : TE} {k : Int} (h : Ev te σ H (.ref p)) (h2 : Ev th σ H (.int k)) (hx : SqL K H p xs) (hk : 0 ≤ k) : EvL (tSl (rSlL K) te tNoPart (tPart th)) σ H (xs.take k.toNat) := by
  have q := el_sl (K := K) h eo_none (eo_some h2) hx
  unfold cutV at q
  rw [cut_to xs hk] at q
  exact q
theorem el_slFrom {p : Addr} {xs : List V} {th : TE} {k : Int} (h : Ev te σ H (.ref p)) (h2 : Ev th σ H (.int k)) (hx : SqL K H p xs) (hk : 0 ≤ k) : EvL (tSl (rSlL K) te (tPart th) tNoPart) σ H (xs.drop k.toNat) := by
  have q := el_sl (K := K) h (eo_some h2) eo_none hx
  unfold cutV at q
  rw [cut_from xs hk] at q
  exact q
theorem el_slMid {p : Addr} {xs : List V} {tj th : TE} {j k : Int} (h : Ev te σ H (.ref p)) (h1 : Ev tj σ H (.int j)) (h2 : Ev th σ H (.int k)) (hx : SqL K H p xs) (hj : 0 ≤ j) (hk : 0 ≤ k) : EvL (tSl (rSlL K) te (tPart tj) (tPart th)) σ H ((xs.take k.toNat).drop j.toNat) := by
  have q := el_sl (K := K) h (eo_some h1) (eo_some h2) hx
  unfold cutV at q
  rw [cut_mid xs hj hk] at q
  exact q
/-- xs + ys -/
theorem el_cat {p q : Addr} {xs ys : List V} (h : Ev ta σ H (.ref p)) (h2 : Ev tb σ H (.ref q)) (hp : H p = some (.lst xs)) (hq : H q = some (.lst ys)) (hz : xs.length + ys.length ≤ 100000) : EvL (tOp rCat ta tb) σ H (xs ++ ys) := fun H1 e Q k =>
  h H1 e _ fun H2 e2 => h2 H2 (e.trans e2) _ fun H3 e3 => ⟨p, q, xs, ys, rfl, rfl, ((e.trans e2).trans e3) _ _ hp, ((e.trans e2).trans e3) _ _ hq, sz_of hz, fun l hl => k l _ (fresh_back (e2.trans e3) hl) ((e2.trans e3).trans (Ex.new hl)) upd_same⟩
/-- both made on the way -/
theorem el_catN {xs ys : List V} (h : EvL ta σ H xs) (h2 : EvL tb σ H ys) (hz : xs.length + ys.length ≤ 100000) : EvL (tOp rCat ta tb) σ H (xs ++ ys) := fun H1 e Q k =>
  h H1 e _ fun p H2 _ e2 hp => h2 H2 (e.trans e2) _ fun q H3 _ e3 hq => ⟨p, q, xs, ys, rfl, rfl, e3 _ _ hp, hq, sz_of hz, fun l hl => k l _ (fresh_back (e2.trans e3) hl) ((e2.trans e3).trans (Ex.new hl)) upd_same⟩
/-- a field -/
theorem ev_fld {a C dx : Addr} {fs : List (Str × V)} {f : Str} (h : Ev ta σ H (.ref a)) (hi : H a = some (.ins C dx fs)) (c : Cls K C) (n : NoAttr K C f) (hl : fs.lookup f = some v) : Ev (tFld K ta f) σ H v := fun H1 e Q q =>
  h H1 e _ fun H2 e2 => ⟨a, C, dx, fs, v, rfl, (e.trans e2) _ _ hi, c, n, hl, q H2 e2⟩
/-- methods -/
theorem ev_meth {a C dx : Addr} {fs : List (Str × V)} {m : Str} {sp : Sp} {dvs vs : List V} {E : XK} {tr : TA} (h : Ev ta σ H (.ref a)) (hi : H a = some (.ins C dx fs)) (hl : fs.lookup m = none) (ha : EvA tr σ H vs) (hs : SpV sp (.ref a :: (vs ++ dvs)) H z) :
    Ev (tMeth C m sp dvs E ta tr) σ H z := fun H1 e Q q => h H1 e _ fun H2 e2 => ⟨a, dx, fs, rfl, (e.trans e2) _ _ hi, hl, ha H2 (e.trans e2) _ fun H3 e3 => hs H3 ((e.trans e2).trans e3) Q (fun H4 e4 => q H4 ((e2.trans e3).trans e4)) E⟩
theorem el_meth {a C dx : Addr} {fs : List (Str × V)} {m : Str} {sp : Sp} {dvs vs xs : List V} {E : XK} {tr : TA} (h : Ev ta σ H (.ref a)) (hi : H a = some (.ins C dx fs)) (hl : fs.lookup m = none) (ha : EvA tr σ H vs) (hs : SpL sp (.ref a :: (vs ++ dvs)) H xs) :
    EvL (tMeth C m sp dvs E ta tr) σ H xs := fun H1 e Q q => h H1 e _ fun H2 e2 => ⟨a, dx, fs, rfl, (e.trans e2) _ _ hi, hl, ha H2 (e.trans e2) _ fun H3 e3 => hs H3 ((e.trans e2).trans e3) Q (fun p H4 hp e4 h4 => q p H4 (fresh_back (e2.trans e3) hp) ((e2.trans e3).trans e4) h4) E⟩
theorem ev_prop {a C dx : Addr} {fs : List (Str × V)} {sp : Sp} {dvs : List V} {E : XK} (h : Ev ta σ H (.ref a)) (hi : H a = some (.ins C dx fs)) (hs : SpV sp (.ref a :: dvs) H z) : Ev (tProp C sp dvs E ta) σ H z := fun H1 e Q q =>
  h H1 e _ fun H2 e2 => ⟨a, dx, fs, rfl, (e.trans e2) _ _ hi, hs H2 (e.trans e2) Q (fun H4 e4 => q H4 (e2.trans e4)) E⟩
/-- a text's method of one argument: count -/
theorem ev_abs {i : Int} (h : Ev ta σ H (.int i)) : Ev (tCB (fun xs H Q => ∃ i, xs = [.int i] ∧ Q (.int (if i < 0 then -i else i)) H) (tCons ta tNil)) σ H (.int (if i < 0 then -i else i)) := fun H1 e Q q => h H1 e _ fun H2 e2 => ⟨i, rfl, q H2 e2⟩
theorem ev_int1 {i : Int} (h : Ev ta σ H (.int i)) : Ev (tCB (fun xs H Q => (∃ i, xs = [.int i] ∧ Q (.int i) H) ∨ ∃ k, xs = [.bl k] ∧ Q (.int (if k then 1 else 0)) H) (tCons ta tNil)) σ H (.int i) := fun H1 e Q q => h H1 e _ fun H2 e2 => Or.inl ⟨i, rfl, q H2 e2⟩
theorem ev_min2 {i j : Int} (ha : Ev ta σ H (.int i)) (hb : Ev tb σ H (.int j)) : Ev (tCB (fun xs H Q => ∃ i j, xs = [.int i, .int j] ∧ Q (.int (if j < i then j else i)) H) (tCons ta (tCons tb tNil))) σ H (.int (if j < i then j else i)) := fun H1 e Q q =>
  ha H1 e _ fun H2 e2 => hb H2 (e.trans e2) _ fun H3 e3 => ⟨i, j, rfl, q H3 (e2.trans e3)⟩
/-- a loose promise: its answer is told by a word that lasts -/
def SpP (sp : Sp) (vs : List V) (H : Hp) (P : V → Hp → Prop) : Prop := ∀ H1, Ex H H1 → ∀ Q : VK, (∀ v H2, Ex H1 H2 → P v H2 → Q v H2) → ∀ E : XK, sp vs H1 Q E
end
end Nt
end
section
set_option Elab.async false
set_option linter.all false
set_option maxRecDepth 100000
set_option maxHeartbeats 4000000
namespace Nt
open PySem PySem.Spec PyProof.Rows L2 Evl SX
/-! ### data -/
def ov (a b : List Nat) : List Nat := List.zipWith (fun s t => if s = 46 then t else s) a b
/-- which cells a row tells -/
def lot (a : List Nat) : List Nat := a.map fun s => if s = 46 then 46 else 43
def uni (a b : List Nat) : List Nat := List.zipWith (fun s t => if s = 43 ∨ t = 43 then 43 else 46) a b
def wit (a b : List Nat) : Bool := (List.zipWith (fun s t => decide (s = 46) || decide (t = 43)) a b).all id
theorem getD_some {α : Type} {l : List α} {d : α} {i : Nat} (h : i < l.length) : l[i]? = some (l.getD i d) := by
  rw [List.getD_eq_getElem?_getD, List.getElem?_eq_getElem h] <;> rfl
theorem range_zip {α β γ : Type} (f : α → β → γ) (a : List α) (b : List β) (d : α) (e : β) (h : a.length = b.length) : (List.range a.length).map (fun i => f (a.getD i d) (b.getD i e)) = List.zipWith f a b := by
  apply List.ext_getElem?
  intro i
  rw [List.getElem?_map, List.getElem?_zipWith]
  by_cases hi : i < a.length
  · rw [List.getElem?_range hi, getD_some (d := d) hi, getD_some (l := b) (d := e) (by omega)]
    rfl
  · rw [List.getElem?_eq_none (l := List.range a.length) (by rw [List.length_range]; omega), List.getElem?_eq_none (l := a) (by omega)]
    rfl
theorem range_map {α γ : Type} (f : α → γ) (a : List α) (d : α) : (List.range a.length).map (fun i => f (a.getD i d)) = a.map f := by
  apply List.ext_getElem?
  intro i
  rw [List.getElem?_map, List.getElem?_map]
  by_cases hi : i < a.length
  · rw [List.getElem?_range hi, getD_some (d := d) hi] <;> rfl
  · rw [List.getElem?_eq_none (l := List.range a.length) (by rw [List.length_range]; omega), List.getElem?_eq_none (l := a) (by omega)] <;> rfl
theorem eA {te : TE} {σ : L2.St} {H : Hp} {xs ys : List V} (h : EvL te σ H xs) (e : xs = ys) : EvL te σ H ys := by
  rw [← e]
  exact h
theorem inV_S (a : List Nat) (xs : List (List Nat)) : inV (vS a) (xs.map vS) = decide (a ∈ xs) := by
  unfold inV
  induction xs with
  | nil => simp
  | cons b xs ih =>
    rw [List.map_cons, List.any_cons, ih]
    have e : eqV (vS b) (vS a) = decide (b = a) := S_beq_eq
    rw [e]
    by_cases h : b = a
    · subst h
      simp
    · have h' : ¬ a = b := fun z => h z.symm
      simp [h, h']
theorem flatS (xs : List (List Nat)) : (xs.map vS).all flatV = true := by
  rw [List.all_map]
  exact List.all_eq_true.mpr fun _ _ => rfl
section
variable {P : Program} {w : World} {K : PySem.W.Frag} {mg : Str → Option Value} {base : Heap} {A : Ad}
abbrev n_over : List Str := ["newer", "older", "sign", "below"]
theorem sc_over : FnScope n_over ["newer", "older"] (defScope s_over) := ⟨rfl, rfl, rfl, by decide +kernel, rfl, by decide +kernel, by decide +kernel⟩
def spOver : Sp := fun vs H Q _ => ∃ a b : List Nat, vs = [vS a, vS b] ∧ a.length = b.length ∧ b.length ≤ 100 ∧ RetV (vS (ov a b)) H Q
theorem ok_over (T : Tx K mg A) : FnOk P w K mg base CX0 2 (A.f "over") (A.fd "over") ["newer", "older"] spOver := by
  refine T.F_over.ok sc_over (fun vs H Q E h => ?_) (fun cdv A' outer s H vs Q E hr h => ?_)
  · obtain ⟨a, b, rfl, _⟩ := h
    rfl
  · obtain ⟨a, b, rfl, ha, hb, k⟩ := h
    refine ⟨_, PSs.nox (pss_one (ps_ret (pe_join pe_str (pe_lc (own := [("sign", 2), ("below", 3)]) (g := (gTup K 2 (gCons (gName 2) (gCons (gName 3) gNil)))) (by rfl) sc_over.nd (Nr.pi_zipS (by rfl) T.n_zip (pa_cons (pv 0) (pa_cons (pv 1) pa_nil))) (blkOk_by (own := [("sign", 2), ("below", 3)]) (N := n_over) (sc := defScope s_over) (by decide +kernel)) (fun _ _ _ _ _ => (pg_tup rfl (pgs_cons (pg_name (i := 2) sc_over.nd rfl (Or.inl rfl) (Or.inr rfl)) (pgs_cons (pg_name (i := 3) sc_over.nd rfl (Or.inl rfl) (Or.inr rfl)) pgs_nil)))) (fun _ _ _ _ _ => pts_nil) (fun _ _ _ _ _ => (pe_ifExp (pt_cmpR op_eq (pv 2) pe_str (nomark _)) (pv 3) (pv 2))))))) , ?_⟩
    refine s_ret (ev_join1 rfl (eA (el_lcA (ei_zipSS (n := a.length) (c := fun i => a.getD i 0) (d := fun i => b.getD i 0) (ea2 (ev_var rfl) (ev_var rfl)) rfl ha.symm (fun i hi => getD_some hi) (fun i hi => getD_some (by omega))) (by omega)
      (fun i => vS [if a.getD i 0 = 46 then b.getD i 0 else a.getD i 0]) (fun i hi => rfl) (fun i hi => ?_)) ?_) ?_) k
    · refine ev_is (ev_if (et_test (ev_op (ev_var rfl) ev_c (rv_eq1 (b := 46)))) (v := vS [if a.getD i 0 = 46 then b.getD i 0 else a.getD i 0]) (fun h => ?_) (fun h => ?_)) rfl
      · rw [if_pos (of_decide_eq_true h)]
        exact ev_var rfl
      · rw [if_neg (of_decide_eq_false h)]
        exact ev_var rfl
    · rw [range_zip (fun s t => vS [if s = 46 then t else s]) a b 0 0 ha]
      show _ = (ov a b).map _
      unfold ov
      rw [List.map_zipWith]
    · unfold ov
      rw [List.length_zipWith]
      omega
abbrev n_lotof : List Str := ["row", "sign"]
theorem sc_lotof : FnScope n_lotof ["row"] (defScope s_lotof) := ⟨rfl, rfl, rfl, by decide +kernel, rfl, by decide +kernel, by decide +kernel⟩
def spLotOf : Sp := fun vs H Q _ => ∃ a : List Nat, vs = [vS a] ∧ a.length ≤ 100 ∧ RetV (vS (lot a)) H Q
theorem ok_lotof (T : Tx K mg A) : FnOk P w K mg base CX0 2 (A.f "lot_of") (A.fd "lot_of") ["row"] spLotOf := by
  refine T.F_lotof.ok sc_lotof (fun vs H Q E h => ?_) (fun cdv A' outer s H vs Q E hr h => ?_)
  · obtain ⟨a, rfl, _⟩ := h
    rfl
  · obtain ⟨a, rfl, ha, k⟩ := h
    refine ⟨_, PSs.nox (pss_one (ps_ret (pe_join pe_str (pe_lc (own := [("sign", 1)]) (g := (gName 1)) (by rfl) sc_lotof.nd (pi_str (pv 0)) (blkOk_by (own := [("sign", 1)]) (N := n_lotof) (sc := defScope s_lotof) (by decide +kernel)) (fun _ _ _ _ _ => (pg_name (i := 1) sc_lotof.nd rfl (Or.inl rfl) (Or.inr rfl))) (fun _ _ _ _ _ => pts_nil) (fun _ _ _ _ _ => (pe_ifExp (pt_cmpR op_eq (pv 1) pe_str (nomark _)) pe_str pe_str)))))) , ?_⟩
    refine s_ret (ev_join1 rfl (eA (el_lcA (ei_text (c := fun i => a.getD i 0) (ev_var rfl) (fun i hi => getD_some hi)) (by omega)
      (fun i => vS [if a.getD i 0 = 46 then 46 else 43]) (fun i hi => rfl) (fun i hi => ?_)) ?_) ?_) k
    · refine ev_if (et_test (ev_op (ev_var rfl) ev_c (rv_eq1 (b := 46)))) (fun h => ?_) (fun h => ?_)
      · rw [if_pos (of_decide_eq_true h)]
        exact ev_c
      · rw [if_neg (of_decide_eq_false h)]
        exact ev_c
    · rw [range_map (fun s => vS [if s = 46 then 46 else 43]) a 0]
      show _ = (lot a).map _
      unfold lot
      rw [List.map_map] <;> rfl
    · unfold lot
      rw [List.length_map]
      omega
abbrev n_union : List Str := ["one", "other", "sign", "second"]
theorem sc_union : FnScope n_union ["one", "other"] (defScope s_union) := ⟨rfl, rfl, rfl, by decide +kernel, rfl, by decide +kernel, by decide +kernel⟩
def spUnion : Sp := fun vs H Q _ => ∃ a b : List Nat, vs = [vS a, vS b] ∧ a.length = b.length ∧ b.length ≤ 100 ∧ RetV (vS (uni a b)) H Q
theorem ok_union (T : Tx K mg A) : FnOk P w K mg base CX0 2 (A.f "union") (A.fd "union") ["one", "other"] spUnion := by
  refine T.F_union.ok sc_union (fun vs H Q E h => ?_) (fun cdv A' outer s H vs Q E hr h => ?_)
  · obtain ⟨a, b, rfl, _⟩ := h
    rfl
  · obtain ⟨a, b, rfl, ha, hb, k⟩ := h
    refine ⟨_, PSs.nox (pss_one (ps_ret (pe_join pe_str (pe_lc (own := [("sign", 2), ("second", 3)]) (g := (gTup K 2 (gCons (gName 2) (gCons (gName 3) gNil)))) (te := (tIf (tTest (tOp (rIn K false) _ _)) _ _)) (by rfl) sc_union.nd (Nr.pi_zipS (by rfl) T.n_zip (pa_cons (pv 0) (pa_cons (pv 1) pa_nil))) (blkOk_by (own := [("sign", 2), ("second", 3)]) (N := n_union) (sc := defScope s_union) (by decide +kernel)) (fun _ _ _ _ _ => (pg_tup rfl (pgs_cons (pg_name (i := 2) sc_union.nd rfl (Or.inl rfl) (Or.inr rfl)) (pgs_cons (pg_name (i := 3) sc_union.nd rfl (Or.inl rfl) (Or.inr rfl)) pgs_nil)))) (fun _ _ _ _ _ => pts_nil) (fun _ _ _ _ _ => (pe_ifExp (pt_cmpR op_in_seq pe_str (pe_tup (pa_cons (pv 2) (pa_cons (pv 3) pa_nil))) (by rfl)) pe_str pe_str)))))) , ?_⟩
    refine s_ret (ev_join1 rfl (eA (el_lcA (ei_zipSS (n := a.length) (c := fun i => a.getD i 0) (d := fun i => b.getD i 0) (ea2 (ev_var rfl) (ev_var rfl)) rfl ha.symm (fun i hi => getD_some hi) (fun i hi => getD_some (by omega))) (by omega)
      (fun i => vS [if a.getD i 0 = 43 ∨ b.getD i 0 = 43 then 43 else 46]) (fun i hi => rfl) (fun i hi => ?_)) ?_) ?_) k
    · have hin : inV (vS [43]) [vS [a.getD i 0], vS [b.getD i 0]] = decide (a.getD i 0 = 43 ∨ b.getD i 0 = 43) := by
        have e1 := inV_S [43] [[a.getD i 0], [b.getD i 0]]
        refine e1.trans ?_
        congr 1
        simp [eq_comm]
      refine ev_if (et_test (ev_inU (ev_lit (l := [43]) rfl) (eu_tup (ea2 (ev_var rfl) (ev_var rfl)) (Nat.le_of_ble_eq_true rfl)) rfl rfl)) (fun h => ?_) (fun h => ?_)
      · have h' : inV (vS [43]) [vS [a.getD i 0], vS [b.getD i 0]] = true := h
        rw [hin] at h'
        rw [if_pos (of_decide_eq_true h')]
        exact ev_c
      · have h' : inV (vS [43]) [vS [a.getD i 0], vS [b.getD i 0]] = false := h
        rw [hin] at h'
        rw [if_neg (of_decide_eq_false h')]
        exact ev_c
    · rw [range_zip (fun s t => vS [if s = 43 ∨ t = 43 then 43 else 46]) a b 0 0 ha]
      show _ = (uni a b).map _
      unfold uni
      rw [List.map_zipWith]
    · unfold uni
      rw [List.length_zipWith]
      omega
abbrev n_within : List Str := ["one", "other", "sign", "outer"]
theorem sc_within : FnScope n_within ["one", "other"] (defScope s_within) := ⟨rfl, rfl, rfl, by decide +kernel, rfl, by decide +kernel, by decide +kernel⟩
def spWithin : Sp := fun vs H Q _ => ∃ a b : List Nat, vs = [vS a, vS b] ∧ a.length = b.length ∧ b.length ≤ 100 ∧ RetV (.bl (wit a b)) H Q
theorem ok_within (T : Tx K mg A) : FnOk P w K mg base CX0 2 (A.f "within") (A.fd "within") ["one", "other"] spWithin := by
  refine T.F_within.ok sc_within (fun vs H Q E h => ?_) (fun cdv A' outer s H vs Q E hr h => ?_)
  · obtain ⟨a, b, rfl, _⟩ := h
    rfl
  · obtain ⟨a, b, rfl, ha, hb, k⟩ := h
    refine ⟨_, PSs.nox (pss_one (ps_ret (pe_callB (cr_all rfl) (by rfl) T.n_all (by decide +kernel) (pa_cons (pe_lc (own := [("sign", 2), ("outer", 3)]) (g := (gTup K 2 (gCons (gName 2) (gCons (gName 3) gNil)))) (by rfl) sc_within.nd (Nr.pi_zipS (by rfl) T.n_zip (pa_cons (pv 0) (pa_cons (pv 1) pa_nil))) (blkOk_by (own := [("sign", 2), ("outer", 3)]) (N := n_within) (sc := defScope s_within) (by decide +kernel)) (fun _ _ _ _ _ => (pg_tup rfl (pgs_cons (pg_name (i := 2) sc_within.nd rfl (Or.inl rfl) (Or.inr rfl)) (pgs_cons (pg_name (i := 3) sc_within.nd rfl (Or.inl rfl) (Or.inr rfl)) pgs_nil)))) (fun _ _ _ _ _ => pts_nil) (fun _ _ _ _ _ => (pe_or (pe_cmpR op_eq (pv 2) pe_str (nomark _)) (pe_one (pe_cmpR op_eq (pv 3) pe_str (nomark _)))))) pa_nil)))) , ?_⟩
    refine s_ret (ev_all (eA (el_lcA (ei_zipSS (n := a.length) (c := fun i => a.getD i 0) (d := fun i => b.getD i 0) (ea2 (ev_var rfl) (ev_var rfl)) rfl ha.symm (fun i hi => getD_some hi) (fun i hi => getD_some (by omega))) (by omega)
      (fun i => .bl (decide (a.getD i 0 = 46) || decide (b.getD i 0 = 43))) (fun i hi => rfl) (fun i hi => ?_)) ?_)) k
    · exact ev_orV (ev_op (ev_var rfl) ev_c (rv_eq1 (b := 46))) fun _ => ev_op (ev_var rfl) ev_c (rv_eq1 (b := 43))
    · rw [range_zip (fun s t => V.bl (decide (s = 46) || decide (t = 43))) a b 0 0 ha, List.map_zipWith]
abbrev n_blank : List Str := ["many"]
theorem sc_blank : FnScope n_blank ["many"] (defScope s_blank) := ⟨rfl, rfl, rfl, by decide +kernel, rfl, by decide +kernel, by decide +kernel⟩
def spBlank : Sp := fun vs H Q _ => ∃ n : Nat, vs = [.int n] ∧ 1 ≤ n ∧ n ≤ 100 ∧ RetV (vS (List.replicate n 46)) H Q
theorem ok_blank (T : Tx K mg A) : FnOk P w K mg base CX0 2 (A.f "blank") (A.fd "blank") ["many"] spBlank := by
  refine T.F_blank.ok sc_blank (fun vs H Q E h => ?_) (fun cdv A' outer s H vs Q E hr h => ?_)
  · obtain ⟨n, rfl, _⟩ := h
    rfl
  · obtain ⟨n, rfl, h1, h2, k⟩ := h
    refine ⟨_, PSs.nox (pss_one (ps_ret (pe_op Nr.op_mulS pe_str (pv 0)))) , ?_⟩
    refine s_ret (ev_op ev_c (ev_var rfl) ?_) k
    intro H1 e Q q
    exact ⟨46, n, rfl, rfl, by omega, by omega, q H1 (Ex.refl H1)⟩
end
end Nt
end
section
set_option Elab.async false
set_option linter.all false
set_option maxRecDepth 100000
set_option maxHeartbeats 4000000
namespace Nt
open PySem PySem.Spec PyProof.Rows L2 Evl SX
/-! ### plain values and their types -/
inductive Pl (H : Hp) : V → String → Prop where
  | non : Pl H .non "NoneType"
  | bl (b : Bool) : Pl H (.bl b) "bool"
  | int (i : Int) : Pl H (.int i) "int"
  | str (x : Str) : Pl H (.str x) "str"
  | lst {a : Addr} {xs : List V} (e : H a = some (.lst xs)) : Pl H (.ref a) "list"
  | tup {a : Addr} {xs : List V} (e : H a = some (.tup xs)) : Pl H (.ref a) "tuple"
  | dK {a : Addr} {kvs : List (Key × V)} (e : H a = some (.dK kvs)) : Pl H (.ref a) "dict"
theorem Pl.ex {H H' : Hp} {v : V} {t : String} (p : Pl H v t) (e : Ex H H') : Pl H' v t := by
  cases p with
  | non => exact .non
  | bl b => exact .bl b
  | int i => exact .int i
  | str x => exact .str x
  | lst h => exact .lst (e _ _ h)
  | tup h => exact .tup (e _ _ h)
  | dK h => exact .dK (e _ _ h)
theorem Pl.ty {K : PySem.W.Frag} {H : Hp} {v : V} {t : String} (p : Pl H v t) : TyX K H v (.type t) := by
  cases p with
  | non => exact .base .non
  | bl b => exact .base (.bl b)
  | int i => exact .base (.int i)
  | str x => exact .base (.str x)
  | lst h => exact .base (.lst h)
  | tup h => exact .base (.tup h)
  | dK h => exact .base (.dK h)
def isB (t c : String) : Bool := decide (t = c) || (decide (t = "bool") && decide (c = "int"))
theorem Pl.kit {K : PySem.W.Frag} {H : Hp} {v : V} {t c : String} (p : Pl H v t) (hc : c = "str" ∨ c = "int" ∨ c = "bool" ∨ c = "list" ∨ c = "tuple" ∨ c = "dict") : PySem.W.kitOne K (.type t) (.type c) = some (isB t c) := by
  refine kit_ty ?_
  rcases hc with rfl | rfl | rfl | rfl | rfl | rfl <;> cases p <;> decide +kernel
section
variable {K : PySem.W.Frag} {σ : L2.St} {W H H' : Hp} {ta tb tc te tl : TE} {x y z v w' : V}
theorem ev_isP {t c : String} (h1 : Ev ta σ H x) (p : Pl H x t) (hc : c = "str" ∨ c = "int" ∨ c = "bool" ∨ c = "list" ∨ c = "tuple" ∨ c = "dict") : Ev (tCB (rIsi K) (tCons ta (tCons (tC (.ty c)) tNil))) σ H (.bl (isB t c)) :=
  ev_isi h1 ev_c (.ty c) (fun H' e => (p.ex e).ty) (p.kit hc)
end
/-! ### data -/
def isNum : V → Int → Int → Bool
  | .int i, l, m => decide (l ≤ i) && decide (i ≤ m)
  | _, _, _ => false
def newest (rows : List (List Nat)) (p : Nat) : Nat → Nat
  | 0 => 0
  | m + 1 => if (rows.getD m []).getD p 46 = 46 then newest rows p m else m + 1
def nextF (rows : List (List Nat)) (p : Nat) : Nat → Nat → Option Nat
  | _, 0 => none
  | b, n + 1 => if (rows.getD b []).getD p 46 = 46 then nextF rows p (b + 1) n else some (b + 1)
def optI : Option Nat → V
  | none => .non
  | some n => .int (n : Int)
/-- the rows of width n at a -/
structure RowsAt (H : Hp) (a : Addr) (rows : List (List Nat)) (n : Nat) : Prop where
  at_ : H a = some (.lst (rows.map vS))
  wid : ∀ r ∈ rows, r.length = n
  few : rows.length ≤ 1000
  nar : n ≤ 100
theorem RowsAt.ex {H H' : Hp} {a : Addr} {rows : List (List Nat)} {n : Nat} (r : RowsAt H a rows n) (e : Ex H H') : RowsAt H' a rows n := ⟨e _ _ r.at_, r.wid, r.few, r.nar⟩
theorem RowsAt.get {H : Hp} {a : Addr} {rows : List (List Nat)} {n i : Nat} (r : RowsAt H a rows n) (hi : i < rows.length) : (rows.map vS)[i]? = some (vS (rows.getD i [])) := by
  rw [List.getElem?_map, getD_some (d := []) hi]
  rfl
theorem RowsAt.len {H : Hp} {a : Addr} {rows : List (List Nat)} {n i : Nat} (r : RowsAt H a rows n) (hi : i < rows.length) : (rows.getD i []).length = n := by
  refine r.wid _ ?_
  rw [List.getD_eq_getElem?_getD, List.getElem?_eq_getElem hi]
  exact List.getElem_mem hi
section
variable {P : Program} {w : World} {K : PySem.W.Frag} {mg : Str → Option Value} {base : Heap} {A : Ad} {σ : L2.St} {W H H' : Hp} {ta tb tc te tl : TE}
/-- rows[i][p] -/
theorem ev_rc {a : Addr} {rows : List (List Nat)} {n i p : Nat} (r : RowsAt H a rows n) (ha : Ev ta σ H (.ref a)) (hb : Ev tb σ H (.int (i : Int))) (hc : Ev tc σ H (.int (p : Int))) (hi : i < rows.length) (hp : p < n) :
    Ev (tOp rIxS (tOp (rIxL K) ta tb) tc) σ H (vS [(rows.getD i []).getD p 46]) := by
  have hl := r.len hi
  have := r.nar
  exact ev_op (ev_op ha hb (rv_ixLn (sq_of r.at_) (r.get hi))) hc (rv_ixSn (by omega) (getD_some (by omega)))
abbrev n_isnumber : List Str := ["value", "least", "most"]
theorem sc_isnumber : FnScope n_isnumber ["value", "least", "most"] (defScope s_isnumber) := ⟨rfl, rfl, rfl, by decide +kernel, rfl, by decide +kernel, by decide +kernel⟩
def spIsNumber (K : PySem.W.Frag) : Sp := fun vs H Q _ => ∃ (v : V) (t : String) (l m : Int), vs = [v, .int l, .int m] ∧ Pl H v t ∧ RetV (.bl (isNum v l m)) H Q
theorem ok_isnumber (T : Tx K mg A) : FnOk P w K mg base CX0 2 (A.f "is_number") (A.fd "is_number") ["value", "least", "most"] (spIsNumber K) := by
  refine T.F_isnumber.ok sc_isnumber (fun vs H Q E h => ?_) (fun cdv A' outer s H vs Q E hr h => ?_)
  · obtain ⟨v, t, l, m, rfl, _⟩ := h
    rfl
  · obtain ⟨v, t, l, m, rfl, p, k⟩ := h
    refine ⟨_, PSs.nox (pss_one (ps_ret (pe_and (pe_callB call_isi (by rfl) T.n_isinstance (by decide +kernel) (pa_cons (pv 0) (pa_cons (pe_bltn (v := .ty "int") (by rfl) T.n_int (by decide +kernel) rfl) pa_nil))) (pe_and (pe_not (pe_callB call_isi (by rfl) T.n_isinstance (by decide +kernel) (pa_cons (pv 0) (pa_cons (pe_bltn (v := .ty "bool") (by rfl) T.n_bool (by decide +kernel) rfl) pa_nil)))) (pe_one (pe_chain op_le op_le (pv 1) (pv 0) (pv 2))))))) , ?_⟩
    by_cases hv : ∃ i, v = .int i
    · obtain ⟨i, rfl⟩ := hv
      have et : t = "int" := by
        cases p
        rfl
      subst et
      exact s_ret (ev_is (ev_andV (ev_isP (ev_var rfl) p (by simp)) fun _ => ev_andV (ev_notV (ev_isP (ev_var rfl) p (by simp))) fun _ => ev_chain (ev_var rfl) (ev_var rfl) rv_le (fun _ => ev_var rfl) fun _ => rv_le) rfl) k
    · have e0 : isNum v l m = false := by
        cases v <;> first | rfl | exact absurd ⟨_, rfl⟩ hv
      rw [e0] at k
      by_cases hb : t = "bool"
      · subst hb
        exact s_ret (ev_is (w := .bl false) (ev_andV (b := false) (ev_isP (c := "int") (ev_var rfl) p (by simp)) fun _ => ev_andV (b := false) (ev_notV (ev_isP (c := "bool") (ev_var rfl) p (by simp))) fun h => absurd h (by decide)) rfl) k
      · have e1 : isB t "int" = false := by
          cases p <;> first | rfl | exact absurd rfl hb | exact absurd ⟨_, rfl⟩ hv | decide
        exact s_ret (ev_is (ev_andV (b := false) (ev_isP (ev_var rfl) p (by simp)) fun h => absurd (e1.symm.trans h) (by decide)) (by rw [e1] <;> rfl)) k
abbrev n_newestat : List Str := ["rows", "place", "last", "moment"]
theorem sc_newestat : FnScope n_newestat ["rows", "place", "last"] (defScope s_newestat) := ⟨rfl, rfl, rfl, by decide +kernel, rfl, by decide +kernel, by decide +kernel⟩
def spNewestAt (K : PySem.W.Frag) : Sp := fun vs H Q _ => ∃ (a : Addr) (rows : List (List Nat)) (n p m : Nat), vs = [.ref a, .int (p : Int), .int (m : Int)] ∧ RowsAt H a rows n ∧ p < n ∧ m ≤ rows.length ∧ RetV (.int (newest rows p m : Int)) H Q
theorem ok_newestat (T : Tx K mg A) : FnOk P w K mg base CX0 2 (A.f "newest_at") (A.fd "newest_at") ["rows", "place", "last"] (spNewestAt K) := by
  refine T.F_newestat.ok sc_newestat (fun vs H Q E h => ?_) (fun cdv A' outer s H vs Q E hr h => ?_)
  · obtain ⟨a, rows, n, p, m, rfl, _⟩ := h
    rfl
  · obtain ⟨a, rows, n, p, m, rfl, R, hp, hm, k⟩ := h
    refine ⟨_, PSs.nox (pss_cons (ps_set (i := 3) sc_newestat.nd rfl (Or.inl rfl) (pv 2))
      (pss_cons (ps_while PassesOwn.never (PW.pt (pw_and (pt_cmpR op_gt (pv 3) pe_int (nomark _)) (pw_and1 (pt_cmpR op_eq (pe_ix ix_str (pe_ix ix_list (pv 0) (pe_op op_sub (pv 3) pe_int) (fun _ _ => rfl)) (pv 1) (fun _ _ => rfl)) pe_str (nomark _)))))
      (pss_one (ps_aug (i := 3) sc_newestat.nd rfl (Or.inl rfl) pe_int ip_sub)))
      (pss_one (ps_ret (pv 3))))) , ?_⟩
    refine q_asg (ev_var rfl) fun H1 e1 => ?_
    refine q_while (fun j σ' H' => j ≤ m ∧ σ' = [some (.ref a), some (.int (p : Int)), some (.int (m : Int)), some (.int (j : Int))] ∧ Ex H H' ∧ newest rows p j = newest rows p m) m ⟨Nat.le_refl _, rfl, e1, rfl⟩ fun j σ' H' hw => ?_
    obtain ⟨hj, rfl, e2, hn⟩ := hw
    cases j with
    | zero =>
      refine ⟨false, et_is (et_and (a := false) (b := false) (et_is (et_test (ev_op (ev_var rfl) ev_c rv_gt)) (by decide)) fun h => absurd h (by decide)) rfl, fun h => absurd h (by decide), fun _ H3 e3 => ?_⟩
      have hz : newest rows p m = 0 := hn.symm
      exact s_ret (ev_var rfl) fun H4 e4 => k H4 ((e2.trans e3).trans e4) |> fun q => by
        rw [hz] at q
        exact q
    | succ j =>
      refine ⟨decide ((rows.getD j []).getD p 46 = 46), et_is (et_and (a := true) (b := decide ((rows.getD j []).getD p 46 = 46)) (et_is (et_test (ev_op (ev_var rfl) ev_c rv_gt)) (by simp)) fun _ => et_test (ev_op (ev_rc (R.ex e2) (ev_var rfl)
        (ev_is (ev_op (ev_var rfl) ev_c rv_sub) (by simp)) (ev_var rfl) (by omega) hp) ev_c (rv_eq1 (b := 46)))) (by simp), fun hb H3 e3 => ?_, fun hb H3 e3 => ?_⟩
      · have h46 := of_decide_eq_true hb
        have hstep : newest rows p (j + 1) = newest rows p j := by
          show (if (rows.getD j []).getD p 46 = 46 then newest rows p j else j + 1) = _
          rw [if_pos h46]
        refine ⟨fun σ2 H2 => σ2 = [some (.ref a), some (.int (p : Int)), some (.int (m : Int)), some (.int (j : Int))] ∧ Ex H H2, fun σ2 H2 hN => ⟨j, Nat.lt_succ_self j, by omega, hN.1, hN.2, by rw [← hn, hstep]⟩, ?_⟩
        refine s_aug (a := ((j + 1 : Nat) : Int)) (b := 1) rfl ev_c fun H4 e4 => ⟨?_, (e2.trans e3).trans e4⟩
        have : ((j + 1 : Nat) : Int) - 1 = (j : Int) := by omega
        show _ = _
        rw [this]
        rfl
      · have h46 := of_decide_eq_false hb
        have hstep : newest rows p (j + 1) = j + 1 := by
          show (if (rows.getD j []).getD p 46 = 46 then newest rows p j else j + 1) = _
          rw [if_neg h46]
        refine s_ret (ev_var rfl) fun H4 e4 => ?_
        have q := k H4 ((e2.trans e3).trans e4)
        rw [← hn, hstep] at q
        exact q
abbrev n_nextat : List Str := ["rows", "place", "behind", "at"]
theorem sc_nextat : FnScope n_nextat ["rows", "place", "behind"] (defScope s_nextat) := ⟨rfl, rfl, rfl, by decide +kernel, rfl, by decide +kernel, by decide +kernel⟩
def spNextAt (K : PySem.W.Frag) : Sp := fun vs H Q _ => ∃ (a : Addr) (rows : List (List Nat)) (n p b : Nat), vs = [.ref a, .int (p : Int), .int (b : Int)] ∧ RowsAt H a rows n ∧ p < n ∧ b ≤ rows.length ∧ RetV (optI (nextF rows p b (rows.length - b))) H Q
theorem ok_nextat (T : Tx K mg A) : FnOk P w K mg base CX0 2 (A.f "next_at") (A.fd "next_at") ["rows", "place", "behind"] (spNextAt K) := by
  refine T.F_nextat.ok sc_nextat (fun vs H Q E h => ?_) (fun cdv A' outer s H vs Q E hr h => ?_)
  · obtain ⟨a, rows, n, p, b, rfl, _⟩ := h
    rfl
  · obtain ⟨a, rows, n, p, b, rfl, R, hp, hb, k⟩ := h
    refine ⟨_, PSs.nox (pss_cons (ps_for PassesOwn.never rfl (pi_range2 (by rfl) T.n_range (pa_cons (pv 2) (pa_cons (pe_callB call_len_seq (by rfl) T.n_len PySem.boot_len (pa_cons (pv 0) pa_nil)) pa_nil))) (pg_name (i := 3) sc_nextat.nd rfl (Or.inl rfl) (Or.inr rfl))
      (pss_one (ps_if (pt_cmpR op_ne (pe_ix ix_str (pe_ix ix_list (pv 0) (pv 3) (fun _ _ => rfl)) (pv 1) (fun _ _ => rfl)) pe_str (nomark _))
      (pss_one (ps_ret (pe_op op_add (pv 3) pe_int)))
      pss_nil)))
      (pss_one (ps_ret pe_non))) , ?_⟩
    have hf := R.few
    refine q_forF (W := H) (n := rows.length - b) (ei_rng2 (ea2 (ev_var rfl) (ev_lenL (ev_var rfl) (sq_of R.at_))) (by rw [List.length_map]; omega) (by rw [List.length_map]; omega)) (Ex.refl H)
      (fun W1 i σ' H' => Ex W1 H' ∧ ∃ o, σ' = [some (.ref a), some (.int (p : Int)), some (.int (b : Int)), o] ∧ nextF rows p (b + i) (rows.length - b - i) = nextF rows p b (rows.length - b)) (fun W1 H1 e1 eW ew _ => ⟨ew, none, rfl, rfl⟩) (fun W1 i σ' H' h => h.1)
      (fun W1 i σ' H' eW hi h H1 e1 => ?_) (fun W1 σ' H' eW h => ?_)
    · obtain ⟨h1, o, rfl, hn⟩ := h
      have hx : rows.length - b - i = (rows.length - b - (i + 1)) + 1 := by omega
      rw [hx] at hn
      have hn' : (if (rows.getD (b + i) []).getD p 46 = 46 then nextF rows p (b + i + 1) (rows.length - b - (i + 1)) else some (b + i + 1)) = nextF rows p b (rows.length - b) := hn
      have ei : (b : Int) + (i : Int) = ((b + i : Nat) : Int) := by omega
      show tIfS _ _ _ _ [some (.ref a), some (.int (p : Int)), some (.int (b : Int)), some (.int ((b : Int) + (i : Int)))] H1
      rw [ei]
      refine s_when (b := !decide ((rows.getD (b + i) []).getD p 46 = 46)) (et_test (ev_op (ev_rc (R.ex ((eW.trans h1).trans e1)) (ev_var rfl) (ev_var rfl) (ev_var rfl) (by omega) hp) ev_c (rv_ne1 (b := 46)))) (fun hb H2 e2 => ?_) (fun hb H2 e2 => ?_)
      · have h46 : ¬ (rows.getD (b + i) []).getD p 46 = 46 := by simpa using hb
        rw [if_neg h46] at hn'
        rw [← hn'] at k
        refine s_ret (ev_is (ev_op (ev_var rfl) ev_c rv_add) (w := optI (some (b + i + 1))) ?_) fun H3 e3 => k H3 (((((eW.trans h1).trans e1).trans e2).trans e3))
        show V.int _ = V.int _
        congr 1
      · have h46 : (rows.getD (b + i) []).getD p 46 = 46 := by simpa using hb
        rw [if_pos h46] at hn'
        exact ⟨(h1.trans e1).trans e2, _, rfl, hn'⟩
    · obtain ⟨h1, o, rfl, hn⟩ := h
      have hx : rows.length - b - (rows.length - b) = 0 := by omega
      rw [hx] at hn
      have hn' : none = nextF rows p b (rows.length - b) := hn
      rw [← hn'] at k
      exact s_ret ev_c fun H3 e3 => k H3 ((eW.trans h1).trans e3)
end
end Nt
end
section
set_option Elab.async false
set_option linter.all false
set_option maxRecDepth 100000
set_option maxHeartbeats 4000000
namespace Nt
open PySem PySem.Spec PyProof.Rows L2 Evl SX
theorem kit_LT {K : PySem.W.Frag} {H : Hp} {v : V} {t : String} (p : Pl H v t) : PySem.W.kitAny K (.type t) [.type "list", .type "tuple"] = some (isB t "list" || isB t "tuple") :=
  kitAny_cons (p.kit (c := "list") (by simp)) (fun h => kitAny_cons (p.kit (c := "tuple") (by simp)) (fun h2 => by rw [kitAny_nil, h, h2] <;> rfl) (fun h2 => by rw [h2]; simp)) (fun h => by rw [h]; simp)
section
variable {K : PySem.W.Frag} {σ : L2.St} {W H H' : Hp} {ta tb tc te tl : TE} {t u : TT} {x y z v w' : V} {D : Ends} {tu tz : TS}
theorem ev_isLT {t : String} (h1 : Ev ta σ H x) (p : Pl H x t) : Ev (tCB (rIsiT K) (tCons ta (tCons (tTup (tCons (tC (.ty "list")) (tCons (tC (.ty "tuple")) tNil))) tNil))) σ H (.bl (isB t "list" || isB t "tuple")) := fun H1 e Q q =>
  h1 H1 e _ fun H2 e2 => ⟨by decide, fun tp htp => ⟨x, tp, [.ty "list", .ty "tuple"], .type t, [.type "list", .type "tuple"], _, rfl, upd_same, .cons (.ty _) (.cons (.ty _) .nil), ((p.ex ((e.trans e2).trans (Ex.new htp)))).ty, kit_LT (p.ex e), q _ (e2.trans (Ex.new htp))⟩⟩
/-- a test that is false, a branch that is not taken -/
theorem q_skip (h : EvT t σ H false) (k : ∀ H1, Ex H H1 → tz D σ H1) : tSeq (tIfS t tu tNext) tz D σ H := q_when (b := false) h (fun h => absurd h (by decide)) fun _ => k
theorem s_skip (h : EvT t σ H false) (k : ∀ H1, Ex H H1 → D.nx σ H1) : tIfS t tu tNext D σ H := s_when (b := false) h (fun h => absurd h (by decide)) fun _ => k
end
/-! ### data -/
def sg : List Nat := [46, 48, 49, 50, 51]
def nameOk (l : List Nat) : Prop := 1 ≤ l.length ∧ l.length ≤ 6 ∧ ∀ c ∈ l, 97 ≤ c ∧ c ≤ 122
abbrev Cells := List (List Nat × Nat)
def cellD (cs : Cells) (i : Nat) : List Nat × Nat := cs.getD i ([], 0)
def CellsAt (H : Hp) (cl : Addr) (cs : Cells) : Prop := ∃ ts : Nat → Addr, H cl = some (.lst ((List.range cs.length).map fun i => .ref (ts i))) ∧ ∀ i, i < cs.length → H (ts i) = some (.tup [vS (cellD cs i).1, .int ((cellD cs i).2 : Int)])
theorem CellsAt.ex {H H' : Hp} {cl : Addr} {cs : Cells} (h : CellsAt H cl cs) (e : Ex H H') : CellsAt H' cl cs := by
  obtain ⟨ts, h1, h2⟩ := h
  exact ⟨ts, e _ _ h1, fun i hi => e _ _ (h2 i hi)⟩
structure CellsOk (cs : Cells) : Prop where
  one : 1 ≤ cs.length
  few : cs.length ≤ 12
  val : ∀ i, i < cs.length → 1 ≤ (cellD cs i).2 ∧ (cellD cs i).2 ≤ 4
  nam : ∀ i, i < cs.length → nameOk (cellD cs i).1
  nod : ∀ i j, i < cs.length → j < i → (cellD cs j).1 ≠ (cellD cs i).1
theorem range_get {f : Nat → V} {n i : Nat} (h : i < n) : ((List.range n).map f)[i]? = some (f i) := by
  rw [List.getElem?_map, List.getElem?_range h]
  rfl
def rowB (cs : Cells) (l : List Nat) : Bool := (List.range cs.length).all fun i => decide (l.getD i 0 ∈ sg.take ((cellD cs i).2 + 1))
def isRow (cs : Cells) : V → Bool
  | .str z => decide (z.cps.toList.length = cs.length) && rowB cs z.cps.toList
  | _ => false
section
variable {P : Program} {w : World} {K : PySem.W.Frag} {mg : Str → Option Value} {base : Heap} {A : Ad}
abbrev n_isname : List Str := ["value", "sign"]
theorem sc_isname : FnScope n_isname ["value"] (defScope s_isname) := ⟨rfl, rfl, rfl, by decide +kernel, rfl, by decide +kernel, by decide +kernel⟩
def spIsName : Sp := fun vs H Q _ => ∃ a : List Nat, vs = [vS a] ∧ nameOk a ∧ RetV (.bl true) H Q
theorem ok_isname (T : Tx K mg A) : FnOk P w K mg base CX0 2 (A.f "is_name") (A.fd "is_name") ["value"] spIsName := by
  refine T.F_isname.ok sc_isname (fun vs H Q E h => ?_) (fun cdv A' outer s H vs Q E hr h => ?_)
  · obtain ⟨a, rfl, _⟩ := h
    rfl
  · obtain ⟨a, rfl, ⟨h1, h6, hc⟩, k⟩ := h
    refine ⟨_, PSs.nox (pss_cons (ps_if (PW.pt (pw_or (pt_not (pt_val (pe_callB call_isi (by rfl) T.n_isinstance (by decide +kernel) (pa_cons (pv 0) (pa_cons (pe_bltn (v := .ty "str") (by rfl) T.n_str (by decide +kernel) rfl) pa_nil))))) (pw_or1 (pt_not (pt_chain op_le op_le pe_int (pe_callB call_len_str (by rfl) T.n_len PySem.boot_len (pa_cons (pv 0) pa_nil)) pe_int)))))
      (pss_one (ps_ret pe_bl))
      pss_nil)
      (pss_one (ps_ret (pe_callB (cr_all rfl) (by rfl) T.n_all (by decide +kernel) (pa_cons (pe_lc (own := [("sign", 1)]) (g := (gName 1)) (by rfl) sc_isname.nd (pi_str (pv 0)) (blkOk_by (own := [("sign", 1)]) (N := n_isname) (sc := defScope s_isname) (by decide +kernel)) (fun _ _ _ _ _ => (pg_name (i := 1) sc_isname.nd rfl (Or.inl rfl) (Or.inr rfl))) (fun _ _ _ _ _ => pts_nil) (fun _ _ _ _ _ => (pe_cmpR op_in_sign (pv 1) (pe_glob (v := .str "abcdefghijklmnopqrstuvwxyz") (by rfl) T.g_LETTERS.choose_spec ⟨_, rfl⟩) (by rfl)))) pa_nil))))) , ?_⟩
    refine q_skip (et_is (et_or (a := false) (b := false) (et_not (a := true) (et_B (ev_isP (c := "str") (ev_var rfl) (.str _) (by simp)))) fun _ => et_not (a := true) (et_is (et_test (ev_chain ev_c (ev_lenS (ev_var rfl) (by omega)) rv_le (fun _ => ev_c) fun _ => rv_le)) (by
      rw [decide_eq_true (by omega), decide_eq_true (by omega)] <;> rfl))) rfl) fun H1 e1 => ?_
    refine s_ret (ev_is (ev_all (eA (el_lcA (ei_text (c := fun i => a.getD i 97) (ev_var rfl) (fun i hi => getD_some hi)) (by omega) (fun i => .bl (decide (a.getD i 97 ∈ (List.range 26).map (· + 97)))) (fun i hi => rfl) (fun i hi => ?_)) (ys := (a.map fun c => decide (c ∈ (List.range 26).map (· + 97))).map V.bl) ?_)) ?_) fun H2 e2 => k H2 (e1.trans e2)
    · exact ev_op (ev_var rfl) (ev_lit rfl) rv_inS
    · rw [range_map (fun c => V.bl (decide (c ∈ (List.range 26).map (· + 97)))) a 97, List.map_map] <;> rfl
    · congr 1
      rw [List.all_map]
      refine List.all_eq_true.mpr fun c hm => ?_
      obtain ⟨q1, q2⟩ := hc c hm
      refine decide_eq_true (List.mem_map.mpr ⟨c - 97, List.mem_range.mpr (by omega), by omega⟩)
abbrev n_isrow : List Str := ["cells", "value", "sign", "cell"]
theorem sc_isrow : FnScope n_isrow ["cells", "value"] (defScope s_isrow) := ⟨rfl, rfl, rfl, by decide +kernel, rfl, by decide +kernel, by decide +kernel⟩
def spIsRow : Sp := fun vs H Q _ => ∃ (cl : Addr) (cs : Cells) (v : V) (t : String), vs = [.ref cl, v] ∧ CellsAt H cl cs ∧ cs.length ≤ 100 ∧ Pl H v t ∧ (∀ z, v = .str z → z.cps.toList.length ≤ 1000) ∧ RetV (.bl (isRow cs v)) H Q
theorem ok_isrow (T : Tx K mg A) : FnOk P w K mg base CX0 2 (A.f "is_row") (A.fd "is_row") ["cells", "value"] spIsRow := by
  refine T.F_isrow.ok sc_isrow (fun vs H Q E h => ?_) (fun cdv A' outer s H vs Q E hr h => ?_)
  · obtain ⟨cl, cs, v, t, rfl, _⟩ := h
    rfl
  · obtain ⟨cl, cs, v, t, rfl, ⟨ts, h1, h2⟩, hc, p, hz, k⟩ := h
    refine ⟨_, PSs.nox (pss_cons (ps_if (PW.pt (pw_or (pt_not (pt_val (pe_callB call_isi (by rfl) T.n_isinstance (by decide +kernel) (pa_cons (pv 1) (pa_cons (pe_bltn (v := .ty "str") (by rfl) T.n_str (by decide +kernel) rfl) pa_nil))))) (pw_or1 (pt_cmpR op_ne (pe_callB call_len_str (by rfl) T.n_len PySem.boot_len (pa_cons (pv 1) pa_nil)) (pe_callB call_len_seq (by rfl) T.n_len PySem.boot_len (pa_cons (pv 0) pa_nil)) (nomark _)))))
      (pss_one (ps_ret pe_bl))
      pss_nil)
      (pss_one (ps_ret (pe_callB (cr_all rfl) (by rfl) T.n_all (by decide +kernel) (pa_cons (pe_lc (own := [("sign", 2), ("cell", 3)]) (g := (gTup K 2 (gCons (gName 2) (gCons (gName 3) gNil)))) (te := (tOp _ _ (tSl _ _ _ (tPart (tOp _ (tOp (rIxT K) _ _) _))))) (by rfl) sc_isrow.nd (Nr.pi_zipS (by rfl) T.n_zip (pa_cons (pv 1) (pa_cons (pv 0) pa_nil))) (blkOk_by (own := [("sign", 2), ("cell", 3)]) (N := n_isrow) (sc := defScope s_isrow) (by decide +kernel)) (fun _ _ _ _ _ => (pg_tup rfl (pgs_cons (pg_name (i := 2) sc_isrow.nd rfl (Or.inl rfl) (Or.inr rfl)) (pgs_cons (pg_name (i := 3) sc_isrow.nd rfl (Or.inl rfl) (Or.inr rfl)) pgs_nil)))) (fun _ _ _ _ _ => pts_nil) (fun _ _ _ _ _ => (pe_cmpR op_in_sign (pv 2) (pe_slice sl_str pe_str po_none (po_some (pe_op op_add (pe_ix ix_tup (pv 3) pe_int (fun _ _ => rfl)) pe_int))) (by rfl)))) pa_nil))))) , ?_⟩
    by_cases hv : ∃ z, v = .str z
    · obtain ⟨z, rfl⟩ := hv
      have hz := hz z rfl
      have ez : z = S z.cps.toList := (S_tl z).symm
      generalize z.cps.toList = l at ez hz
      subst ez
      have et : t = "str" := by
        cases p
        rfl
      subst et
      have hll : (S l).cps.toList = l := rfl
      have ek : isRow cs (vS l) = (decide (l.length = cs.length) && rowB cs l) := rfl
      rw [ek] at k
      have hlen : Ev (tCB (fun xs H Q => ∃ p ys, xs = [.ref p] ∧ (SqL K H p ys ∨ SqT K H p ys) ∧ Q (.int ys.length) H) (tCons (tVar 0) tNil)) (L2.start n_isrow [.ref cl, vS l]) H (.int (cs.length : Int)) := by
        have q := ev_lenL (K := K) (ta := tVar 0) (σ := L2.start n_isrow [.ref cl, vS l]) (ev_var rfl) (sq_of h1)
        rw [List.length_map, List.length_range] at q
        exact q
      refine q_when (b := !decide (l.length = cs.length)) (et_is (et_or (a := false) (et_not (a := true) (et_B (ev_isP (c := "str") (ev_var rfl) (.str _) (by simp)))) fun _ => et_test (ev_op (ev_lenS (ev_var rfl) (by omega)) hlen rv_neI)) (by
        show (false || !decide ((l.length : Int) = (cs.length : Int))) = _
        by_cases e : l.length = cs.length
        · rw [e]
          simp
        · rw [decide_eq_false e, decide_eq_false (by omega)] <;> rfl)) (fun hb H1 e1 => ?_) (fun hb H1 e1 => ?_)
      · have hne : decide (l.length = cs.length) = false := by simpa using hb
        rw [hne] at k
        exact s_ret ev_c fun H2 e2 => k H2 (e1.trans e2)
      · have hne : l.length = cs.length := by simpa using hb
        rw [decide_eq_true hne, Bool.true_and] at k
        refine s_ret (ev_is (ev_all (eA (el_lcA (ei_zipSL (n := cs.length) (c := fun i => l.getD i 0) (it := fun i => .ref (ts i)) (ea2 (ev_var rfl) (ev_var rfl)) (sq_of (e1 _ _ h1)) hne (by rw [List.length_map, List.length_range]) (fun i hi => getD_some (by omega)) (fun i hi => range_get hi)) (by omega)
          (fun i => .bl (decide (l.getD i 0 ∈ sg.take ((cellD cs i).2 + 1)))) (fun i hi => rfl) (fun i hi => ?_)) (ys := ((List.range cs.length).map fun i => decide (l.getD i 0 ∈ sg.take ((cellD cs i).2 + 1))).map V.bl) ?_)) ?_) fun H2 e2 => k H2 (e1.trans e2)
        · refine ev_op (ev_var rfl) (ev_slTo (l := sg) (k := ((cellD cs i).2 : Int) + 1) (ev_lit rfl) (ev_op (ev_op (ev_var rfl) ev_c (rv_ixTn (i := 1) (st_of (e1 _ _ (h2 i hi))) rfl)) ev_c rv_add) (by decide) (by omega)) ?_
          have hk : (((cellD cs i).2 : Int) + 1).toNat = (cellD cs i).2 + 1 := by omega
          rw [hk]
          exact rv_inS
        · rw [List.map_map] <;> rfl
        · rw [List.all_map] <;> rfl
    · have e0 : isRow cs v = false := by
        cases v <;> first | rfl | exact absurd ⟨_, rfl⟩ hv
      rw [e0] at k
      have e1 : isB t "str" = false := by
        cases p <;> first | exact absurd ⟨_, rfl⟩ hv | decide
      refine q_when (b := true) (et_is (et_or (a := true) (b := false) (et_is (et_not (et_B (ev_isP (c := "str") (ev_var rfl) p (by simp)))) (by rw [e1] <;> rfl)) fun h => absurd h (by decide)) rfl) (fun hb H1 e1 => ?_) (fun h => absurd h (by decide))
      exact s_ret ev_c fun H2 e2 => k H2 (e1.trans e2)
end
end Nt
end
section
set_option Elab.async false
set_option linter.all false
set_option maxRecDepth 100000
set_option maxHeartbeats 4000000
namespace Nt
open PySem PySem.Spec PyProof.Rows L2 Evl SX
section
variable {K : PySem.W.Frag} {σ : L2.St} {W H H' : Hp} {ta tb tc te tl td ty : TE} {t u : TT} {x y z v w' : V} {D : Ends} {tu tz : TS}
theorem q_tup2 {a : Addr} {i j : Nat} (h : Ev te σ H (.ref a)) (ht : SqT K H a [x, y]) (k : ∀ H1, Ex H H1 → tz D ((σ.set i (some x)).set j (some y)) H1) : tSeq (tAsg te (gTup K 2 (gCons (gName i) (gCons (gName j) gNil)))) tz D σ H :=
  h H (Ex.refl H) _ fun H1 e1 => ⟨a, _, rfl, ex_t e1 ht, rfl, _, _, rfl, _, _, rfl, rfl, k H1 e1⟩
theorem ev_lenT {p : Addr} {xs : List V} (h : Ev ta σ H (.ref p)) (hx : SqT K H p xs) : Ev (tCB (fun xs H Q => ∃ p ys, xs = [.ref p] ∧ (SqL K H p ys ∨ SqT K H p ys) ∧ Q (.int ys.length) H) (tCons ta tNil)) σ H (.int (xs.length : Int)) := fun H1 e Q q =>
  h H1 e _ fun H2 e2 => ⟨p, xs, rfl, Or.inr (ex_t (e.trans e2) hx), q H2 e2⟩
theorem nm_dec {i : Nat} {l : Nat → List Nat} {a : List Nat} (h : ∀ j, j < i → l j ≠ a) : decide (a ∈ (List.range i).map l) = false := decide_eq_false fun hm => by
  obtain ⟨j, hj, e⟩ := List.mem_map.mp hm
  exact h j (List.mem_range.mp hj) e
theorem ev_din {a : Addr} {kvs : List (Key × V)} {k : Key} (hy : Ev ty σ H (kV k)) (hd : Ev td σ H (.ref a)) (h : H a = some (.dK kvs)) : Ev (tDIn ty td) σ H (.bl (valV kvs k).isSome) := fun H1 e Q q =>
  hy H1 e _ fun H2 e2 => hd H2 (e.trans e2) _ fun H3 e3 => ⟨a, _, rfl, DGet.k (((e.trans e2).trans e3) _ _ h), q H3 (e2.trans e3)⟩
theorem ev_dni {a : Addr} {kvs : List (Key × V)} {k : Key} (hy : Ev ty σ H (kV k)) (hd : Ev td σ H (.ref a)) (h : H a = some (.dK kvs)) : Ev (tDNotIn ty td) σ H (.bl (!(valV kvs k).isSome)) := fun H1 e Q q =>
  hy H1 e _ fun H2 e2 => hd H2 (e.trans e2) _ fun H3 e3 => ⟨a, _, rfl, DGet.k (((e.trans e2).trans e3) _ _ h), q H3 (e2.trans e3)⟩
/-- x = {k: v} -/
theorem ev_disp1 {i : Nat} {k : Key} (hk : Ev ty σ H (kV k)) (hv : Ev te σ H v) (kk : ∀ d H1, H d = none → Ex H H1 → H1 d = some (.dK [(k, v)]) → tz D (σ.set i (some (.ref d))) H1) : tSeq (tAsg (tDisp [(ty, te)]) (gName i)) tz D σ H := fun d hd => by
  show ty σ (upd H d (.dK [])) _
  refine hk _ (Ex.new hd) _ fun H1 e1 => hv H1 ((Ex.new hd).trans e1) _ fun H2 e2 => ⟨e2 _ _ (e1 _ _ upd_same), [(k, v)], rfl, by simp, ?_⟩
  exact kk d _ hd (Ex.mut (((Ex.new hd).trans e1).trans e2) hd) upd_same
theorem q_dput {a : Addr} {kvs : List (Key × V)} {k : Key} (hv : Ev te σ H v) (hd : Ev td σ H (.ref a)) (hy : Ev ty σ H (kV k)) (h : H a = some (.dK kvs)) (hl : kvs.length < 100000) (kk : ∀ H1, Ex H H1 → tz D σ (upd H1 a (.dK (putK kvs k v)))) : tSeq (sDPut td ty te) tz D σ H :=
  hv H (Ex.refl H) _ fun H1 e1 => hd H1 e1 _ fun H2 e2 => hy H2 (e1.trans e2) _ fun H3 e3 => ⟨a, _, rfl, DPut.k (((e1.trans e2).trans e3) _ _ h) (sz_lt hl), kk H3 ((e1.trans e2).trans e3)⟩
end
/-! ### a dict of texts -/
def dk (rs : List (List Nat)) : List (Key × V) := rs.map fun r => (Sum.inr (S r), V.bl true)
theorem dk_val (rs : List (List Nat)) (r : List Nat) : (valV (dk rs) (Sum.inr (S r))).isSome = decide (r ∈ rs) := by
  rw [← valV_any]
  unfold dk
  induction rs with
  | nil => simp
  | cons b rs ih =>
    rw [List.map_cons, List.any_cons, ih]
    by_cases h : b = r
    · subst h
      simp
    · have h' : ¬ (Sum.inr (S b) : Key) = Sum.inr (S r) := fun z => h (S_inj (Sum.inr.inj z))
      have h2 : ¬ r = b := fun z => h z.symm
      simp [h', h2]
theorem dk_put {rs : List (List Nat)} {r : List Nat} (h : r ∉ rs) : putK (dk rs) (Sum.inr (S r)) (.bl true) = dk (rs ++ [r]) := by
  unfold putK
  rw [valV_any, dk_val, decide_eq_false h, if_neg (by decide)]
  unfold dk
  rw [List.map_append] <;> rfl
/-! ### the rows that the program grows -/
def stepR (r0 : List Nat) (rows : List (List Nat)) (s : List Nat) : List (List Nat) := if ov s r0 ∈ rows then rows else rows ++ [ov s r0]
def grow (seeds : List (List Nat)) (most : Nat) : Nat → Nat → List (List Nat) → List (List Nat)
  | 0, _, rows => rows
  | f + 1, at_, rows => if at_ < rows.length ∧ rows.length ≤ most then grow seeds most f (at_ + 1) (seeds.foldl (stepR (rows.getD at_ [])) rows) else rows
theorem nodup_take {l : List (List Nat)} (h : l.Nodup) {i : Nat} (hi : i < l.length) : l.getD i [] ∉ l.take i := fun hm => by
  obtain ⟨j, hj, e⟩ := List.getElem_of_mem hm
  rw [List.length_take] at hj
  rw [List.getElem_take] at e
  have e2 : l.getD i [] = l[i] := by
    rw [List.getD_eq_getElem?_getD, List.getElem?_eq_getElem hi] <;> rfl
  rw [e2] at e
  exact List.pairwise_iff_getElem.mp h j i (by omega) hi (by omega) e
theorem ov_len {a b : List Nat} (h : a.length = b.length) : (ov a b).length = b.length := by
  unfold ov
  rw [List.length_zipWith]
  omega
theorem stepR_len (r0 : List Nat) (rows : List (List Nat)) (s : List Nat) : (stepR r0 rows s).length ≤ rows.length + 1 := by
  unfold stepR
  split
  · omega
  · rw [List.length_append, List.length_singleton]
    exact Nat.le_refl _
theorem foldl_take {α β : Type} (f : β → α → β) (b : β) (l : List α) (d : α) {i : Nat} (hi : i < l.length) : (l.take (i + 1)).foldl f b = f ((l.take i).foldl f b) (l.getD i d) := by
  rw [List.take_succ, getD_some (d := d) hi, List.foldl_append]
  rfl
section
variable {P : Program} {w : World} {K : PySem.W.Frag} {mg : Str → Option Value} {base : Heap} {A : Ad}
abbrev n_checkcells : List Str := ["cells", "names", "at", "cell", "name", "many"]
theorem sc_checkcells : FnScope n_checkcells ["cells"] (defScope s_checkcells) := ⟨rfl, rfl, rfl, by decide +kernel, rfl, by decide +kernel, by decide +kernel⟩
def spCheckCells : Sp := fun vs H Q _ => ∃ (cl : Addr) (cs : Cells), vs = [.ref cl] ∧ CellsAt H cl cs ∧ CellsOk cs ∧ RetV .non H Q
theorem ok_checkcells (T : Tx K mg A) : FnOk P w K mg base CX0 4 (A.f "check_cells") (A.fd "check_cells") ["cells"] spCheckCells := by
  refine T.F_checkcells.ok sc_checkcells (fun vs H Q E h => ?_) (fun cdv A' outer s H vs Q E hr h => ?_)
  · obtain ⟨cl, cs, rfl, _⟩ := h
    rfl
  · obtain ⟨cl, cs, rfl, ⟨ts, h1, h2⟩, hc, k⟩ := h
    have c1 := hc.one
    have c12 := hc.few
    refine ⟨_, PSs.nox (pss_cons (ps_if (PW.pt (pw_or (pt_not (pt_val (pe_callB call_isiT (by rfl) T.n_isinstance (by decide +kernel) (pa_cons (pv 0) (pa_cons (pe_tup (pa_cons (pe_bltn (v := .ty "list") (by rfl) T.n_list (by decide +kernel) rfl) (pa_cons (pe_bltn (v := .ty "tuple") (by rfl) T.n_tuple (by decide +kernel) rfl) pa_nil))) pa_nil))))) (pw_or1 (pt_not (pt_chain op_le op_le pe_int (pe_callB call_len_seq (by rfl) T.n_len PySem.boot_len (pa_cons (pv 0) pa_nil)) (pe_glob (v := .int 12) (by rfl) T.g_MOST_CELLS.choose_spec ⟨_, rfl⟩))))))
      (pss_one ps_never)
      pss_nil)
      (pss_cons (ps_set (i := 1) sc_checkcells.nd rfl (Or.inl rfl) (pe_lst pa_nil))
      (pss_one (ps_for PassesOwn.never rfl (Nr.pi_enumS (by rfl) T.n_enumerate (pa_cons (pv 0) pa_nil)) (pg_tup rfl (pgs_cons (pg_name (i := 2) sc_checkcells.nd rfl (Or.inl rfl) (Or.inr rfl)) (pgs_cons (pg_name (i := 3) sc_checkcells.nd rfl (Or.inl rfl) (Or.inr rfl)) pgs_nil)))
      (pss_cons (ps_if (PW.pt (pw_or (pt_not (pt_val (pe_callB call_isi (by rfl) T.n_isinstance (by decide +kernel) (pa_cons (pv 3) (pa_cons (pe_bltn (v := .ty "tuple") (by rfl) T.n_tuple (by decide +kernel) rfl) pa_nil))))) (pw_or1 (pt_cmpR op_ne (pe_callB call_len_seq (by rfl) T.n_len PySem.boot_len (pa_cons (pv 3) pa_nil)) pe_int (nomark _)))))
      (pss_one ps_never)
      pss_nil)
      (pss_cons (ps_asg (pv 3) (pg_tup rfl (pgs_cons (pg_name (i := 4) sc_checkcells.nd rfl (Or.inl rfl) (Or.inr rfl)) (pgs_cons (pg_name (i := 5) sc_checkcells.nd rfl (Or.inl rfl) (Or.inr rfl)) pgs_nil))))
      (pss_cons (ps_if (PW.pt (pw_or (pt_not (pt_val (pe_call (ok_isname T) (hr.mono (by decide)) (by rfl) T.g_isname T.F_isname.kp T.b_isname .nil pass0 (pa_cons (pv 4) pa_nil)))) (pw_or (pt_not (pt_val (pe_call (ok_isnumber T) (hr.mono (by decide)) (by rfl) T.g_isnumber T.F_isnumber.kp T.b_isnumber .nil pass0 (pa_cons (pv 5) (pa_cons pe_int (pa_cons (pe_glob (v := .int 4) (by rfl) T.g_MOST_VALUES.choose_spec ⟨_, rfl⟩) pa_nil)))))) (pw_or1 (pt_cmpR op_in_seq (pv 4) (pv 1) (by rfl))))))
      (pss_one ps_never)
      pss_nil)
      (pss_one (ps_expr (pe_bm PySem.F.plainAttrs_list PySem.F.slot_list_append PySem.F.type_list_append mt_append (pv 1) (pa_cons (pv 4) pa_nil))))))))))) , ?_⟩
    have hlen : ∀ σ : L2.St, σ[0]? = some (some (.ref cl)) → Ev (tCB (fun xs H Q => ∃ p ys, xs = [.ref p] ∧ (SqL K H p ys ∨ SqT K H p ys) ∧ Q (.int ys.length) H) (tCons (tVar 0) tNil)) σ H (.int (cs.length : Int)) := fun σ hσ => by
      have q := ev_lenL (K := K) (ta := tVar 0) (σ := σ) (ev_var hσ) (sq_of h1)
      rw [List.length_map, List.length_range] at q
      exact q
    refine q_skip (et_is (et_or (a := false) (b := false) (et_not (a := true) (et_is (et_B (ev_isLT (ev_var rfl) (.lst h1))) (by decide))) fun _ => et_not (a := true) (et_is (et_test (ev_chain ev_c (hlen _ rfl) rv_le (fun _ => ev_c) fun _ => rv_le)) (by
      rw [decide_eq_true (by omega), decide_eq_true (by omega)] <;> rfl))) rfl) fun H1 e1 => ?_
    refine q_asgL (el_lst ea_nil (by decide)) fun l H2 nl e2 hl => ?_
    have e02 : Ex H H2 := e1.trans e2
    have l0 : H l = none := fresh_back e1 nl
    refine s_forF (W := H) (n := cs.length) (by
        have q := ei_enumL (K := K) (ta := tCons (tVar 0) tNil) (σ := [some (.ref cl), some (.ref l), none, none, none, none]) (j := 2) (k := 3) (it := fun i => .ref (ts i)) (ea1 (ev_var rfl)) (sq_of h1) (fun i hi => range_get (by rw [List.length_map, List.length_range] at hi; exact hi))
        rw [List.length_map, List.length_range] at q
        exact q) e02
      (fun W1 i σ' H' => Ex W1 H' ∧ W1 l = none ∧ H' l = some (.lst (((List.range i).map fun j => (cellD cs j).1).map vS)) ∧ ∃ o1 o2 o3 o4, σ' = [some (.ref cl), some (.ref l), o1, o2, o3, o4])
      (fun W1 H3 e3 eW ew hW => ⟨ew, by rw [hW l _ hl]; exact l0, e3 _ _ hl, none, none, none, none, rfl⟩) (fun W1 i σ' H' h => h.1) (fun W1 i σ' H' eW hi h H3 e3 => ?_) (fun W1 σ' H' eW h => k H' (eW.trans h.1))
    obtain ⟨g1, g2, g3, o1, o2, o3, o4, rfl⟩ := h
    have eH : Ex H H3 := (eW.trans g1).trans e3
    have ht := eH _ _ (h2 i hi)
    have hv := hc.val i hi
    refine q_skip (et_is (et_or (a := false) (b := false) (et_not (a := true) (et_is (et_B (ev_isP (c := "tuple") (ev_var rfl) (.tup ht) (by simp))) (by decide))) fun _ => et_is (et_test (ev_op (ev_lenT (ev_var rfl) (st_of ht)) ev_c rv_neI)) rfl) rfl) fun H4 e4 => ?_
    refine q_tup2 (ev_var rfl) (st_of (e4 _ _ ht)) fun H5 e5 => ?_
    have e35 := e4.trans e5
    refine q_skip (et_is (et_or (a := false) (b := false) (et_not (a := true) (et_B (ev_call (ea1 (ev_var rfl)) (fun H6 e6 Q q E => ⟨_, rfl, hc.nam i hi, fun H7 e7 => q H7 e7⟩)))) fun _ => et_or (a := false) (b := false) (et_not (a := true) (et_is (et_B (ev_call (ea3 (ev_var rfl) ev_c ev_c)
      (fun H6 e6 Q q E => ⟨_, _, _, _, rfl, .int _, fun H7 e7 => q H7 e7⟩))) (by
        show (decide (1 ≤ ((cellD cs i).2 : Int)) && decide (((cellD cs i).2 : Int) ≤ 4)) = true
        rw [decide_eq_true (by omega), decide_eq_true (by omega)] <;> rfl))) fun _ => et_is (et_test (ev_op (ev_var rfl) (ev_var rfl) (rv_isL (sq_of (e35 _ _ (e3 _ _ g3))) rfl (flatS _)))) (by
          rw [inV_S]
          exact nm_dec (l := fun j => (cellD cs j).1) (hc.nod i · hi))) rfl) fun H6 e6 => ?_
    have e36 := e35.trans e6
    refine s_app (e36 _ _ (e3 _ _ g3)) (ev_var rfl) (ev_var rfl) (by rw [List.length_map, List.length_map, List.length_range]; omega) fun H7 e7 => ⟨Ex.mut ((g1.trans e3).trans (e36.trans e7)) g2, g2, ?_, _, _, _, _, rfl⟩
    rw [upd_same, List.range_succ, List.map_append, List.map_append]
    rfl
abbrev n_checkseeds : List Str := ["cells", "seeds", "at", "seed", "cell"]
theorem sc_checkseeds : FnScope n_checkseeds ["cells", "seeds"] (defScope s_checkseeds) := ⟨rfl, rfl, rfl, by decide +kernel, rfl, by decide +kernel, by decide +kernel⟩
def spCheckSeeds : Sp := fun vs H Q _ => ∃ (cl a : Addr) (cs : Cells) (seeds : List (List Nat)), vs = [.ref cl, .ref a] ∧ CellsAt H cl cs ∧ CellsOk cs ∧ RowsAt H a seeds cs.length ∧ seeds.length ≤ 30 ∧ (∀ s ∈ seeds, rowB cs s = true ∧ s ≠ List.replicate cs.length 46) ∧ seeds.Nodup ∧
  (∀ i, i < cs.length → ∃ s ∈ seeds, s.getD i 46 ≠ 46) ∧ RetV .non H Q
theorem ok_checkseeds (T : Tx K mg A) : FnOk P w K mg base CX0 4 (A.f "check_seeds") (A.fd "check_seeds") ["cells", "seeds"] spCheckSeeds := by
  refine T.F_checkseeds.ok sc_checkseeds (fun vs H Q E h => ?_) (fun cdv A' outer s H vs Q E hr h => ?_)
  · obtain ⟨cl, a, cs, seeds, rfl, _⟩ := h
    rfl
  · obtain ⟨cl, a, cs, seeds, rfl, hcl, hc, R, h30, hs, hnd, ht, k⟩ := h
    have c1 := hc.one
    have c12 := hc.few
    obtain ⟨ts, h1, h2⟩ := id hcl
    refine ⟨_, PSs.nox (pss_cons (ps_if (pt_not (pt_val (pe_callB call_isiT (by rfl) T.n_isinstance (by decide +kernel) (pa_cons (pv 1) (pa_cons (pe_tup (pa_cons (pe_bltn (v := .ty "list") (by rfl) T.n_list (by decide +kernel) rfl) (pa_cons (pe_bltn (v := .ty "tuple") (by rfl) T.n_tuple (by decide +kernel) rfl) pa_nil))) pa_nil)))))
      (pss_one ps_never)
      pss_nil)
      (pss_cons (ps_if (pt_cmpR op_gt (pe_callB call_len_seq (by rfl) T.n_len PySem.boot_len (pa_cons (pv 1) pa_nil)) (pe_glob (v := .int 30) (by rfl) T.g_MOST_SEEDS.choose_spec ⟨_, rfl⟩) (nomark _))
      (pss_one ps_never)
      pss_nil)
      (pss_cons (ps_for PassesOwn.never rfl (Nr.pi_enumS (by rfl) T.n_enumerate (pa_cons (pv 1) pa_nil)) (pg_tup rfl (pgs_cons (pg_name (i := 2) sc_checkseeds.nd rfl (Or.inr rfl) (Or.inl rfl)) (pgs_cons (pg_name (i := 3) sc_checkseeds.nd rfl (Or.inl rfl) (Or.inr rfl)) pgs_nil)))
      (pss_one (ps_if (PW.pt (pw_or (pt_not (pt_val (pe_call (ok_isrow T) (hr.mono (by decide)) (by rfl) T.g_isrow T.F_isrow.kp T.b_isrow .nil pass0 (pa_cons (pv 0) (pa_cons (pv 3) pa_nil))))) (pw_or (pt_cmpR op_eq (pv 3) (pe_call (ok_blank T) (hr.mono (by decide)) (by rfl) T.g_blank T.F_blank.kp T.b_blank .nil pass0 (pa_cons (pe_callB call_len_seq (by rfl) T.n_len PySem.boot_len (pa_cons (pv 0) pa_nil)) pa_nil)) (nomark _)) (pw_or1 (pt_cmpR op_in_seq (pv 3) (pe_slice sl_list (pv 1) po_none (po_some (pv 2))) (by rfl))))))
      (pss_one ps_never)
      pss_nil)))
      (pss_one (ps_for PassesOwn.never rfl (Nr.pi_enumS (by rfl) T.n_enumerate (pa_cons (pv 0) pa_nil)) (pg_tup rfl (pgs_cons (pg_name (i := 2) sc_checkseeds.nd rfl (Or.inr rfl) (Or.inl rfl)) (pgs_cons (pg_name (i := 4) sc_checkseeds.nd rfl (Or.inl rfl) (Or.inr rfl)) pgs_nil)))
      (pss_one (ps_if (pt_val (pe_callB (cr_all rfl) (by rfl) T.n_all (by decide +kernel) (pa_cons (pe_lc (own := [("seed", 3)]) (g := (gName 3)) (by rfl) sc_checkseeds.nd (pi_list (pv 1)) (blkOk_by (own := [("seed", 3)]) (N := n_checkseeds) (sc := defScope s_checkseeds) (by decide +kernel)) (fun _ _ _ _ _ => (pg_name (i := 3) sc_checkseeds.nd rfl (Or.inl rfl) (Or.inr rfl))) (fun _ _ _ _ _ => pts_nil) (fun _ _ _ _ _ => (pe_cmpR op_eq (pe_ix ix_str (pv 3) (pv 2) (fun _ _ => rfl)) pe_str (nomark _)))) pa_nil)))
      (pss_one ps_never)
      pss_nil))))))) , ?_⟩
    refine q_skip (et_is (et_not (a := true) (et_is (et_B (ev_isLT (ev_var rfl) (.lst R.at_))) (by decide))) rfl) fun H1 e1 => ?_
    refine q_skip (et_is (et_test (ev_op (ev_lenL (ev_var rfl) (sq_of (e1 _ _ R.at_))) ev_c rv_gt)) (by rw [List.length_map]; exact decide_eq_false (by omega))) fun H2 e2 => ?_
    have e02 := e1.trans e2
    refine q_forF (W := H) (n := seeds.length) (by
        have q := ei_enumL (K := K) (ta := tCons (tVar 1) tNil) (σ := L2.start n_checkseeds [.ref cl, .ref a]) (j := 2) (k := 3) (it := fun i => vS (seeds.getD i [])) (ea1 (ev_var rfl)) (sq_of R.at_) (fun i hi => R.get (by rw [List.length_map] at hi; exact hi))
        rw [List.length_map] at q
        exact q) e02
      (fun W1 i σ' H' => Ex W1 H' ∧ ∃ o1 o2 o3, σ' = [some (.ref cl), some (.ref a), o1, o2, o3])
      (fun W1 H3 e3 eW ew hW => ⟨ew, none, none, none, rfl⟩) (fun W1 i σ' H' h => h.1) (fun W1 i σ' H' eW hi h H3 e3 => ?_) (fun W1 σ' H' eW h => ?_)
    · obtain ⟨g1, o1, o2, o3, rfl⟩ := h
      have eH : Ex H H3 := (eW.trans g1).trans e3
      have hm : seeds.getD i [] ∈ seeds := by
        rw [List.getD_eq_getElem?_getD, List.getElem?_eq_getElem hi]
        exact List.getElem_mem hi
      have hln := R.len hi
      have R3 := R.ex eH
      refine s_skip (et_is (et_or (a := false) (b := false) (et_not (a := true) (et_is (et_B (ev_call (ea2 (ev_var rfl) (ev_var rfl)) (fun H6 e6 Q q E => ⟨cl, cs, _, _, rfl, hcl.ex (eH.trans e6), by omega, .str _, fun z hz => by
            cases hz
            show (seeds.getD i []).length ≤ 1000
            omega, fun H7 e7 => q H7 e7⟩))) (by
          show (decide ((seeds.getD i []).length = cs.length) && rowB cs (seeds.getD i [])) = true
          rw [decide_eq_true hln, (hs _ hm).1] <;> rfl))) fun _ => et_or (a := false) (b := false) (et_is (et_test (ev_op (ev_var rfl) (ev_call (ea1 (by
              have q := ev_lenL (K := K) (ta := tVar 0) (σ := [some (.ref cl), some (.ref a), some (.int (i : Nat)), some (vS (seeds.getD i [])), o3]) (H := H3) (ev_var rfl) (sq_of (eH _ _ h1))
              rw [List.length_map, List.length_range] at q
              exact q)) (fun H6 e6 Q q E => ⟨cs.length, rfl, c1, by omega, fun H7 e7 => q H7 e7⟩)) rv_eqS)) (decide_eq_false (hs _ hm).2)) fun _ => et_is (et_test (fun H5 e5 Q q => (ev_var (σ := [some (.ref cl), some (.ref a), some (.int (i : Nat)), some (vS (seeds.getD i [])), o3]) (i := 3) rfl) H5 e5 _ fun H6 e6 =>
                el_slTo (K := K) (te := tVar 1) (th := tVar 2) (σ := [some (.ref cl), some (.ref a), some (.int (i : Nat)), some (vS (seeds.getD i [])), o3]) (k := (i : Int)) (ev_var rfl) (ev_var rfl) (sq_of (e5 _ _ R3.at_)) (by omega) H6 e6 _ fun p H7 _ e7 hp => ⟨p, _, rfl, Or.inl (sq_of hp), rfl, by
                  rw [← List.map_take]
                  exact flatS _, q H7 (e6.trans e7)⟩)) (by
                    rw [← List.map_take, inV_S]
                    refine decide_eq_false fun hmm => ?_
                    exact nodup_take hnd hi hmm)) rfl) fun H4 e4 => ⟨(g1.trans e3).trans e4, _, _, _, rfl⟩
    · obtain ⟨g1, o1, o2, o3, rfl⟩ := h
      have e0 : Ex H H' := eW.trans g1
      refine s_forF (W := H) (n := cs.length) (by
          have q := ei_enumL (K := K) (ta := tCons (tVar 0) tNil) (σ := [some (.ref cl), some (.ref a), o1, o2, o3]) (j := 2) (k := 4) (it := fun i => .ref (ts i)) (ea1 (ev_var rfl)) (sq_of h1) (fun i hi => range_get (by rw [List.length_map, List.length_range] at hi; exact hi))
          rw [List.length_map, List.length_range] at q
          exact q) e0
        (fun W1 i σ' H' => Ex W1 H' ∧ ∃ o1 o2 o3, σ' = [some (.ref cl), some (.ref a), o1, o2, o3])
        (fun W1 H3 e3 eW ew hW => ⟨ew, o1, o2, o3, rfl⟩) (fun W1 i σ' H' h => h.1) (fun W1 i σ' H' eW hi h H3 e3 => ?_) (fun W1 σ' H' eW h => k H' (eW.trans h.1))
      obtain ⟨g1, o1, o2, o3, rfl⟩ := h
      have eH : Ex H H3 := (eW.trans g1).trans e3
      have R3 := R.ex eH
      have hf := R.few
      refine s_skip (et_is (et_B (ev_all (eA (el_lcA (by
          have q := ei_list (K := K) (tl := tVar 1) (σ := [some (.ref cl), some (.ref a), some (.int (i : Nat)), o2, some (.ref (ts i))]) (j := 3) (it := fun j => vS (seeds.getD j [])) (ev_var rfl) (sq_of R3.at_) (fun j hj => R3.get (by rw [List.length_map] at hj; exact hj))
          rw [List.length_map] at q
          exact q) (by omega) (fun j => .bl (decide ((seeds.getD j []).getD i 46 = 46))) (fun j hj => rfl) (fun j hj => ?_)) (ys := (seeds.map fun s => decide (s.getD i 46 = 46)).map V.bl) ?_))) ?_) fun H4 e4 => ⟨(g1.trans e3).trans e4, _, _, _, rfl⟩
      · have hl := R.len hj
        exact ev_op (ev_op (ev_var rfl) (ev_var rfl) (rv_ixSn (i := i) (by omega) (getD_some (by omega)))) ev_c (rv_eq1 (b := 46))
      · rw [range_map (fun s => V.bl (decide (s.getD i 46 = 46))) seeds [], List.map_map] <;> rfl
      · obtain ⟨s, hm, hne⟩ := ht i hi
        rw [Bool.eq_false_iff]
        intro hall
        rw [List.all_map, List.all_eq_true] at hall
        exact hne (of_decide_eq_true (hall s hm))
abbrev n_grownrows : List Str := ["seeds", "first", "most", "rows", "known", "at", "seed", "row"]
theorem sc_grownrows : FnScope n_grownrows ["seeds", "first", "most"] (defScope s_grownrows) := ⟨rfl, rfl, rfl, by decide +kernel, rfl, by decide +kernel, by decide +kernel⟩
def spGrown : Sp := fun vs H Q _ => ∃ (a : Addr) (seeds : List (List Nat)) (first : List Nat) (most : Nat), vs = [.ref a, vS first, .int (most : Int)] ∧ RowsAt H a seeds first.length ∧ seeds.length ≤ 30 ∧ most ≤ 800 ∧ RetL ((grow seeds most 1000 0 [first]).map vS) H Q
theorem ok_grownrows (T : Tx K mg A) : FnOk P w K mg base CX0 4 (A.f "grown_rows") (A.fd "grown_rows") ["seeds", "first", "most"] spGrown := by
  refine T.F_grownrows.ok sc_grownrows (fun vs H Q E h => ?_) (fun cdv A' outer s H vs Q E hr h => ?_)
  · obtain ⟨a, seeds, first, most, rfl, _⟩ := h
    rfl
  · obtain ⟨a, seeds, first, most, rfl, R, h30, hm, k⟩ := h
    have hn := R.nar
    refine ⟨_, PSs.nox (pss_cons (ps_set (i := 3) sc_grownrows.nd rfl (Or.inl rfl) (pe_lst (pa_cons (pv 1) pa_nil)))
      (pss_cons (ps_set (i := 4) sc_grownrows.nd rfl (Or.inl rfl) (pe_disp (pps_cons (pv 1) pe_bl pps_nil) (by rfl) (by rfl) (fun z => by cases z) (by decide)))
      (pss_cons (ps_set (i := 5) sc_grownrows.nd rfl (Or.inl rfl) pe_int)
      (pss_cons (ps_while PassesOwn.never (PW.pt (pw_and (pt_cmpR op_lt (pv 5) (pe_callB call_len_seq (by rfl) T.n_len PySem.boot_len (pa_cons (pv 3) pa_nil)) (nomark _)) (pw_and1 (pt_cmpR op_le (pe_callB call_len_seq (by rfl) T.n_len PySem.boot_len (pa_cons (pv 3) pa_nil)) (pv 2) (nomark _)))))
      (pss_cons (ps_for PassesOwn.never rfl (pi_list (pv 0)) (pg_name (i := 6) sc_grownrows.nd rfl (Or.inl rfl) (Or.inr rfl))
      (pss_cons (ps_set (i := 7) sc_grownrows.nd rfl (Or.inl rfl) (pe_call (ok_over T) (hr.mono (by decide)) (by rfl) T.g_over T.F_over.kp T.b_over .nil pass0 (pa_cons (pv 6) (pa_cons (pe_ix ix_list (pv 3) (pv 5) (fun _ _ => rfl)) pa_nil))))
      (pss_one (ps_if (pt_cmp (pc_dnotin (hu_of hr) (pv 7) (pv 4)))
      (pss_cons (ps_dput (hu_of hr) (pv 4) (pv 7) pe_bl rfl)
      (pss_one (ps_expr (pe_bm PySem.F.plainAttrs_list PySem.F.slot_list_append PySem.F.type_list_append mt_append (pv 3) (pa_cons (pv 7) pa_nil)))))
      pss_nil))))
      (pss_one (ps_set (i := 5) sc_grownrows.nd rfl (Or.inl rfl) (pe_op op_add (pv 5) pe_int)))))
      (pss_one (ps_ret (pv 3))))))) , ?_⟩
    refine q_asgL (el_lst (ea1 (ev_var rfl)) (by simp)) fun l H1 nl e1 hl => ?_
    refine ev_disp1 (k := Sum.inr (S first)) (ev_var rfl) ev_c fun d H2 nd e2 hd => ?_
    refine q_asg ev_c fun H3 e3 => ?_
    have e03 := (e1.trans e2).trans e3
    have nd0 : H d = none := fresh_back e1 nd
    have hld : l ≠ d := ne_of_none hl nd
    refine q_while (fun m σ' H' => ∃ (at_ : Nat) (rows : List (List Nat)) (o1 o2 : Option V), σ' = [some (.ref a), some (vS first), some (.int (most : Int)), some (.ref l), some (.ref d), some (.int (at_ : Int)), o1, o2] ∧ Ex H H' ∧ H' l = some (.lst (rows.map vS)) ∧ H' d = some (.dK (dk rows)) ∧
        (∀ r ∈ rows, r.length = first.length) ∧ rows.length ≤ most + 31 ∧ m + at_ = 1000 ∧ grow seeds most m at_ rows = grow seeds most 1000 0 [first]) 1000
      ⟨0, [first], none, none, rfl, e03, e3 _ _ (e2 _ _ hl), e3 _ _ hd, by simp, by simp, rfl, rfl⟩ fun m σ' H' hw => ?_
    obtain ⟨at_, rows, o1, o2, rfl, g1, g2, g3, g4, g5, g6, g7⟩ := hw
    have tst : EvT (tAnd (tTest (tOp (rI0 fun i j => .bl (decide (i < j))) (tVar 5) (tCB (fun xs H Q => ∃ p ys, xs = [.ref p] ∧ (SqL K H p ys ∨ SqT K H p ys) ∧ Q (.int ys.length) H) (tCons (tVar 3) tNil)))) (tTest (tOp (rI0 fun i j => .bl (decide (i ≤ j))) (tCB (fun xs H Q => ∃ p ys, xs = [.ref p] ∧ (SqL K H p ys ∨ SqT K H p ys) ∧ Q (.int ys.length) H) (tCons (tVar 3) tNil)) (tVar 2))))
        [some (.ref a), some (vS first), some (.int (most : Int)), some (.ref l), some (.ref d), some (.int (at_ : Int)), o1, o2] H' (decide (at_ < rows.length ∧ rows.length ≤ most)) := by
      refine et_is (et_and (et_test (ev_op (ev_var rfl) (ev_lenL (ev_var rfl) (sq_of g2)) rv_lt)) fun _ => et_test (ev_op (ev_lenL (ev_var rfl) (sq_of g2)) (ev_var rfl) rv_le)) ?_
      rw [List.length_map, Bool.decide_and]
      congr 1
      · exact decide_eq_decide.mpr (by omega)
      · exact decide_eq_decide.mpr (by omega)
    refine ⟨_, tst, fun hb H4 e4 => ?_, fun hb H4 e4 => ?_⟩
    · have hc := of_decide_eq_true hb
      obtain ⟨m', rfl⟩ : ∃ m', m = m' + 1 := ⟨m - 1, by omega⟩
      have g7' : (if at_ < rows.length ∧ rows.length ≤ most then grow seeds most m' (at_ + 1) (seeds.foldl (stepR (rows.getD at_ [])) rows) else rows) = grow seeds most 1000 0 [first] := g7
      rw [if_pos hc] at g7'
      have hr0 : (rows.getD at_ []).length = first.length := g4 _ (by
        rw [List.getD_eq_getElem?_getD, List.getElem?_eq_getElem hc.1]
        exact List.getElem_mem hc.1)
      refine ⟨fun σ2 H2 => ∃ (o1 o2 : Option V) (rows' : List (List Nat)), σ2 = [some (.ref a), some (vS first), some (.int (most : Int)), some (.ref l), some (.ref d), some (.int ((at_ + 1 : Nat) : Int)), o1, o2] ∧ Ex H H2 ∧ H2 l = some (.lst (rows'.map vS)) ∧ H2 d = some (.dK (dk rows')) ∧
        (∀ r ∈ rows', r.length = first.length) ∧ rows'.length ≤ most + 31 ∧ rows' = seeds.foldl (stepR (rows.getD at_ [])) rows, fun σ2 H2 hN => ?_, ?_⟩
      · obtain ⟨o1, o2, rows', rfl, n1, n2, n3, n4, n5, rfl⟩ := hN
        exact ⟨m', Nat.lt_succ_self _, at_ + 1, _, o1, o2, rfl, n1, n2, n3, n4, n5, by omega, g7'⟩
      · refine q_forF (W := H) (n := seeds.length) (by
          have q := ei_list (K := K) (tl := tVar 0) (σ := [some (.ref a), some (vS first), some (.int (most : Int)), some (.ref l), some (.ref d), some (.int (at_ : Int)), o1, o2]) (j := 6) (it := fun j => vS (seeds.getD j [])) (ev_var rfl) (sq_of R.at_) (fun j hj => R.get (by rw [List.length_map] at hj; exact hj))
          rw [List.length_map] at q
          exact q) (g1.trans e4)
          (fun W1 j σ' H' => ∃ (o1 o2 : Option V) (rows' : List (List Nat)), σ' = [some (.ref a), some (vS first), some (.int (most : Int)), some (.ref l), some (.ref d), some (.int (at_ : Int)), o1, o2] ∧ W1 l = none ∧ W1 d = none ∧ Ex W1 H' ∧ H' l = some (.lst (rows'.map vS)) ∧ H' d = some (.dK (dk rows')) ∧
            (∀ r ∈ rows', r.length = first.length) ∧ rows'.length ≤ most + j ∧ at_ < rows'.length ∧ rows'.getD at_ [] = rows.getD at_ [] ∧ rows' = (seeds.take j).foldl (stepR (rows.getD at_ [])) rows)
          (fun W1 H5 e5 eW ew hW => ⟨o1, o2, rows, rfl, by rw [hW l _ (e4 _ _ g2)]; exact nl, by rw [hW d _ (e4 _ _ g3)]; exact nd0, ew, e5 _ _ (e4 _ _ g2), e5 _ _ (e4 _ _ g3), g4, by omega, hc.1, rfl, rfl⟩)
          (fun W1 j σ' H' h => by
            obtain ⟨_, _, _, _, _, _, h, _⟩ := h
            exact h) (fun W1 j σ' H' eW hj h H5 e5 => ?_) (fun W1 σ' H' eW h => ?_)
        · obtain ⟨o1, o2, rows', rfl, w1, w2, q1, q2, q3, q4, q5, q6, q7, q8⟩ := h
          have eH := (eW.trans q1).trans e5
          have hsl := R.len hj
          have hmem : rows'.getD at_ [] ∈ rows' := by
            rw [List.getD_eq_getElem?_getD, List.getElem?_eq_getElem q6]
            exact List.getElem_mem q6
          have hstep : (seeds.take (j + 1)).foldl (stepR (rows.getD at_ [])) rows = stepR (rows.getD at_ []) rows' (seeds.getD j []) := by
            rw [foldl_take _ _ _ [] hj, ← q8]
          refine q_asg (ev_call (ea2 (ev_var rfl) (ev_op (ev_var rfl) (ev_var rfl) (rv_ixLn (i := at_) (sq_of (e5 _ _ q2)) (by rw [List.getElem?_map, getD_some (d := []) q6] <;> rfl)))) (fun H6 e6 Q q E => ⟨seeds.getD j [], rows'.getD at_ [], rfl, by rw [q4 _ hmem]; exact hsl, by rw [q4 _ hmem]; exact hn, fun H7 e7 => q H7 e7⟩)) fun H6 e6 => ?_
          rw [q7]
          have e56 := e5.trans e6
          refine s_when (b := !decide (ov (seeds.getD j []) (rows.getD at_ []) ∈ rows')) (et_is (et_B (ev_dni (kvs := dk rows') (k := Sum.inr (S (ov (seeds.getD j []) (rows.getD at_ [])))) (ev_var rfl) (ev_var rfl) (e56 _ _ q3))) (by rw [dk_val])) (fun hb H7 e7 => ?_) (fun hb H7 e7 => ?_)
          · have hnm : ov (seeds.getD j []) (rows.getD at_ []) ∉ rows' := by simpa using hb
            have e57 := e56.trans e7
            refine q_dput (kvs := dk rows') (k := Sum.inr (S (ov (seeds.getD j []) (rows.getD at_ [])))) ev_c (ev_var rfl) (ev_var rfl) (e57 _ _ q3) (by unfold dk; rw [List.length_map]; omega) fun H8 e8 => ?_
            rw [dk_put hnm]
            have e58 := e57.trans e8
            refine s_app (l := l) (xs := rows'.map vS) (by rw [upd_ne hld]; exact e58 _ _ q2) (ev_var rfl) (ev_var rfl) (by rw [List.length_map]; omega) fun H9 e9 => ?_
            have eX : stepR (rows.getD at_ []) rows' (seeds.getD j []) = rows' ++ [ov (seeds.getD j []) (rows.getD at_ [])] := by
              unfold stepR
              rw [if_neg hnm]
            refine ⟨_, _, rows' ++ [ov (seeds.getD j []) (rows.getD at_ [])], rfl, w1, w2, Ex.mut (((Ex.mut (q1.trans e58) w2)).trans e9) w1, ?_, ?_, ?_, ?_, ?_, ?_, ?_⟩
            · rw [upd_same, List.map_append]
              rfl
            · rw [upd_ne hld.symm]
              exact e9 _ _ upd_same
            · intro r hr
              rcases List.mem_append.mp hr with hr | hr
              · exact q4 r hr
              · rw [List.mem_singleton.mp hr, ov_len (by rw [hr0]; exact hsl), hr0]
            · rw [List.length_append, List.length_singleton]
              omega
            · rw [List.length_append]
              omega
            · rw [List.getD_eq_getElem?_getD, List.getElem?_append_left q6, ← List.getD_eq_getElem?_getD]
              exact q7
            · rw [hstep, eX]
          · have hmm : ov (seeds.getD j []) (rows.getD at_ []) ∈ rows' := by simpa using hb
            have eX : stepR (rows.getD at_ []) rows' (seeds.getD j []) = rows' := by
              unfold stepR
              rw [if_pos hmm]
            exact ⟨_, _, rows', rfl, w1, w2, (q1.trans e56).trans e7, e7 _ _ (e56 _ _ q2), e7 _ _ (e56 _ _ q3), q4, by omega, q6, q7, by rw [hstep, eX]⟩
        · obtain ⟨o1, o2, rows', rfl, w1, w2, q1, q2, q3, q4, q5, q6, q7, q8⟩ := h
          rw [List.take_length] at q8
          refine s_asg (ev_op (ev_var rfl) ev_c rv_add) fun H6 e6 => ⟨o1, o2, rows', ?_, (eW.trans q1).trans e6, e6 _ _ q2, e6 _ _ q3, q4, by omega, q8⟩
          have : ((at_ + 1 : Nat) : Int) = (at_ : Int) + 1 := by omega
          rw [this]
          rfl
    · have hc := of_decide_eq_false hb
      have hg : grow seeds most m at_ rows = rows := by
        cases m with
        | zero => rfl
        | succ m => exact if_neg hc
      refine s_ret (ev_var rfl) fun H5 e5 => ?_
      refine k l H5 nl ((g1.trans e4).trans e5) ?_
      rw [← g7, hg]
      exact e5 _ _ (e4 _ _ g2)
end
end Nt
end
section
set_option Elab.async false
set_option linter.all false
set_option maxRecDepth 100000
set_option maxHeartbeats 4000000
namespace Nt
open PySem PySem.Spec PyProof.Rows L2 Evl SX
/-! ### without one object -/
def hid (b : Addr) (H : Hp) : Hp := fun a => if a = b then none else H a
theorem hid_ex (b : Addr) (H : Hp) : Ex (hid b H) H := fun a o h => by
  unfold hid at h
  split at h
  · cases h
  · exact h
theorem hid_none (b : Addr) (H : Hp) : hid b H b = none := if_pos rfl
theorem hid_at {b a : Addr} {H : Hp} {o : HO} (h : H a = some o) (n : a ≠ b) : hid b H a = some o := by
  unfold hid
  rw [if_neg n]
  exact h
theorem hid_mono {b : Addr} {H H' : Hp} (e : Ex H H') : Ex (hid b H) (hid b H') := fun a o h => by
  unfold hid at h ⊢
  split at h
  · cases h
  · rename_i n
    rw [if_neg n]
    exact e a o h
theorem hid_upd {b : Addr} {H : Hp} {o : HO} : Ex (hid b H) (upd H b o) := Ex.mut (hid_ex b H) (hid_none b H)
section
variable {K : PySem.W.Frag} {σ : L2.St} {W H H' : Hp} {ta tb tc te tl td ty : TE} {t u : TT} {x y z v w' : V} {D : Ends} {tu tz : TS}
theorem q_fld {a C dx : Addr} {fs : List (Str × V)} {f : Str} (h : Ev te σ H v) (ho : Ev ta σ H (.ref a)) (hi : H a = some (.ins C dx fs)) (c : Cls K C) (n : NoAttr K C f) (hl : fs.length < 1000) (k : ∀ H1, Ex H H1 → tz D σ (upd H1 a (.ins C dx (putF f v fs)))) : tSeq (sFld K ta te f) tz D σ H :=
  h H (Ex.refl H) _ fun H1 e1 => ho H1 e1 _ fun H2 e2 => ⟨a, C, dx, fs, rfl, (e1.trans e2) _ _ hi, c, n, hl, k H2 (e1.trans e2)⟩
theorem s_fld {a C dx : Addr} {fs : List (Str × V)} {f : Str} (h : Ev te σ H v) (ho : Ev ta σ H (.ref a)) (hi : H a = some (.ins C dx fs)) (c : Cls K C) (n : NoAttr K C f) (hl : fs.length < 1000) (k : ∀ H1, Ex H H1 → D.nx σ (upd H1 a (.ins C dx (putF f v fs)))) : sFld K ta te f D σ H :=
  h H (Ex.refl H) _ fun H1 e1 => ho H1 e1 _ fun H2 e2 => ⟨a, C, dx, fs, rfl, (e1.trans e2) _ _ hi, c, n, hl, k H2 (e1.trans e2)⟩
theorem q_fldL {a C dx : Addr} {fs : List (Str × V)} {f : Str} {xs : List V} (h : EvL te σ H xs) (ho : Ev ta σ H (.ref a)) (hi : H a = some (.ins C dx fs)) (c : Cls K C) (n : NoAttr K C f) (hl : fs.length < 1000)
    (k : ∀ p H1, H p = none → Ex H H1 → H1 p = some (.lst xs) → tz D σ (upd H1 a (.ins C dx (putF f (.ref p) fs)))) : tSeq (sFld K ta te f) tz D σ H :=
  h H (Ex.refl H) _ fun p H1 hp e1 h1 => ho H1 e1 _ fun H2 e2 => ⟨a, C, dx, fs, rfl, (e1.trans e2) _ _ hi, c, n, hl, k p H2 hp (e1.trans e2) (e2 _ _ h1)⟩
theorem s_fldL {a C dx : Addr} {fs : List (Str × V)} {f : Str} {xs : List V} (h : EvL te σ H xs) (ho : Ev ta σ H (.ref a)) (hi : H a = some (.ins C dx fs)) (c : Cls K C) (n : NoAttr K C f) (hl : fs.length < 1000)
    (k : ∀ p H1, H p = none → Ex H H1 → H1 p = some (.lst xs) → D.nx σ (upd H1 a (.ins C dx (putF f (.ref p) fs)))) : sFld K ta te f D σ H :=
  h H (Ex.refl H) _ fun p H1 hp e1 h1 => ho H1 e1 _ fun H2 e2 => ⟨a, C, dx, fs, rfl, (e1.trans e2) _ _ hi, c, n, hl, k p H2 hp (e1.trans e2) (e2 _ _ h1)⟩
theorem q_fldX {a C dx : Addr} {fs : List (Str × V)} {f : Str} {P : V → Hp → Prop} (h : ∀ Q : VK, (∀ v H1, Ex H H1 → P v H1 → Q v H1) → te σ H Q) (ho : Ev ta σ H (.ref a)) (hi : H a = some (.ins C dx fs)) (c : Cls K C) (n : NoAttr K C f) (hl : fs.length < 1000)
    (hP : ∀ v H1 H2, P v H1 → Ex H1 H2 → P v H2) (k : ∀ v H1, Ex H H1 → P v H1 → tz D σ (upd H1 a (.ins C dx (putF f v fs)))) : tSeq (sFld K ta te f) tz D σ H :=
  h _ fun v H1 e1 p => ho H1 e1 _ fun H2 e2 => ⟨a, C, dx, fs, rfl, (e1.trans e2) _ _ hi, c, n, hl, k v H2 (e1.trans e2) (hP _ _ _ p e2)⟩
theorem s_fldX {a C dx : Addr} {fs : List (Str × V)} {f : Str} {P : V → Hp → Prop} (h : ∀ Q : VK, (∀ v H1, Ex H H1 → P v H1 → Q v H1) → te σ H Q) (ho : Ev ta σ H (.ref a)) (hi : H a = some (.ins C dx fs)) (c : Cls K C) (n : NoAttr K C f) (hl : fs.length < 1000)
    (hP : ∀ v H1 H2, P v H1 → Ex H1 H2 → P v H2) (k : ∀ v H1, Ex H H1 → P v H1 → D.nx σ (upd H1 a (.ins C dx (putF f v fs)))) : sFld K ta te f D σ H :=
  h _ fun v H1 e1 p => ho H1 e1 _ fun H2 e2 => ⟨a, C, dx, fs, rfl, (e1.trans e2) _ _ hi, c, n, hl, k v H2 (e1.trans e2) (hP _ _ _ p e2)⟩
/-- a call whose one argument is a new list -/
theorem call1L {sp : Sp} {dvs xs : List V} {E : XK} {Q : VK} (h : EvL te σ H xs) (hs : ∀ p H1, H p = none → Ex H H1 → H1 p = some (.lst xs) → sp ([.ref p] ++ dvs) H1 Q E) : tCall sp dvs E (tCons te tNil) σ H Q :=
  h H (Ex.refl H) _ fun p H1 hp e1 h1 => hs p H1 hp e1 h1
/-- sorted texts: some list -/
theorem el_sortedS {p : Addr} {xs : List Str} (h : Ev ta σ H (.ref p)) (hx : SqL K H p (xs.map V.str)) (h64 : xs.length < 64) : ∀ H1, Ex H H1 → ∀ Q : VK, (∀ p ys H2, H1 p = none → Ex H1 H2 → H2 p = some (.lst ys) → Q (.ref p) H2) → tCB (rSortedS K) (tCons ta tNil) σ H1 Q := fun H1 e Q q =>
  h H1 e _ fun H2 e2 => ⟨p, xs, rfl, ex_l (e.trans e2) hx, h64, fun ys p _ _ hp => q p _ _ (fresh_back e2 hp) (e2.trans (Ex.new hp)) upd_same⟩
/-- a dict of texts, each True -/
theorem ev_dcS {wi : TI} {g : TG} {vs : List Nat} {n : Nat} {τ : Nat → L2.St → L2.St} {f : Nat → List Nat} (h : EvI wi g σ W n τ) (hn : n ≤ 40000) (hw : ∀ i, i < n → wipe (τ i (wipe σ vs)) vs = wipe σ vs)
    (hk : ∀ i, i < n → Ev tc (τ i (wipe σ vs)) W (vS (f i))) (hv : ∀ i, i < n → Ev te (τ i (wipe σ vs)) W (.bl true)) (hnd : ∀ i, i < n → f i ∉ (List.range i).map f) :
    ∀ H0, Ex W H0 → ∀ Q : VK, (∀ p H1, H0 p = none → Ex H0 H1 → H1 p = some (.dK (dk ((List.range n).map f))) → Q (.ref p) H1) → tDc wi g tYes tc te vs σ H0 Q := fun H0 e0 Q q => h H0 e0 _ fun J H1 W1 e1 _ ew _ F0 Dl hD => by
  have eW : Ex W H1 := e0.trans e1
  have F := F0.mono ew
  refine ⟨fun i m H => m = n - i ∧ i ≤ n ∧ Ex H1 H ∧ H Dl = some (.dK (dk ((List.range i).map f))), ⟨n, by simp, Nat.zero_le _, Ex.new hD, upd_same⟩, fun i m H hI => ?_⟩
  obtain ⟨rfl, hi, p1, p2⟩ := hI
  by_cases hlt : i < n
  · refine Or.inr ⟨F.go i H p1 hlt, fun H' => Ex H1 H' ∧ H' Dl = some (.dK (dk ((List.range (i + 1)).map f))), fun H' p' => ⟨n - (i + 1), by omega, rfl, hlt, p'.1, p'.2⟩, fun x H' y => ?_⟩
    obtain ⟨e2, k⟩ := F.yld i H x H' p1 hlt y
    refine k _ _ ⟨hw i hlt, ?_⟩
    show tc _ _ _
    have e3 : Ex H1 H' := p1.trans e2
    refine hk i hlt H' (eW.trans e3) _ fun H4 e4 => hv i hlt H4 ((eW.trans e3).trans e4) _ fun H5 e5 => ⟨dk ((List.range i).map f), Sum.inr (S (f i)), rfl, e5 _ _ (e4 _ _ (e2 _ _ p2)), sz_lt (by unfold dk; rw [List.length_map, List.length_map, List.length_range]; omega), Ex.mut ((e3.trans e4).trans e5) hD, ?_⟩
    rw [upd_same, dk_put (hnd i hlt), List.range_succ, List.map_append]
    rfl
  · have e : i = n := by omega
    subst e
    exact Or.inl ⟨F.stop H p1, q Dl H (fresh_back e1 hD) (e1.trans p1) p2⟩
end
theorem grow_nodup (seeds : List (List Nat)) (most : Nat) : ∀ (f at_ : Nat) (rows : List (List Nat)), rows.Nodup → (grow seeds most f at_ rows).Nodup := by
  have step : ∀ (r0 : List Nat) (ss rows : List (List Nat)), rows.Nodup → (ss.foldl (stepR r0) rows).Nodup := by
    intro r0 ss
    induction ss with
    | nil => exact fun rows h => h
    | cons s ss ih =>
      intro rows h
      refine ih _ ?_
      unfold stepR
      split
      · exact h
      · rename_i hn
        exact List.nodup_append.mpr ⟨h, by simp, fun x hx y hy => by
          rw [List.mem_singleton.mp hy]
          intro e
          exact hn (e ▸ hx)⟩
  intro f
  induction f with
  | zero => exact fun at_ rows h => h
  | succ f ih =>
    intro at_ rows h
    unfold grow
    split
    · exact ih _ _ (step _ _ _ h)
    · exact h
theorem grow_len (seeds : List (List Nat)) (most n : Nat) (hs : ∀ s ∈ seeds, s.length = n) : ∀ (f at_ : Nat) (rows : List (List Nat)), (∀ r ∈ rows, r.length = n) → ∀ r ∈ grow seeds most f at_ rows, r.length = n := by
  have step : ∀ (r0 : List Nat), r0.length = n → ∀ (ss rows : List (List Nat)), (∀ s ∈ ss, s.length = n) → (∀ r ∈ rows, r.length = n) → ∀ r ∈ ss.foldl (stepR r0) rows, r.length = n := by
    intro r0 h0 ss
    induction ss with
    | nil => exact fun rows _ h => h
    | cons s ss ih =>
      intro rows hs h
      refine ih _ (fun x hx => hs x (List.mem_cons_of_mem _ hx)) ?_
      unfold stepR
      split
      · exact h
      · intro r hr
        rcases List.mem_append.mp hr with hr | hr
        · exact h r hr
        · rw [List.mem_singleton.mp hr, ov_len (by rw [hs s (List.mem_cons_self ..), h0]), h0]
  intro f
  induction f with
  | zero => exact fun at_ rows h => h
  | succ f ih =>
    intro at_ rows h
    unfold grow
    split
    · rename_i hc
      refine ih _ _ (step _ (h _ ?_) _ _ hs h)
      rw [List.getD_eq_getElem?_getD, List.getElem?_eq_getElem hc.1]
      exact List.getElem_mem hc.1
    · exact h
section
variable {P : Program} {w : World} {K : PySem.W.Frag} {mg : Str → Option Value} {base : Heap} {A : Ad}
def fsB (cl sl rl kr ll : V) : List (Str × V) := putF "lot_list" ll (putF "known_rows" kr (putF "row_list" rl (putF "seed_list" sl (putF "cell_list" cl []))))
theorem fsB_cell {cl sl rl kr ll : V} : (fsB cl sl rl kr ll).lookup ("cell_list" : Str) = some cl := by
  unfold fsB
  rw [lookup_putF, if_neg (by decide +kernel), lookup_putF, if_neg (by decide +kernel), lookup_putF, if_neg (by decide +kernel), lookup_putF, if_neg (by decide +kernel), lookup_putF, if_pos rfl]
theorem fsB_known {cl sl rl kr ll : V} : (fsB cl sl rl kr ll).lookup ("known_rows" : Str) = some kr := by
  unfold fsB
  rw [lookup_putF, if_neg (by decide +kernel), lookup_putF, if_pos rfl]
theorem fsB_no {cl sl rl kr ll : V} {m : Str} (h : m = ("names" : Str) ∨ m = ("blank_row" : Str) ∨ m = ("check_row" : Str)) : (fsB cl sl rl kr ll).lookup m = none := by
  unfold fsB
  rcases h with rfl | rfl | rfl <;> (rw [lookup_putF, if_neg (by decide +kernel), lookup_putF, if_neg (by decide +kernel), lookup_putF, if_neg (by decide +kernel), lookup_putF, if_neg (by decide +kernel), lookup_putF, if_neg (by decide +kernel)] <;> rfl)
/-- a Band at b: its cells, its rows -/
def BandAt (A : Ad) (H : Hp) (b : Addr) (cs : Cells) (kept : List (List Nat)) : Prop := ∃ (dx cl kd : Addr) (sl rl ll : V), H b = some (.ins (A.C "Band") dx (fsB (.ref cl) sl rl (.ref kd) ll)) ∧ CellsAt H cl cs ∧ H kd = some (.dK (dk kept))
theorem BandAt.ex {H H' : Hp} {b : Addr} {cs : Cells} {kept : List (List Nat)} (h : BandAt A H b cs kept) (e : Ex H H') : BandAt A H' b cs kept := by
  obtain ⟨dx, cl, kd, sl, rl, ll, h1, h2, h3⟩ := h
  exact ⟨dx, cl, kd, sl, rl, ll, e _ _ h1, h2.ex e, e _ _ h3⟩
theorem fl1 {f : Str} {v : V} {fs : List (Str × V)} {n : Nat} (h : fs.length ≤ n) : (putF f v fs).length ≤ n + 1 := Nat.le_trans (length_putF f v fs) (Nat.succ_le_succ h)
def spOrdered : Sp := fun vs H Q _ => ∃ (a : Addr) (xs : List (List Nat)), vs = [.ref a] ∧ H a = some (.lst (xs.map vS)) ∧ xs.length < 64 ∧ ∀ p H2, Ex H H2 → Q (.ref p) H2
abbrev n_Bandinit : List Str := ["self", "cells", "seeds", "most", "rows", "row"]
theorem sc_Bandinit : FnScope n_Bandinit ["self", "cells", "seeds", "most"] (defScope s_Bandinit) := ⟨rfl, rfl, rfl, by decide +kernel, rfl, by decide +kernel, by decide +kernel⟩
def spBandInit (A : Ad) : Sp := fun vs H Q _ => ∃ (b dx cl a : Addr) (cs : Cells) (seeds : List (List Nat)), vs = [.ref b, .ref cl, .ref a, .int 800] ∧ H b = some (.ins (A.C "Band") dx []) ∧ CellsAt H cl cs ∧ CellsOk cs ∧ RowsAt H a seeds cs.length ∧ seeds.length ≤ 30 ∧ (∀ s ∈ seeds, rowB cs s = true ∧ s ≠ List.replicate cs.length 46) ∧ seeds.Nodup ∧
  (∀ i, i < cs.length → ∃ s ∈ seeds, s.getD i 46 ≠ 46) ∧ (grow seeds 800 1000 0 [List.replicate cs.length 46]).length < 64 ∧ ∀ H2, Ex (hid b H) H2 → BandAt A H2 b cs (grow seeds 800 1000 0 [List.replicate cs.length 46]) → Q .non H2
theorem ok_Bandinit (T : Tx K mg A) (ok_orderedlots : ∀ _ : Tx K mg A, FnOk P w K mg base CX0 8 (A.f "ordered_lots") (A.fd "ordered_lots") ["lots"] spOrdered) : FnOk P w K mg base CX0 10 (A.f "Band.__init__") (A.fd "Band.__init__") ["self", "cells", "seeds", "most"] (spBandInit A) := by
  refine T.F_Bandinit.ok sc_Bandinit (fun vs H Q E h => ?_) (fun cdv A' outer s H vs Q E hr h => ?_)
  · obtain ⟨b, dx, cl, a, cs, seeds, rfl, _⟩ := h
    rfl
  · obtain ⟨b, dx, cl, a, cs, seeds, rfl, hb, hcl, hc, R, h30, hs, hnd, ht, h64, k⟩ := h
    have c1 := hc.one
    have c12 := hc.few
    refine ⟨_, PSs.nox (pss_cons (ps_expr (pe_call (ok_checkcells T) (hr.mono (by decide)) (by rfl) T.g_checkcells T.F_checkcells.kp T.b_checkcells .nil pass0 (pa_cons (pv 1) pa_nil)))
      (pss_cons (ps_expr (pe_call (ok_checkseeds T) (hr.mono (by decide)) (by rfl) T.g_checkseeds T.F_checkseeds.kp T.b_checkseeds .nil pass0 (pa_cons (pv 1) (pa_cons (pv 2) pa_nil))))
      (pss_cons (ps_if (pt_not (pt_val (pe_call (ok_isnumber T) (hr.mono (by decide)) (by rfl) T.g_isnumber T.F_isnumber.kp T.b_isnumber .nil pass0 (pa_cons (pv 3) (pa_cons pe_int (pa_cons (pe_glob (v := .int 800) (by rfl) T.g_MOST_ROWS.choose_spec ⟨_, rfl⟩) pa_nil))))))
      (pss_one ps_never)
      pss_nil)
      (pss_cons (ps_set (i := 4) sc_Bandinit.nd rfl (Or.inl rfl) (pe_call (ok_grownrows T) (hr.mono (by decide)) (by rfl) T.g_grownrows T.F_grownrows.kp T.b_grownrows .nil pass0 (pa_cons (pv 2) (pa_cons (pe_call (ok_blank T) (hr.mono (by decide)) (by rfl) T.g_blank T.F_blank.kp T.b_blank .nil pass0 (pa_cons (pe_callB call_len_seq (by rfl) T.n_len PySem.boot_len (pa_cons (pv 1) pa_nil)) pa_nil)) (pa_cons (pv 3) pa_nil)))))
      (pss_cons (ps_if (pt_cmpR op_gt (pe_callB call_len_seq (by rfl) T.n_len PySem.boot_len (pa_cons (pv 4) pa_nil)) (pv 3) (nomark _))
      (pss_one ps_never)
      pss_nil)
      (pss_cons (ps_fld (pv 0) (pe_callTy call_list_of (by rfl) T.n_list (by decide +kernel) (pa_cons (pv 1) pa_nil)) rfl)
      (pss_cons (ps_fld (pv 0) (pe_callTy call_list_of (by rfl) T.n_list (by decide +kernel) (pa_cons (pv 2) pa_nil)) rfl)
      (pss_cons (ps_fld (pv 0) (pe_callB cr_sortedS (by rfl) T.n_sorted (by decide +kernel) (pa_cons (pv 4) pa_nil)) rfl)
      (pss_cons (ps_fld (pv 0) (pe_dc (own := [("row", 5)]) (g := (gName 5)) (by rfl) sc_Bandinit.nd (pi_list (pv 4)) (blkOk_by (own := [("row", 5)]) (N := n_Bandinit) (sc := defScope s_Bandinit) (by decide +kernel)) (fun _ _ _ _ _ => (pg_name (i := 5) sc_Bandinit.nd rfl (Or.inl rfl) (Or.inr rfl))) (fun _ _ _ _ _ => pts_nil) (fun _ _ _ _ _ => (pv 5)) (fun _ _ _ _ _ => pe_bl)) rfl)
      (pss_one (ps_fld (pv 0) (pe_call (ok_orderedlots T) (hr.mono (by decide)) (by rfl) T.g_orderedlots T.F_orderedlots.kp T.b_orderedlots .nil pass0 (pa_cons (pe_lc (own := [("row", 5)]) (g := (gName 5)) (by rfl) sc_Bandinit.nd (pi_list (pv 4)) (blkOk_by (own := [("row", 5)]) (N := n_Bandinit) (sc := defScope s_Bandinit) (by decide +kernel)) (fun _ _ _ _ _ => (pg_name (i := 5) sc_Bandinit.nd rfl (Or.inl rfl) (Or.inr rfl))) (fun _ _ _ _ _ => pts_nil) (fun _ _ _ _ _ => (pe_call (ok_lotof T) (hr.mono (by decide)) (by rfl) T.g_lotof T.F_lotof.kp T.b_lotof .nil pass0 (pa_cons (pv 5) pa_nil)))) pa_nil)) rfl))))))))))) , ?_⟩
    obtain ⟨ts, h1, h2⟩ := id hcl
    refine q_drop (ev_call (dvs := []) (ea1 (ev_var rfl)) (fun H6 e6 Q q E => ⟨cl, cs, rfl, hcl.ex e6, hc, fun H7 e7 => q H7 e7⟩)) fun H1 e1 => ?_
    refine q_drop (ev_call (dvs := []) (ea2 (ev_var rfl) (ev_var rfl)) (fun H6 e6 Q q E => ⟨cl, a, cs, seeds, rfl, hcl.ex (e1.trans e6), hc, R.ex (e1.trans e6), h30, hs, hnd, ht, fun H7 e7 => q H7 e7⟩)) fun H2 e2 => ?_
    refine q_skip (et_is (et_not (a := true) (et_is (et_B (ev_call (dvs := []) (ea3 (ev_var rfl) ev_c ev_c) (fun H6 e6 Q q E => ⟨_, _, _, _, rfl, .int _, fun H7 e7 => q H7 e7⟩))) (by decide))) rfl) fun H3 e3 => ?_
    have e03 := (e1.trans e2).trans e3
    generalize hg : grow seeds 800 1000 0 [List.replicate cs.length 46] = rows at h64 k
    refine q_asgL (xs := rows.map vS) (el_call (dvs := []) (ea3 (ev_var rfl) (ev_call (dvs := []) (ea1 (by
              have q := ev_lenL (K := K) (ta := tVar 1) (σ := L2.start n_Bandinit [.ref b, .ref cl, .ref a, .int 800]) (H := H3) (ev_var rfl) (sq_of (e03 _ _ h1))
              rw [List.length_map, List.length_range] at q
              exact q)) (fun H6 e6 Q q E => ⟨cs.length, rfl, c1, by omega, fun H7 e7 => q H7 e7⟩)) (ev_var rfl)) (fun H6 e6 Q q E => ⟨a, seeds, List.replicate cs.length 46, 800, rfl, by
                rw [List.length_replicate]
                exact R.ex (e03.trans e6), h30, by omega, fun p H7 hp e7 h7 => q p H7 hp e7 (by rw [← hg]; exact h7)⟩)) fun l H4 nl e4 hl => ?_
    refine q_skip (et_is (et_test (ev_op (ev_lenL (ev_var rfl) (sq_of hl)) (ev_var rfl) rv_gt)) (by
      rw [List.length_map]
      exact decide_eq_false (by omega))) fun H5 e5 => ?_
    have e05 := (e03.trans e4).trans e5
    have nb1 : cl ≠ b := ne_of h1 hb (by intro z; cases z)
    have nb2 : a ≠ b := ne_of R.at_ hb (by intro z; cases z)
    have nb3 : ∀ i, i < cs.length → ts i ≠ b := fun i hi => ne_of (h2 i hi) hb (by intro z; cases z)
    have nb4 : l ≠ b := (ne_of_none (e03 _ _ hb) nl).symm
    -- what stands apart from the object
    have hW1 : ∀ H', Ex (hid b H) H' → CellsAt H' cl cs := fun H' e => ⟨ts, e _ _ (hid_at h1 nb1), fun i hi => e _ _ (hid_at (h2 i hi) (nb3 i hi))⟩
    refine q_fldL (el_listOf (ev_var rfl) (sq_of (e05 _ _ h1))) (ev_var rfl) (e05 _ _ hb) T.c_Band T.na_cell_list (by decide) fun p1 H6 np1 e6 hp1 => ?_
    have pb1 : p1 ≠ b := (ne_of_none (e05 _ _ hb) np1).symm
    have e06 : Ex (hid b H) H6 := (hid_ex b H).trans (e05.trans e6)
    have g6 : Ex (hid b H) (upd H6 b (.ins (A.C "Band") dx (putF "cell_list" (.ref p1) []))) := Ex.mut e06 (hid_none b H)
    have l6 : (upd H6 b (.ins (A.C "Band") dx (putF "cell_list" (.ref p1) []))) l = some (.lst (rows.map vS)) := by
      rw [upd_ne nb4]
      exact e6 _ _ (e5 _ _ hl)
    have c6 : (upd H6 b (.ins (A.C "Band") dx (putF "cell_list" (.ref p1) []))) p1 = some (.lst ((List.range cs.length).map fun i => .ref (ts i))) := by
      rw [upd_ne pb1]
      exact hp1
    refine q_fldL (el_listOf (ev_var rfl) (sq_of (g6 _ _ (hid_at R.at_ nb2)))) (ev_var rfl) upd_same T.c_Band T.na_seed_list (Nat.lt_of_le_of_lt (fl1 (fs := []) (n := 0) (Nat.le_refl 0)) (by decide)) fun p2 H7 np2 e7 hp2 => ?_
    generalize hfs1 : putF ("cell_list" : Str) (.ref p1) [] = fs1 at *
    have lf1 : fs1.length ≤ 1 := by
      rw [← hfs1]
      exact fl1 (Nat.zero_le _)
    have pb2 : p2 ≠ b := (ne_of_none upd_same np2).symm
    have g7 : Ex (hid b H) (upd H7 b (.ins (A.C "Band") dx (putF "seed_list" (.ref p2) fs1))) := Ex.mut (g6.trans e7) (hid_none b H)
    have keep7 : ∀ q o, q ≠ b → (upd H6 b (.ins (A.C "Band") dx fs1)) q = some o → (upd H7 b (.ins (A.C "Band") dx (putF "seed_list" (.ref p2) fs1))) q = some o := fun q o nq h => by
      rw [upd_ne nq]
      exact e7 _ _ h
    have l7 := keep7 _ _ nb4 l6
    have c7 := keep7 _ _ pb1 c6
    generalize hH8 : upd H7 b (.ins (A.C "Band") dx (putF "seed_list" (.ref p2) fs1)) = H8 at *
    have b8 : H8 b = some (.ins (A.C "Band") dx (putF "seed_list" (.ref p2) fs1)) := by
      rw [← hH8]
      exact upd_same
    generalize hfs2 : putF ("seed_list" : Str) (.ref p2) fs1 = fs2 at *
    have lf2 : fs2.length ≤ 2 := by
      rw [← hfs2]
      exact fl1 lf1
    -- the row list
    have srt := el_sortedS (K := K) (ta := tVar 4) (σ := [some (.ref b), some (.ref cl), some (.ref a), some (.int 800), some (.ref l), none]) (H := H8) (p := l) (xs := rows.map S) (ev_var rfl) (by rw [List.map_map]; exact sq_of l7) (by rw [List.length_map]; exact h64)
    refine q_fldX (P := fun v H' => ∃ p3, v = .ref p3) (fun Q q => srt H8 (Ex.refl H8) _ fun p3 ys H9 np3 e9 hp3 => q _ H9 e9 ⟨p3, rfl⟩) (ev_var rfl) b8 T.c_Band T.na_row_listB (by omega) (fun v H1 H2 h e => h) fun v H9 e9 hv => ?_
    obtain ⟨p3, rfl⟩ := hv
    have g9 : Ex (hid b H) (upd H9 b (.ins (A.C "Band") dx (putF "row_list" (.ref p3) fs2))) := Ex.mut (g7.trans e9) (hid_none b H)
    have l9 : (upd H9 b (.ins (A.C "Band") dx (putF "row_list" (.ref p3) fs2))) l = some (.lst (rows.map vS)) := by
      rw [upd_ne nb4]
      exact e9 _ _ l7
    have c9 : (upd H9 b (.ins (A.C "Band") dx (putF "row_list" (.ref p3) fs2))) p1 = some (.lst ((List.range cs.length).map fun i => .ref (ts i))) := by
      rw [upd_ne pb1]
      exact e9 _ _ c7
    generalize hH10 : upd H9 b (.ins (A.C "Band") dx (putF "row_list" (.ref p3) fs2)) = H10 at *
    have b10 : H10 b = some (.ins (A.C "Band") dx (putF "row_list" (.ref p3) fs2)) := by
      rw [← hH10]
      exact upd_same
    generalize hfs3 : putF ("row_list" : Str) (.ref p3) fs2 = fs3 at *
    have lf3 : fs3.length ≤ 3 := by
      rw [← hfs3]
      exact fl1 lf2
    -- the known rows
    have hndR : rows.Nodup := by
      rw [← hg]
      exact grow_nodup _ _ _ _ _ (by simp)
    have hlenR : ∀ r ∈ rows, r.length = cs.length := by
      rw [← hg]
      exact grow_len _ _ _ R.wid _ _ _ (by simp)
    have itR : ∀ (H' : Hp), H' l = some (.lst (rows.map vS)) → EvI (iList K (tVar 4)) (gName 5) [some (.ref b), some (.ref cl), some (.ref a), some (.int 800), some (.ref l), none] H' rows.length (fun i σ => σ.set 5 (some (vS (rows.getD i [])))) := fun H' h => by
      have q := ei_list (K := K) (tl := tVar 4) (σ := [some (.ref b), some (.ref cl), some (.ref a), some (.int 800), some (.ref l), none]) (W := H') (j := 5) (it := fun i => vS (rows.getD i [])) (ev_var rfl) (sq_of h) (fun i hi => by
        rw [List.length_map] at hi
        rw [List.getElem?_map, getD_some (d := []) hi] <;> rfl)
      rw [List.length_map] at q
      exact q
    refine q_fldX (P := fun v H' => ∃ kd, v = .ref kd ∧ H10 kd = none ∧ H' kd = some (.dK (dk ((List.range rows.length).map fun i => rows.getD i [])))) (fun Q q => ev_dcS (vs := [5]) (tc := tVar 5) (te := tC (.bl true)) (n := rows.length) (f := fun i => rows.getD i []) (itR H10 l9) (by omega) (fun i hi => rfl) (fun i hi => ev_var rfl) (fun i hi => ev_c) (fun i hi hm => ?_) H10 (Ex.refl H10) _ fun kd H11 nkd e11 hkd =>
      q _ H11 e11 ⟨kd, rfl, nkd, hkd⟩) (ev_var rfl) b10 T.c_Band T.na_known_rows (by omega) (fun v H1 H2 h e => by
        obtain ⟨kd, rfl, h1, h2⟩ := h
        exact ⟨kd, rfl, h1, e _ _ h2⟩) fun v H11 e11 hkd => ?_
    · obtain ⟨j, hj, e⟩ := List.mem_map.mp hm
      have hj' := List.mem_range.mp hj
      have e2 : ∀ j (h : j < rows.length), rows.getD j [] = rows[j] := fun j h => by
        rw [List.getD_eq_getElem?_getD, List.getElem?_eq_getElem h] <;> rfl
      have e : rows.getD j [] = rows.getD i [] := e
      rw [e2 j (by omega), e2 i hi] at e
      exact List.pairwise_iff_getElem.mp hndR j i (by omega) hi hj' e
    obtain ⟨kd, rfl, nkd, hkd⟩ := hkd
    rw [range_map (fun r => r) rows [], List.map_id'] at hkd
    have kb : kd ≠ b := (ne_of_none b10 nkd).symm
    have g11 : Ex (hid b H) (upd H11 b (.ins (A.C "Band") dx (putF "known_rows" (.ref kd) fs3))) := Ex.mut (g9.trans e11) (hid_none b H)
    have l11 : (upd H11 b (.ins (A.C "Band") dx (putF "known_rows" (.ref kd) fs3))) l = some (.lst (rows.map vS)) := by
      rw [upd_ne nb4]
      exact e11 _ _ l9
    have c11 : (upd H11 b (.ins (A.C "Band") dx (putF "known_rows" (.ref kd) fs3))) p1 = some (.lst ((List.range cs.length).map fun i => .ref (ts i))) := by
      rw [upd_ne pb1]
      exact e11 _ _ c9
    have k11 : (upd H11 b (.ins (A.C "Band") dx (putF "known_rows" (.ref kd) fs3))) kd = some (.dK (dk rows)) := by
      rw [upd_ne kb]
      exact hkd
    generalize hH12 : upd H11 b (.ins (A.C "Band") dx (putF "known_rows" (.ref kd) fs3)) = H12 at *
    have b12 : H12 b = some (.ins (A.C "Band") dx (putF "known_rows" (.ref kd) fs3)) := by
      rw [← hH12]
      exact upd_same
    generalize hfs4 : putF ("known_rows" : Str) (.ref kd) fs3 = fs4 at *
    have lf4 : fs4.length ≤ 4 := by
      rw [← hfs4]
      exact fl1 lf3
    -- the lot list
    refine s_fldX (P := fun v H' => ∃ p4, v = .ref p4) (fun Q q => call1L (dvs := []) (eA (el_lcA (vs := [5]) (te := tCall spLotOf [] E0 (tCons (tVar 5) tNil)) (itR H12 l11) (by omega) (fun i => vS (lot (rows.getD i []))) (fun i hi => rfl) (fun i hi => ?_)) (ys := (rows.map lot).map vS) ?_) fun ll H13 nll e13 hll =>
      ⟨ll, rows.map lot, rfl, hll, by rw [List.length_map]; exact h64, fun p4 H14 e14 => q _ H14 (e13.trans e14) ⟨p4, rfl⟩⟩) (ev_var rfl) b12 T.c_Band T.na_lot_list (by omega) (fun v H1 H2 h e => h) fun v H14 e1214 hv => ?_
    · refine ev_call (dvs := []) (ea1 (ev_var rfl)) (fun H6 e6 Q q E => ⟨rows.getD i [], rfl, ?_, fun H7 e7 => q H7 e7⟩)
      rw [hlenR _ (by rw [List.getD_eq_getElem?_getD, List.getElem?_eq_getElem hi]; exact List.getElem_mem hi)]
      omega
    · rw [range_map (fun r => vS (lot r)) rows [], List.map_map] <;> rfl
    obtain ⟨p4, rfl⟩ := hv
    refine k _ (Ex.mut (g11.trans e1214) (hid_none b H)) ⟨dx, p1, kd, .ref p2, .ref p3, .ref p4, ?_, ⟨ts, ?_, fun i hi => ?_⟩, ?_⟩
    · rw [upd_same, ← hfs4, ← hfs3, ← hfs2, ← hfs1] <;> rfl
    · rw [upd_ne pb1]
      exact e1214 _ _ c11
    · exact Ex.mut (g11.trans e1214) (hid_none b H) _ _ (hid_at (h2 i hi) (nb3 i hi))
    · rw [upd_ne kb]
      exact e1214 _ _ k11
end
end Nt
end
section
set_option Elab.async false
set_option linter.all false
set_option maxRecDepth 100000
set_option maxHeartbeats 4000000
namespace Nt
open PySem PySem.Spec PyProof.Rows L2 Evl SX
section
variable {P : Program} {w : World} {K : PySem.W.Frag} {mg : Str → Option Value} {base : Heap} {A : Ad}
/-! ### the errors -/
def spErr (A : Ad) (c f : Str) (code : V) : Sp := fun vs H Q _ => ∃ (e : Addr) (v : V), vs = [.ref e, v] ∧ H e = some (exo e (A.C c) none) ∧
  ∀ dx, H dx = none → dx ≠ e → Q .non (upd (upd (upd H dx (exd dx [(f, v)])) e (exo e (A.C c) (some dx))) dx (exd dx [("code", code), (f, v)]))
abbrev n_BadRowinit : List Str := ["self", "row"]
theorem sc_BadRowinit : FnScope n_BadRowinit ["self", "row"] (defScope s_BadRowinit) := ⟨rfl, rfl, rfl, by decide +kernel, rfl, by decide +kernel, by decide +kernel⟩
theorem ok_BadRowinit (T : Tx K mg A) : FnOk P w K mg base CX0 2 (A.f "BadRow.__init__") (A.fd "BadRow.__init__") ["self", "row"] (spErr A "BadRow" "row" (.str "BadRow")) := by
  refine T.F_BadRowinit.ok sc_BadRowinit (fun vs H Q E h => ?_) (fun cdv A' outer s H vs Q E hr h => ?_)
  · obtain ⟨e, v, rfl, _⟩ := h
    rfl
  · obtain ⟨e, v, rfl, he, k⟩ := h
    refine ⟨_, PSs.nox (pss_cons (ps_ost (pv 0) (pv 1))
      (pss_one (ps_ost (pv 0) pe_str))) , ?_⟩
    refine ⟨_, rfl, _, rfl, e, _, rfl, T.x_BadRow, T.n_BadRow_row, Or.inl ⟨he, fun dx hdx ne => ?_⟩⟩
    refine ⟨_, rfl, e, _, rfl, T.x_BadRow, T.n_BadRow_code, Or.inr ⟨dx, _, upd_same, (by rw [upd_ne ne]; exact upd_same), by simp, ?_⟩⟩
    exact k dx hdx ne
abbrev n_NotInBandinit : List Str := ["self", "row"]
theorem sc_NotInBandinit : FnScope n_NotInBandinit ["self", "row"] (defScope s_NotInBandinit) := ⟨rfl, rfl, rfl, by decide +kernel, rfl, by decide +kernel, by decide +kernel⟩
theorem ok_NotInBandinit (T : Tx K mg A) : FnOk P w K mg base CX0 2 (A.f "NotInBand.__init__") (A.fd "NotInBand.__init__") ["self", "row"] (spErr A "NotInBand" "row" (.str "NotInBand")) := by
  refine T.F_NotInBandinit.ok sc_NotInBandinit (fun vs H Q E h => ?_) (fun cdv A' outer s H vs Q E hr h => ?_)
  · obtain ⟨e, v, rfl, _⟩ := h
    rfl
  · obtain ⟨e, v, rfl, he, k⟩ := h
    refine ⟨_, PSs.nox (pss_cons (ps_ostL (pv 0) (pv 1))
      (pss_one (ps_ostL (pv 0) pe_str))) , ?_⟩
    refine ⟨_, rfl, _, rfl, e, _, rfl, T.x_NotInBand, T.n_NotInBand_row, Or.inl ⟨he, fun dx hdx ne => ?_⟩⟩
    refine ⟨_, rfl, e, _, rfl, T.x_NotInBand, T.n_NotInBand_code, Or.inr ⟨dx, _, upd_same, (by rw [upd_ne ne]; exact upd_same), by simp, ?_⟩⟩
    exact k dx hdx ne
abbrev n_NoMomentinit : List Str := ["self", "moment"]
theorem sc_NoMomentinit : FnScope n_NoMomentinit ["self", "moment"] (defScope s_NoMomentinit) := ⟨rfl, rfl, rfl, by decide +kernel, rfl, by decide +kernel, by decide +kernel⟩
theorem ok_NoMomentinit (T : Tx K mg A) : FnOk P w K mg base CX0 2 (A.f "NoMoment.__init__") (A.fd "NoMoment.__init__") ["self", "moment"] (spErr A "NoMoment" "moment" (.str "NoMoment")) := by
  refine T.F_NoMomentinit.ok sc_NoMomentinit (fun vs H Q E h => ?_) (fun cdv A' outer s H vs Q E hr h => ?_)
  · obtain ⟨e, v, rfl, _⟩ := h
    rfl
  · obtain ⟨e, v, rfl, he, k⟩ := h
    refine ⟨_, PSs.nox (pss_cons (ps_ostL (pv 0) (pv 1))
      (pss_one (ps_ostL (pv 0) pe_str))) , ?_⟩
    refine ⟨_, rfl, _, rfl, e, _, rfl, T.x_NoMoment, T.n_NoMoment_moment, Or.inl ⟨he, fun dx hdx ne => ?_⟩⟩
    refine ⟨_, rfl, e, _, rfl, T.x_NoMoment, T.n_NoMoment_code, Or.inr ⟨dx, _, upd_same, (by rw [upd_ne ne]; exact upd_same), by simp, ?_⟩⟩
    exact k dx hdx ne
/-- such an error has left: its own dict tells the field -/
def Left (A : Ad) (H : Hp) (c f : Str) (v : V) (E : XK) : Prop := ∀ d H2, H d = none → Ex H H2 → (∃ fs, H2 d = some (.xd fs) ∧ fs.lookup f = some v) → E (.ref (A.C c)) (some d) H2
theorem Left.ex {H H' : Hp} {c f : Str} {v : V} {E : XK} (h : Left A H c f v E) (e : Ex H H') : Left A H' c f v E := fun d H2 hd e2 hx => h d H2 (fresh_back e hd) (e.trans e2) hx
/-- the end of raise C(v) -/
theorem mk_left {σ : L2.St} {H : Hp} {te : TE} {c f : Str} {code v : V} {E : XK} (hf : ¬ f = ("code" : Str)) (h : Ev te σ H v) (k : Left A H c f v E) : tMkO (A.C c) (spErr A c f code) [] (tCons te tNil) σ H E :=
  h H (Ex.refl H) _ fun H1 e1 => ⟨by simp, fun a ha => ⟨a, v, rfl, upd_same, fun dx hdx ne => ⟨rfl, dx, _, by rw [upd_ne ne.symm]; exact upd_same, upd_same, by rw [upd_ne ne] at hdx; exact hdx, by
    have hdx0 : H1 dx = none := by
      rw [upd_ne ne] at hdx
      exact hdx
    refine k dx _ (fresh_back e1 hdx0) (fun b o hb => ?_) ⟨_, upd_same, ?_⟩
    · have hb1 := e1 b o hb
      have n1 : b ≠ dx := ne_of_none hb1 hdx0
      have n2 : b ≠ a := ne_of_none hb1 ha
      rw [upd_ne n1, del_ne n2, upd_ne n1, upd_ne n2, upd_ne n1, upd_ne n2]
      exact hb1
    · show List.lookup f [(("code" : Str), code), (f, v)] = some v
      have hb : (f == ("code" : Str)) = false := by
        rw [beq_eq_false_iff_ne]
        exact hf
      simp [List.lookup, hb]⟩⟩⟩
/-! ### Band's methods -/
abbrev n_Bandnames : List Str := ["self", "cell"]
theorem sc_Bandnames : FnScope n_Bandnames ["self"] (defScope s_Bandnames) := ⟨rfl, rfl, rfl, by decide +kernel, rfl, by decide +kernel, by decide +kernel⟩
def spNames (A : Ad) : Sp := fun vs H Q _ => ∃ (b : Addr) (cs : Cells) (kept : List (List Nat)), vs = [.ref b] ∧ BandAt A H b cs kept ∧ cs.length ≤ 100 ∧ RetL ((cs.map (·.1)).map vS) H Q
theorem ok_Bandnames (T : Tx K mg A) : FnOk P w K mg base CX0 2 (A.f "Band.names") (A.fd "Band.names") ["self"] (spNames A) := by
  refine T.F_Bandnames.ok sc_Bandnames (fun vs H Q E h => ?_) (fun cdv A' outer s H vs Q E hr h => ?_)
  · obtain ⟨b, cs, kept, rfl, _⟩ := h
    rfl
  · obtain ⟨b, cs, kept, rfl, ⟨dx, cl, kd, sl, rl, ll, hb, ⟨ts, h1, h2⟩, hk⟩, hc, k⟩ := h
    refine ⟨_, PSs.nox (pss_one (ps_ret (pe_lc (own := [("cell", 1)]) (g := (gName 1)) (te := (tOp (rIxT K) _ _)) (by rfl) sc_Bandnames.nd (pi_list (pe_fld (pv 0) rfl)) (blkOk_by (own := [("cell", 1)]) (N := n_Bandnames) (sc := defScope s_Bandnames) (by decide +kernel)) (fun _ _ _ _ _ => (pg_name (i := 1) sc_Bandnames.nd rfl (Or.inl rfl) (Or.inr rfl))) (fun _ _ _ _ _ => pts_nil) (fun _ _ _ _ _ => (pe_ix ix_tup (pv 1) pe_int (fun _ _ => rfl)))))) , ?_⟩
    refine s_retL (eA (el_lcA (by
      have q := ei_list (K := K) (tl := tFld K (tVar 0) "cell_list") (σ := L2.start n_Bandnames [.ref b]) (j := 1) (it := fun i => .ref (ts i)) (ev_fld (ev_var rfl) hb T.c_Band T.na_cell_list fsB_cell) (sq_of h1) (fun i hi => range_get (by rw [List.length_map, List.length_range] at hi; exact hi))
      rw [List.length_map, List.length_range] at q
      exact q) (by omega) (fun i => vS (cellD cs i).1) (fun i hi => rfl) (fun i hi => ev_op (ev_var rfl) ev_c (rv_ixTn (i := 0) (st_of (h2 i hi)) rfl))) (ys := (cs.map (fun c : List Nat × Nat => c.1)).map vS) ?_) k
    exact (range_map (fun c : List Nat × Nat => vS c.1) cs ([], 0)).trans (by rw [List.map_map]; rfl)
abbrev n_Bandblankrow : List Str := ["self"]
theorem sc_Bandblankrow : FnScope n_Bandblankrow ["self"] (defScope s_Bandblankrow) := ⟨rfl, rfl, rfl, by decide +kernel, rfl, by decide +kernel, by decide +kernel⟩
def spBlankRow (A : Ad) : Sp := fun vs H Q _ => ∃ (b : Addr) (cs : Cells) (kept : List (List Nat)), vs = [.ref b] ∧ BandAt A H b cs kept ∧ 1 ≤ cs.length ∧ cs.length ≤ 100 ∧ RetV (vS (List.replicate cs.length 46)) H Q
theorem ok_Bandblankrow (T : Tx K mg A) : FnOk P w K mg base CX0 4 (A.f "Band.blank_row") (A.fd "Band.blank_row") ["self"] (spBlankRow A) := by
  refine T.F_Bandblankrow.ok sc_Bandblankrow (fun vs H Q E h => ?_) (fun cdv A' outer s H vs Q E hr h => ?_)
  · obtain ⟨b, cs, kept, rfl, _⟩ := h
    rfl
  · obtain ⟨b, cs, kept, rfl, ⟨dx, cl, kd, sl, rl, ll, hb, ⟨ts, h1, h2⟩, hk⟩, c1, hc, k⟩ := h
    refine ⟨_, PSs.nox (pss_one (ps_ret (pe_call (ok_blank T) (hr.mono (by decide)) (by rfl) T.g_blank T.F_blank.kp T.b_blank .nil pass0 (pa_cons (pe_callB call_len_seq (by rfl) T.n_len PySem.boot_len (pa_cons (pe_fld (pv 0) rfl) pa_nil)) pa_nil)))) , ?_⟩
    refine s_ret (ev_call (dvs := []) (ea1 (by
      have q := ev_lenL (K := K) (ta := tFld K (tVar 0) "cell_list") (σ := L2.start n_Bandblankrow [.ref b]) (H := H) (ev_fld (ev_var rfl) hb T.c_Band T.na_cell_list fsB_cell) (sq_of h1)
      rw [List.length_map, List.length_range] at q
      exact q)) (fun H6 e6 Q q E => ⟨cs.length, rfl, c1, by omega, fun H7 e7 => q H7 e7⟩)) k
abbrev n_Bandcheckrow : List Str := ["self", "row"]
theorem sc_Bandcheckrow : FnScope n_Bandcheckrow ["self", "row"] (defScope s_Bandcheckrow) := ⟨rfl, rfl, rfl, by decide +kernel, rfl, by decide +kernel, by decide +kernel⟩
def spCheckRow (A : Ad) : Sp := fun vs H Q E => ∃ (b : Addr) (cs : Cells) (kept : List (List Nat)) (v : V) (t : String), vs = [.ref b, v] ∧ BandAt A H b cs kept ∧ cs.length ≤ 100 ∧ Pl H v t ∧ (∀ z, v = .str z → z.cps.toList.length ≤ 1000) ∧
  (isRow cs v = false → Left A H "BadRow" "row" v E) ∧ (isRow cs v = true → (¬ ∃ r ∈ kept, v = vS r) → Left A H "NotInBand" "row" v E) ∧ (isRow cs v = true → (∃ r ∈ kept, v = vS r) → RetV .non H Q)
theorem ok_Bandcheckrow (T : Tx K mg A) : FnOk P w K mg base (L2.CX P w) 4 (A.f "Band.check_row") (A.fd "Band.check_row") ["self", "row"] (spCheckRow A) := by
  refine T.F_Bandcheckrow.ok sc_Bandcheckrow (fun vs H Q E h => ?_) (fun cdv A' outer s H vs Q E hr h => ?_)
  · obtain ⟨b, cs, kept, v, t, rfl, _⟩ := h
    rfl
  · obtain ⟨b, cs, kept, v, t, rfl, ⟨dx, cl, kd, sl, rl, ll, hb, hcl, hk⟩, hc, p, hz, k1, k2, k3⟩ := h
    refine ⟨_, (pss_cons (ps_if (pt_not (pt_val (pe_call (ok_isrow T) (hr.mono (by decide)) (by rfl) T.g_isrow T.F_isrow.kp T.b_isrow .nil pass0 (pa_cons (pe_fld (pv 0) rfl) (pa_cons (pv 1) pa_nil)))))
      (pss_one (ps_raise rfl (takes_of rfl rfl rfl rfl) (pmk_oex T.x_BadRow T.i_BadRow T.t_BadRow (ok_BadRowinit T) (hr.mono (by decide)) T.b_BadRowinit .nil pass0 (by rfl) T.g_BadRow (pa_cons (pv 1) pa_nil))))
      pss_nil)
      (pss_one (ps_if (pt_cmp (pc_dnotin (hu_of hr) (pv 1) (pe_fld (pv 0) rfl)))
      (pss_one (ps_raise rfl (takes_of rfl rfl rfl rfl) (pmk_oexL T.x_NotInBand T.i_NotInBand T.t_NotInBand (ok_NotInBandinit T) (hr.mono (by decide)) T.b_NotInBandinit .nil pass0 (by rfl) T.g_NotInBand (pa_cons (pv 1) pa_nil))))
      pss_nil))) , ?_⟩
    refine q_when (b := !isRow cs v) (et_not (et_B (ev_call (dvs := []) (ea2 (ev_fld (ev_var rfl) hb T.c_Band T.na_cell_list fsB_cell) (ev_var rfl)) (fun H6 e6 Q q E => ⟨cl, cs, v, t, rfl, hcl.ex e6, hc, p.ex e6, hz, fun H7 e7 => q H7 e7⟩)))) (fun hn H1 e1 => ?_) (fun hn H1 e1 => ?_)
    · have hn' : isRow cs v = false := by simpa using hn
      exact mk_left (by decide +kernel) (ev_var rfl) ((k1 hn').ex e1)
    · have hn' : isRow cs v = true := by simpa using hn
      have hvs : ∃ z, v = .str z := by
        cases v <;> first | exact ⟨_, rfl⟩ | (exact absurd (show (false : Bool) = true from hn') (by decide))
      obtain ⟨z, rfl⟩ := hvs
      have ez : z = S z.cps.toList := (S_tl z).symm
      have em : (∃ r ∈ kept, V.str z = vS r) ↔ z.cps.toList ∈ kept := by
        constructor
        · rintro ⟨r, hr, e⟩
          rw [ez] at e
          rw [vS_inj e]
          exact hr
        · intro hr
          exact ⟨_, hr, congrArg V.str ez⟩
      refine s_when (b := !decide (z.cps.toList ∈ kept)) (et_is (et_B (ev_dni (kvs := dk kept) (k := Sum.inr z) (ev_var rfl) (ev_fld (ev_var rfl) (e1 _ _ hb) T.c_Band T.na_known_rows fsB_known) (e1 _ _ hk))) (by
        have q := dk_val kept z.cps.toList
        rw [← ez] at q
        rw [q])) (fun hm H2 e2 => ?_) (fun hm H2 e2 => ?_)
      · have hm' : z.cps.toList ∉ kept := by simpa using hm
        exact mk_left (by decide +kernel) (ev_var rfl) ((k2 hn' (fun q => hm' (em.mp q))).ex (e1.trans e2))
      · have hm' : z.cps.toList ∈ kept := by simpa using hm
        exact k3 hn' (em.mpr hm') H2 (e1.trans e2)
/-- the same where nothing is raised -/
theorem calm_fn {k : Nat} {f : Addr} {fd : FuncData} {ps : List Str} {sp sp0 : Sp} (F : FnOk P w K mg base (L2.CX P w) k f fd ps sp) (h : ∀ vs H Q E, sp0 vs H Q E → sp vs H Q (fun _ _ _ => False)) : FnOk P w K mg base CX0 k f fd ps sp0 where
  len := fun vs H Q E q => F.len vs H Q _ (h vs H Q E q)
  run := fun A' outer s H args us vs Q E hr e0 b r q => codeAny_mono (F.run A' outer s H args us vs Q _ hr e0 b r (h vs H Q E q)) fun res s' hq => by
    cases res with
    | ok v => cases v <;> exact hq
    | error e =>
      have hq' : L2.CX P w outer H s (fun _ _ _ => False) e s' := hq
      obtain ⟨_, _, _, _, _, _, _, _, _, _, _, _, hE⟩ := hq'
      exact False.elim hE
def spCheckRow0 (A : Ad) : Sp := fun vs H Q _ => ∃ (b : Addr) (cs : Cells) (kept : List (List Nat)) (r : List Nat), vs = [.ref b, vS r] ∧ BandAt A H b cs kept ∧ cs.length ≤ 100 ∧ r.length = cs.length ∧ rowB cs r = true ∧ r ∈ kept ∧ RetV .non H Q
theorem ok_Bandcheckrow0 (T : Tx K mg A) : FnOk P w K mg base CX0 4 (A.f "Band.check_row") (A.fd "Band.check_row") ["self", "row"] (spCheckRow0 A) :=
  calm_fn (ok_Bandcheckrow T) fun vs H Q E h => by
    obtain ⟨b, cs, kept, r, rfl, hb, hc, hl, hr, hm, k⟩ := h
    have hrow : isRow cs (vS r) = true := by
      show (decide (r.length = cs.length) && rowB cs r) = true
      rw [decide_eq_true hl, hr] <;> rfl
    refine ⟨b, cs, kept, vS r, "str", rfl, hb, hc, .str _, fun z hz => ?_, fun h => ?_, fun _ h => ?_, fun _ _ => k⟩
    · cases hz
      show r.length ≤ 1000
      omega
    · rw [hrow] at h
      cases h
    · exact absurd ⟨r, hm, rfl⟩ h
end
end Nt
end
section
set_option Elab.async false
set_option linter.all false
set_option maxRecDepth 100000
set_option maxHeartbeats 4000000
namespace Nt
open PySem PySem.Spec PyProof.Rows L2 Evl SX
/-! ### data -/
abbrev Prs := List (Nat × List Nat)
def prD (l : Prs) (i : Nat) : Nat × List Nat := l.getD i (0, [])
def PairsAt (H : Hp) (p : Addr) (l : Prs) : Prop := ∃ ts : Nat → Addr, H p = some (.lst ((List.range l.length).map fun i => .ref (ts i))) ∧ ∀ i, i < l.length → H (ts i) = some (.tup [.int ((prD l i).1 : Int), vS (prD l i).2])
def ntell : Prs → List Nat → Prs
  | [], _ => []
  | (m, r) :: rest, told => if 46 ∈ told then (if wit (lot r) told then ntell rest told else (m, r) :: ntell rest (uni told (lot r))) else []
theorem lot_len (a : List Nat) : (lot a).length = a.length := by
  unfold lot
  rw [List.length_map]
theorem uni_len {a b : List Nat} (h : a.length = b.length) : (uni a b).length = a.length := by
  unfold uni
  rw [List.length_zipWith]
  omega
/-- rows laid from the last to the first, while a cell is untold -/
def wrow : List (List Nat) → List Nat → List Nat
  | [], st => st
  | r :: rest, st => if 46 ∈ st then wrow rest (ov st r) else st
theorem drop_get {α : Type} {l : List α} {i : Nat} {d : α} (h : i < l.length) : l.drop i = l.getD i d :: l.drop (i + 1) := by
  rw [List.drop_eq_getElem_cons h]
  congr 1
  rw [List.getD_eq_getElem?_getD, List.getElem?_eq_getElem h] <;> rfl
def fsS (b rl : V) : List (Str × V) := putF "row_list" rl (putF "band" b [])
theorem fsS_rows {b rl : V} : (fsS b rl).lookup ("row_list" : Str) = some rl := by
  unfold fsS
  rw [lookup_putF, if_pos rfl]
theorem fsS_band {b rl : V} : (fsS b rl).lookup ("band" : Str) = some b := by
  unfold fsS
  rw [lookup_putF, if_neg (by decide +kernel), lookup_putF, if_pos rfl]
theorem fsS_no {b rl : V} {m : Str} (h1 : ¬ m = ("row_list" : Str)) (h2 : ¬ m = ("band" : Str)) : (fsS b rl).lookup m = none := by
  unfold fsS
  rw [lookup_putF, if_neg h1, lookup_putF, if_neg h2] <;> rfl
theorem fsS_len {b rl : V} : (fsS b rl).length ≤ 2 := fl1 (fl1 (fs := []) (n := 0) (Nat.le_refl 0))
theorem fsS_put {b rl rl' : V} : putF "row_list" rl' (fsS b rl) = fsS b rl' := by
  have e : ∀ x : V, fsS b x = [(("band" : Str), b), (("row_list" : Str), x)] := fun x => by
    show (if ("band" : Str) = "row_list" then [(("band" : Str), x)] else (("band" : Str), b) :: putF "row_list" x []) = _
    rw [if_neg (by decide +kernel)]
    rfl
  rw [e, e]
  show (if ("band" : Str) = "row_list" then [(("band" : Str), rl'), (("row_list" : Str), rl)] else (("band" : Str), b) :: (if ("row_list" : Str) = "row_list" then [(("row_list" : Str), rl')] else (("row_list" : Str), rl) :: putF "row_list" rl' [])) = _
  rw [if_neg (by decide +kernel), if_pos rfl]
/-- a stream at s: its band's cells and rows, its own rows -/
structure StrmOk (cs : Cells) (kept rows : List (List Nat)) : Prop where
  one : 1 ≤ cs.length
  few : cs.length ≤ 12
  row : ∀ r ∈ rows, rowB cs r = true ∧ r ∈ kept
def StreamAt (A : Ad) (H : Hp) (s : Addr) (cs : Cells) (kept rows : List (List Nat)) : Prop := ∃ (dx b rl : Addr), H s = some (.ins (A.C "Stream") dx (fsS (.ref b) (.ref rl))) ∧ BandAt A H b cs kept ∧ RowsAt H rl rows cs.length ∧ StrmOk cs kept rows
theorem StreamAt.ex {A : Ad} {H H' : Hp} {s : Addr} {cs : Cells} {kept rows : List (List Nat)} (h : StreamAt A H s cs kept rows) (e : Ex H H') : StreamAt A H' s cs kept rows := by
  obtain ⟨dx, b, rl, h1, h2, h3, h4⟩ := h
  exact ⟨dx, b, rl, e _ _ h1, h2.ex e, h3.ex e, h4⟩
section
variable {P : Program} {w : World} {K : PySem.W.Frag} {mg : Str → Option Value} {base : Heap} {A : Ad}
abbrev n_newesttellers : List Str := ["pairs", "told", "tellers", "moment", "row", "lot"]
theorem sc_newesttellers : FnScope n_newesttellers ["pairs", "told"] (defScope s_newesttellers) := ⟨rfl, rfl, rfl, by decide +kernel, rfl, by decide +kernel, by decide +kernel⟩
def spNewestTellers : Sp := fun vs H Q _ => ∃ (p : Addr) (l : Prs) (told : List Nat), vs = [.ref p, vS told] ∧ PairsAt H p l ∧ (∀ x ∈ l, x.2.length = told.length) ∧ told.length ≤ 100 ∧ l.length ≤ 1000 ∧ ∀ q H2, H q = none → Ex H H2 → PairsAt H2 q (ntell l told) → Q (.ref q) H2
theorem ok_newesttellers (T : Tx K mg A) : FnOk P w K mg base CX0 4 (A.f "newest_tellers") (A.fd "newest_tellers") ["pairs", "told"] spNewestTellers := by
  refine T.F_newesttellers.ok sc_newesttellers (fun vs H Q E h => ?_) (fun cdv A' outer s H vs Q E hr h => ?_)
  · obtain ⟨p, l, told, rfl, _⟩ := h
    rfl
  · obtain ⟨p, l, told0, rfl, ⟨ts, h1, h2⟩, hw, h100, hl, k⟩ := h
    refine ⟨_, PSs.nox (pss_cons (ps_set (i := 2) sc_newesttellers.nd rfl (Or.inl rfl) (pe_lst pa_nil))
      (pss_cons (ps_for PassesOwn.never rfl (pi_list (pv 0)) (pg_tup rfl (pgs_cons (pg_name (i := 3) sc_newesttellers.nd rfl (Or.inl rfl) (Or.inr rfl)) (pgs_cons (pg_name (i := 4) sc_newesttellers.nd rfl (Or.inl rfl) (Or.inr rfl)) pgs_nil)))
      (pss_cons (ps_if (pt_cmpR op_notIn_sign pe_str (pv 1) (by rfl))
      (pss_one ps_break)
      pss_nil)
      (pss_cons (ps_set (i := 5) sc_newesttellers.nd rfl (Or.inl rfl) (pe_call (ok_lotof T) (hr.mono (by decide)) (by rfl) T.g_lotof T.F_lotof.kp T.b_lotof .nil pass0 (pa_cons (pv 4) pa_nil)))
      (pss_one (ps_if (pt_not (pt_val (pe_call (ok_within T) (hr.mono (by decide)) (by rfl) T.g_within T.F_within.kp T.b_within .nil pass0 (pa_cons (pv 5) (pa_cons (pv 1) pa_nil)))))
      (pss_cons (ps_expr (pe_bm PySem.F.plainAttrs_list PySem.F.slot_list_append PySem.F.type_list_append mt_append (pv 2) (pa_cons (pe_tup (pa_cons (pv 3) (pa_cons (pv 4) pa_nil))) pa_nil)))
      (pss_one (ps_set (i := 1) sc_newesttellers.nd rfl (Or.inl rfl) (pe_call (ok_union T) (hr.mono (by decide)) (by rfl) T.g_union T.F_union.kp T.b_union .nil pass0 (pa_cons (pv 1) (pa_cons (pv 5) pa_nil))))))
      pss_nil)))))
      (pss_one (ps_ret (pv 2))))) , ?_⟩
    refine q_asgL (el_lst ea_nil (by decide)) fun q H1 nq e1 hq => ?_
    have fin : ∀ (W1 H' : Hp) (told : List Nat) (acc : List Addr) (done : Prs), Ex H H' → H' q = some (.lst (acc.map V.ref)) → acc.length = done.length → (∀ j, j < done.length → H' (acc.getD j 0) = some (.tup [.int ((prD done j).1 : Int), vS (prD done j).2])) → done = ntell l told0 → ∀ o1 o2 o3,
        tRet (tVar 2) { nx := fun x H' => Q V.non H', rt := Q } [some (.ref p), some (vS told), some (.ref q), o1, o2, o3] H' := fun W1 H' told acc done e hq' ha hd hn o1 o2 o3 => by
      refine s_ret (ev_var rfl) fun H2 e2 => k q H2 nq (e.trans e2) ?_
      rw [← hn]
      refine ⟨fun i => acc.getD i 0, ?_, fun i hi => e2 _ _ (hd i hi)⟩
      rw [← ha, range_map (fun a => V.ref a) acc 0]
      exact e2 _ _ hq'
    refine q_forF (W := H) (n := l.length) (τ := fun i σ => (σ.set 3 (some (.int ((prD l i).1 : Int)))).set 4 (some (vS (prD l i).2))) (EvI.of fun H2 e2 R r => ⟨_, rfl, p, rfl, ⟨_, sq_of (e2 _ _ h1)⟩, r _ H2 (Ex.refl H2) (fd_pairs (sq_of h1) h2)⟩) e1
      (fun W1 i σ' H' => ∃ (told : List Nat) (acc : List Addr) (done : Prs) (o1 o2 o3 : Option V), σ' = [some (.ref p), some (vS told), some (.ref q), o1, o2, o3] ∧ W1 q = none ∧ Ex W1 H' ∧ H' q = some (.lst (acc.map V.ref)) ∧ acc.length = done.length ∧ done.length ≤ i ∧
        (∀ j, j < done.length → H' (acc.getD j 0) = some (.tup [.int ((prD done j).1 : Int), vS (prD done j).2])) ∧ told.length = told0.length ∧ done ++ ntell (l.drop i) told = ntell l told0)
      (fun W1 H2 e2 eW ew hW => ⟨told0, [], [], none, none, none, rfl, by rw [hW q _ hq]; exact nq, ew, e2 _ _ hq, rfl, Nat.le_refl _, fun j hj => absurd hj (Nat.not_lt_zero _), rfl, rfl⟩)
      (fun W1 i σ' H' h => by
        obtain ⟨_, _, _, _, _, _, _, _, h, _⟩ := h
        exact h) (fun W1 i σ' H' eW hi h H2 e2 => ?_) (fun W1 σ' H' eW h => ?_)
    · obtain ⟨told, acc, done, o1, o2, o3, rfl, w1, q1, q2, q3, q4, q5, q6, q7⟩ := h
      have hmem : prD l i ∈ l := by
        unfold prD
        rw [List.getD_eq_getElem?_getD, List.getElem?_eq_getElem hi]
        exact List.getElem_mem hi
      have hwi := hw _ hmem
      rw [drop_get (d := ((0, []) : Nat × List Nat)) hi] at q7
      have q7' : done ++ (if 46 ∈ told then (if wit (lot (prD l i).2) told then ntell (l.drop (i + 1)) told else ((prD l i).1, (prD l i).2) :: ntell (l.drop (i + 1)) (uni told (lot (prD l i).2))) else []) = ntell l told0 := q7
      refine q_when (b := !decide (46 ∈ told)) (et_test (ev_op (ev_lit (l := [46]) rfl) (ev_var rfl) rv_niS)) (fun hb H3 e3 => ?_) (fun hb H3 e3 => ?_)
      · have hn : 46 ∉ told := by simpa using hb
        rw [if_neg hn, List.append_nil] at q7'
        have e23 := e2.trans e3
        exact fin W1 H3 told acc done ((eW.trans q1).trans e23) (e23 _ _ q2) q3 (fun j hj => e23 _ _ (q5 j hj)) q7' _ _ _
      · have hn : 46 ∈ told := by simpa using hb
        rw [if_pos hn] at q7'
        refine q_asg (ev_call (dvs := []) (ea1 (ev_var rfl)) (fun H6 e6 Q q E => ⟨(prD l i).2, rfl, by omega, fun H7 e7 => q H7 e7⟩)) fun H4 e4 => ?_
        have e24 := (e2.trans e3).trans e4
        refine s_when (b := !wit (lot (prD l i).2) told) (et_not (et_B (ev_call (dvs := []) (ea2 (ev_var rfl) (ev_var rfl)) (fun H6 e6 Q q E => ⟨lot (prD l i).2, told, rfl, by rw [lot_len]; omega, by omega, fun H7 e7 => q H7 e7⟩)))) (fun hc H5 e5 => ?_) (fun hc H5 e5 => ?_)
        · have hc' : wit (lot (prD l i).2) told = false := by simpa using hc
          rw [hc', if_neg (by decide)] at q7'
          have e25 := e24.trans e5
          refine q_appU (l := q) (xs := acc.map V.ref) (e25 _ _ q2) (ev_var rfl) (eu_tup (ea2 (ev_var rfl) (ev_var rfl)) (by simp)) (by rw [List.length_map]; omega) fun t H6 nt e6 ht => ?_
          have hqt : q ≠ t := ne_of_none (e25 _ _ q2) nt
          have g6 : Ex W1 (upd H6 q (.lst (acc.map V.ref ++ [.ref t]))) := Ex.mut (q1.trans (e25.trans e6)) w1
          refine s_asg (ev_call (dvs := []) (ea2 (ev_var rfl) (ev_var rfl)) (fun H6 e6 Q q E => ⟨told, lot (prD l i).2, rfl, by rw [lot_len]; omega, by rw [lot_len]; omega, fun H7 e7 => q H7 e7⟩)) fun H7 e7 => ?_
          refine ⟨uni told (lot (prD l i).2), acc ++ [t], done ++ [prD l i], _, _, _, rfl, w1, g6.trans e7, ?_, by rw [List.length_append, List.length_append, q3] <;> rfl, by rw [List.length_append, List.length_singleton]; omega, fun j hj => ?_, by rw [uni_len (by rw [lot_len]; omega)]; exact q6, ?_⟩
          · refine e7 _ _ ?_
            rw [upd_same, List.map_append]
            rfl
          · rw [List.length_append, List.length_singleton] at hj
            by_cases hj2 : j < done.length
            · have e1 : (acc ++ [t]).getD j 0 = acc.getD j 0 := by
                rw [List.getD_eq_getElem?_getD, List.getElem?_append_left (by omega), ← List.getD_eq_getElem?_getD]
              have e2 : prD (done ++ [prD l i]) j = prD done j := by
                unfold prD
                rw [List.getD_eq_getElem?_getD, List.getElem?_append_left hj2, ← List.getD_eq_getElem?_getD]
              rw [e1, e2]
              have hne : acc.getD j 0 ≠ q := ne_of (q5 j hj2) q2 (by intro z; cases z)
              refine e7 _ _ ?_
              rw [upd_ne hne]
              exact (e25.trans e6) _ _ (q5 j hj2)
            · have hj3 : j = done.length := by omega
              subst hj3
              have e1 : (acc ++ [t]).getD done.length 0 = t := by
                rw [← q3, List.getD_eq_getElem?_getD, List.getElem?_append_right (Nat.le_refl _)]
                simp
              have e2 : prD (done ++ [prD l i]) done.length = prD l i := by
                unfold prD
                rw [List.getD_eq_getElem?_getD, List.getElem?_append_right (Nat.le_refl _)]
                simp
              rw [e1, e2]
              refine e7 _ _ ?_
              rw [upd_ne hqt.symm]
              exact ht
          · rw [List.append_assoc]
            exact q7'
        · have hc' : wit (lot (prD l i).2) told = true := by simpa using hc
          rw [hc', if_pos rfl] at q7'
          have e25 := e24.trans e5
          exact ⟨told, acc, done, _, _, _, rfl, w1, q1.trans e25, e25 _ _ q2, q3, by omega, fun j hj => e25 _ _ (q5 j hj), q6, q7'⟩
    · obtain ⟨told, acc, done, o1, o2, o3, rfl, w1, q1, q2, q3, q4, q5, q6, q7⟩ := h
      rw [List.drop_length] at q7
      have q7' : done ++ [] = ntell l told0 := q7
      rw [List.append_nil] at q7'
      exact fin W1 H' told acc done (eW.trans q1) q2 q3 q5 q7' o1 o2 o3
end
end Nt
end
section
set_option Elab.async false
set_option linter.all false
set_option maxRecDepth 100000
set_option maxHeartbeats 4000000
namespace Nt
open PySem PySem.Spec PyProof.Rows L2 Evl SX
/-! ### == of lists of flat things -/
theorem can_all : ∀ ds : List PyData, (∀ d ∈ ds, d.canLay0 = true) → PyData.canLayAll0 ds = true
  | [], _ => by simp [PyData.canLayAll0]
  | d :: ds, h => by
    simp only [PyData.canLayAll0, Bool.and_eq_true]
    exact ⟨h d (List.mem_cons_self ..), can_all ds fun x hx => h x (List.mem_cons_of_mem _ hx)⟩
theorem dep_all : ∀ (ds : List PyData) (n : Nat), (∀ d ∈ ds, d.depth ≤ n) → PyData.depthAll ds ≤ n
  | [], n, _ => by simp [PyData.depthAll]
  | d :: ds, n, h => by
    simp only [PyData.depthAll]
    exact Nat.max_le.mpr ⟨h d (List.mem_cons_self ..), dep_all ds n fun x hx => h x (List.mem_cons_of_mem _ hx)⟩
theorem shaped_of {d : PyData} (h : d.canLay0 = true) (h2 : d.depth ≤ 64) : SeqAt.shaped d = true := by
  unfold SeqAt.shaped
  rw [h, decide_eq_true h2] <;> rfl
theorem can_list {ds : List PyData} (h : ∀ d ∈ ds, d.canLay0 = true) : (PyData.list ds).canLay0 = true := by
  simp only [PyData.canLay0]
  exact can_all ds h
theorem dep_list {ds : List PyData} {n : Nat} (h : ∀ d ∈ ds, d.depth ≤ n) : (PyData.list ds).depth ≤ n + 1 := by
  simp only [PyData.depth]
  exact Nat.succ_le_succ (dep_all ds n h)
theorem can_str {x : List Nat} (h : ∀ c ∈ x, c < 1114112) : (PyData.str (S x)).canLay0 = true := by
  simp only [PyData.canLay0]
  unfold PyData.strOk
  rw [← Array.all_toList, List.all_eq_true]
  exact fun c hc => decide_eq_true (h c hc)
def dS (xs : List (List Nat)) : List PyData := xs.map fun x => .str (S x)
def dI (xs : List Int) : List PyData := xs.map .int
theorem sh_S {xs : List (List Nat)} (h : ∀ x ∈ xs, ∀ c ∈ x, c < 1114112) : SeqAt.shaped (.list (dS xs)) = true := by
  refine shaped_of (can_list fun d hd => ?_) (Nat.le_trans (dep_list (n := 0) fun d hd => ?_) (by decide))
  · obtain ⟨x, hx, rfl⟩ := List.mem_map.mp hd
    exact can_str (h x hx)
  · obtain ⟨x, hx, rfl⟩ := List.mem_map.mp hd
    simp [PyData.depth]
theorem sh_I {xs : List Int} : SeqAt.shaped (.list (dI xs)) = true := by
  refine shaped_of (can_list fun d hd => ?_) (Nat.le_trans (dep_list (n := 0) fun d hd => ?_) (by decide))
  · obtain ⟨x, hx, rfl⟩ := List.mem_map.mp hd
    simp [PyData.canLay0]
  · obtain ⟨x, hx, rfl⟩ := List.mem_map.mp hd
    simp [PyData.depth]
theorem dp_S {K : PySem.W.Frag} {H : Hp} : ∀ xs : List (List Nat), DpAll K H (xs.map vS) (dS xs)
  | [] => .nil
  | x :: xs => .cons (.str _) (dp_S xs)
theorem dp_I {K : PySem.W.Frag} {H : Hp} : ∀ xs : List Int, DpAll K H (xs.map V.int) (dI xs)
  | [] => .nil
  | x :: xs => .cons (.int _) (dp_I xs)
theorem eqv_nil (ds : List PyData) : PyData.eqv (.list ds) (.list []) = ds.isEmpty := by
  cases ds <;> simp [PyData.eqv, PyData.eqvAll]
section
variable {K : PySem.W.Frag} {σ : L2.St} {W H H' : Hp} {ta tb tc te tl td ty : TE} {t u : TT} {x y z v w' : V} {D : Ends} {tu tz : TS}
theorem ev_eqNil {p : Addr} {xs : List V} {ds : List PyData} (h : Ev ta σ H (.ref p)) (hp : H p = some (.lst xs)) (hd : ∀ H, DpAll K H xs ds) (sh : SeqAt.shaped (.list ds) = true) : Ev (tOp (rEqD K) ta (tLst tNil)) σ H (.bl ds.isEmpty) := fun H1 e Q q =>
  h H1 e _ fun H2 e2 => ⟨by decide, fun l hl => ⟨.list ds, .list [], .lst (sq_of ((e.trans e2).trans (Ex.new hl) _ _ hp)) (hd _), .lst (sq_of upd_same) .nil, sh, by decide, by rw [eqv_nil]; exact q _ (e2.trans (Ex.new hl))⟩⟩
theorem ev_neNil {p : Addr} {xs : List V} {ds : List PyData} (h : Ev ta σ H (.ref p)) (hp : H p = some (.lst xs)) (hd : ∀ H, DpAll K H xs ds) (sh : SeqAt.shaped (.list ds) = true) : Ev (tOp (rNeD K) ta (tLst tNil)) σ H (.bl (!ds.isEmpty)) := fun H1 e Q q =>
  h H1 e _ fun H2 e2 => ⟨by decide, fun l hl => ⟨.list ds, .list [], .lst (sq_of ((e.trans e2).trans (Ex.new hl) _ _ hp)) (hd _), .lst (sq_of upd_same) .nil, sh, by decide, by rw [eqv_nil]; exact q _ (e2.trans (Ex.new hl))⟩⟩
theorem el_rev {xs : List V} (h : EvL te σ H xs) : EvL (tRevL K te) σ H xs.reverse := fun H1 e Q q =>
  h H1 e _ fun p H2 hp e2 h2 => ⟨p, xs, rfl, sq_of h2, fun l hl => q l _ (fresh_back e2 hl) (e2.trans (Ex.new hl)) upd_same⟩
end
theorem rowB_asc {cs : Cells} {r : List Nat} (hl : r.length = cs.length) (h : rowB cs r = true) : ∀ c ∈ r, c ∈ sg := fun c hc => by
  obtain ⟨i, hi, rfl⟩ := List.getElem_of_mem hc
  have q := List.all_eq_true.mp h i (List.mem_range.mpr (by omega))
  have q := of_decide_eq_true q
  rw [List.getD_eq_getElem?_getD, List.getElem?_eq_getElem hi] at q
  exact List.mem_of_mem_take q
theorem sg_lt {c : Nat} (h : c ∈ sg) : c < 1114112 := by
  unfold sg at h
  simp only [List.mem_cons, List.not_mem_nil, or_false] at h
  omega
theorem StrmOk.asc {cs : Cells} {kept rows : List (List Nat)} {H : Hp} {a : Addr} (s : StrmOk cs kept rows) (R : RowsAt H a rows cs.length) : ∀ x ∈ rows, ∀ c ∈ x, c < 1114112 := fun x hx c hc => sg_lt (rowB_asc (R.wid x hx) (s.row x hx).1 c hc)
section
variable {P : Program} {w : World} {K : PySem.W.Frag} {mg : Str → Option Value} {base : Heap} {A : Ad}
abbrev n_Streaminit : List Str := ["self", "band", "rows", "row"]
theorem sc_Streaminit : FnScope n_Streaminit ["self", "band", "rows"] (defScope s_Streaminit) := ⟨rfl, rfl, rfl, by decide +kernel, rfl, by decide +kernel, by decide +kernel⟩
def spStreamInit (A : Ad) : Sp := fun vs H Q _ => ∃ (s dx b a : Addr) (cs : Cells) (kept rows : List (List Nat)), vs = [.ref s, .ref b, .ref a] ∧ H s = some (.ins (A.C "Stream") dx []) ∧ BandAt A H b cs kept ∧ RowsAt H a rows cs.length ∧ StrmOk cs kept rows ∧ rows.length ≤ 400 ∧
  ∀ H2, Ex (hid s H) H2 → StreamAt A H2 s cs kept rows → Q .non H2
theorem hid_band {A : Ad} {H : Hp} {s b : Addr} {cs : Cells} {kept : List (List Nat)} (h : BandAt A H b cs kept) (hs : ∀ dx fs, H s = some (.ins (A.C "Band") dx fs) → b ≠ s) (hl : ∃ dx fs C, H s = some (.ins C dx fs)) : BandAt A (hid s H) b cs kept := by
  obtain ⟨dx, cl, kd, sl, rl, ll, h1, ⟨ts, h2, h3⟩, h4⟩ := h
  obtain ⟨dx', fs', C', hs'⟩ := hl
  have n1 : b ≠ s := fun e => hs _ _ (e ▸ h1) e
  refine ⟨dx, cl, kd, sl, rl, ll, hid_at h1 n1, ⟨ts, hid_at h2 (ne_of h2 hs' (by intro z; cases z)), fun i hi => hid_at (h3 i hi) (ne_of (h3 i hi) hs' (by intro z; cases z))⟩, hid_at h4 (ne_of h4 hs' (by intro z; cases z))⟩
theorem ok_Streaminit (T : Tx K mg A) : FnOk P w K mg base CX0 6 (A.f "Stream.__init__") (A.fd "Stream.__init__") ["self", "band", "rows"] (spStreamInit A) := by
  refine T.F_Streaminit.ok sc_Streaminit (fun vs H Q E h => ?_) (fun cdv A' outer s' H vs Q E hr h => ?_)
  · obtain ⟨s, dx, b, a, cs, kept, rows, rfl, _⟩ := h
    rfl
  · obtain ⟨s, dx, b, a, cs, kept, rows, rfl, hs, hb, R, ok, h400, k⟩ := h
    have h12 := ok.few
    refine ⟨_, PSs.nox (pss_cons (ps_if (pt_cmpR op_gt (pe_callB call_len_seq (by rfl) T.n_len PySem.boot_len (pa_cons (pv 2) pa_nil)) (pe_glob (v := .int 400) (by rfl) T.g_MOST_MOMENTS.choose_spec ⟨_, rfl⟩) (nomark _))
      (pss_one ps_never)
      pss_nil)
      (pss_cons (ps_for PassesOwn.never rfl (pi_list (pv 2)) (pg_name (i := 3) sc_Streaminit.nd rfl (Or.inl rfl) (Or.inr rfl))
      (pss_one (ps_expr (pe_meth (pv 1) T.c_Band T.m_Bandcheckrow (ok_Bandcheckrow0 T) (hr.mono (by decide)) T.b_Bandcheckrow .nil pass0 (pa_cons (pv 3) pa_nil)))))
      (pss_cons (ps_fld (pv 0) (pv 1) rfl)
      (pss_one (ps_fld (pv 0) (pe_callTy call_list_of (by rfl) T.n_list (by decide +kernel) (pa_cons (pv 2) pa_nil)) rfl))))) , ?_⟩
    refine q_skip (et_is (et_test (ev_op (ev_lenL (ev_var rfl) (sq_of R.at_)) ev_c rv_gt)) (by rw [List.length_map]; exact decide_eq_false (by omega))) fun H1 e1 => ?_
    refine q_forF (W := H) (n := rows.length) (by
        have q := ei_list (K := K) (tl := tVar 2) (σ := L2.start n_Streaminit [.ref s, .ref b, .ref a]) (j := 3) (it := fun i => vS (rows.getD i [])) (ev_var rfl) (sq_of R.at_) (fun i hi => R.get (by rw [List.length_map] at hi; exact hi))
        rw [List.length_map] at q
        exact q) e1
      (fun W1 i σ' H' => Ex W1 H' ∧ ∃ o, σ' = [some (.ref s), some (.ref b), some (.ref a), o])
      (fun W1 H3 e3 eW ew hW => ⟨ew, none, rfl⟩) (fun W1 i σ' H' h => h.1) (fun W1 i σ' H' eW hi h H3 e3 => ?_) (fun W1 σ' H' eW h => ?_)
    · obtain ⟨g1, o, rfl⟩ := h
      have eH : Ex H H3 := (eW.trans g1).trans e3
      have hm : rows.getD i [] ∈ rows := by
        rw [List.getD_eq_getElem?_getD, List.getElem?_eq_getElem hi]
        exact List.getElem_mem hi
      obtain ⟨dxb, cl, kd, sl, rl, ll, hb1, hb2⟩ := id hb
      exact s_drop (ev_meth (dvs := []) (vs := [vS (rows.getD i [])]) (ev_var rfl) (eH _ _ hb1) (fsB_no (Or.inr (Or.inr rfl))) (ea1 (ev_var rfl)) (fun H6 e6 Q q E => ⟨b, cs, kept, rows.getD i [], rfl, hb.ex (eH.trans e6), by omega, R.len hi, (ok.row _ hm).1, (ok.row _ hm).2, fun H7 e7 => q H7 e7⟩)) fun H4 e4 => ⟨(g1.trans e3).trans e4, _, rfl⟩
    · obtain ⟨g1, o, rfl⟩ := h
      have e0 : Ex H H' := eW.trans g1
      have na : a ≠ s := ne_of R.at_ hs (by intro z; cases z)
      have nb : b ≠ s := by
        obtain ⟨dxb, cl, kd, sl, rl, ll, hb1, hb2⟩ := hb
        intro e
        rw [e, hs] at hb1
        have h3 := (HO.ins.inj (Option.some.inj hb1)).2.2
        have h4 := fsB_cell (cl := .ref cl) (sl := sl) (rl := rl) (kr := .ref kd) (ll := ll)
        rw [← h3] at h4
        cases h4
      have hbW := hid_band hb (fun _ _ _ => nb) ⟨_, _, _, hs⟩
      refine q_fld (ev_var rfl) (ev_var rfl) (e0 _ _ hs) T.c_Stream T.na_band (by decide) fun H4 e4 => ?_
      have g4 : Ex (hid s H) (upd H4 s (.ins (A.C "Stream") dx (putF "band" (.ref b) []))) := Ex.mut ((hid_ex s H).trans (e0.trans e4)) (hid_none s H)
      refine s_fldL (el_listOf (ev_var rfl) (sq_of (g4 _ _ (hid_at R.at_ na)))) (ev_var rfl) upd_same T.c_Stream T.na_row_listS (Nat.lt_of_le_of_lt (fl1 (fs := []) (n := 0) (Nat.le_refl 0)) (by decide)) fun l H5 nl e5 hl => ?_
      have nls : s ≠ l := ne_of_none upd_same nl
      have g5 : Ex (hid s H) (upd H5 s (.ins (A.C "Stream") dx (fsS (.ref b) (.ref l)))) := Ex.mut (g4.trans e5) (hid_none s H)
      exact k _ g5 ⟨dx, b, l, upd_same, hbW.ex g5, ⟨by rw [upd_ne nls.symm]; exact hl, R.wid, R.few, R.nar⟩, ok⟩
abbrev n_Streamrows : List Str := ["self"]
theorem sc_Streamrows : FnScope n_Streamrows ["self"] (defScope s_Streamrows) := ⟨rfl, rfl, rfl, by decide +kernel, rfl, by decide +kernel, by decide +kernel⟩
def spStreamRows (A : Ad) : Sp := fun vs H Q _ => ∃ (s : Addr) (cs : Cells) (kept rows : List (List Nat)), vs = [.ref s] ∧ StreamAt A H s cs kept rows ∧ RetL (rows.map vS) H Q
theorem ok_Streamrows (T : Tx K mg A) : FnOk P w K mg base CX0 2 (A.f "Stream.rows") (A.fd "Stream.rows") ["self"] (spStreamRows A) := by
  refine T.F_Streamrows.ok sc_Streamrows (fun vs H Q E h => ?_) (fun cdv A' outer s' H vs Q E hr h => ?_)
  · obtain ⟨s, cs, kept, rows, rfl, _⟩ := h
    rfl
  · obtain ⟨s, cs, kept, rows, rfl, ⟨dx, b, rl, hs, hb, R, ok⟩, k⟩ := h
    refine ⟨_, PSs.nox (pss_one (ps_ret (pe_callTy call_list_of (by rfl) T.n_list (by decide +kernel) (pa_cons (pe_fld (pv 0) rfl) pa_nil)))) , ?_⟩
    exact s_retL (el_listOf (ev_fld (ev_var rfl) hs T.c_Stream T.na_row_listS fsS_rows) (sq_of R.at_)) k
abbrev n_Streamlen : List Str := ["self"]
theorem sc_Streamlen : FnScope n_Streamlen ["self"] (defScope s_Streamlen) := ⟨rfl, rfl, rfl, by decide +kernel, rfl, by decide +kernel, by decide +kernel⟩
def spStreamLen (A : Ad) : Sp := fun vs H Q _ => ∃ (s : Addr) (cs : Cells) (kept rows : List (List Nat)), vs = [.ref s] ∧ StreamAt A H s cs kept rows ∧ RetV (.int (rows.length : Int)) H Q
theorem ok_Streamlen (T : Tx K mg A) : FnOk P w K mg base CX0 2 (A.f "Stream.__len__") (A.fd "Stream.__len__") ["self"] (spStreamLen A) := by
  refine T.F_Streamlen.ok sc_Streamlen (fun vs H Q E h => ?_) (fun cdv A' outer s' H vs Q E hr h => ?_)
  · obtain ⟨s, cs, kept, rows, rfl, _⟩ := h
    rfl
  · obtain ⟨s, cs, kept, rows, rfl, ⟨dx, b, rl, hs, hb, R, ok⟩, k⟩ := h
    refine ⟨_, PSs.nox (pss_one (ps_ret (pe_callB call_len_seq (by rfl) T.n_len PySem.boot_len (pa_cons (pe_fld (pv 0) rfl) pa_nil)))) , ?_⟩
    exact s_ret (ev_is (ev_lenL (ev_fld (ev_var rfl) hs T.c_Stream T.na_row_listS fsS_rows) (sq_of R.at_)) (by rw [List.length_map])) k
abbrev n_Streambool : List Str := ["self"]
theorem sc_Streambool : FnScope n_Streambool ["self"] (defScope s_Streambool) := ⟨rfl, rfl, rfl, by decide +kernel, rfl, by decide +kernel, by decide +kernel⟩
def spStreamBool : Sp := fun vs H Q _ => ∃ s : Addr, vs = [.ref s] ∧ RetV (.bl true) H Q
theorem ok_Streambool (T : Tx K mg A) : FnOk P w K mg base CX0 2 (A.f "Stream.__bool__") (A.fd "Stream.__bool__") ["self"] spStreamBool := by
  refine T.F_Streambool.ok sc_Streambool (fun vs H Q E h => ?_) (fun cdv A' outer s' H vs Q E hr h => ?_)
  · obtain ⟨s, rfl, _⟩ := h
    rfl
  · obtain ⟨s, rfl, k⟩ := h
    refine ⟨_, PSs.nox (pss_one (ps_ret pe_bl)) , ?_⟩
    exact s_ret ev_c k
/-- the repr of a stream -/
def reprS (n : Nat) : Str := ((Str.empty ++ ("Stream(" : Str)) ++ Str.ofString (toString (n : Int))) ++ (" moments)" : Str)
theorem cat_len (a b : Str) : (a ++ b).length = a.length + b.length := by
  show (a.cps ++ b.cps).size = a.cps.size + b.cps.size
  exact Array.size_append
theorem ts_len {n : Nat} (h : n ≤ 1000) : (Str.ofString (toString (n : Int))).length ≤ 5 ∧ ((n : Int)).natAbs.log2 < 1920 := by
  have h1 : ((n : Int)).natAbs = n := by omega
  constructor
  · rw [PySem.ofString_length]
    exact int_text_length_le10 (k := 4) (by decide) (by rw [h1]; omega)
  · rw [h1]
    by_cases h0 : n = 0
    · subst h0
      decide
    · have := (Nat.log2_lt h0 (k := 10)).mpr (by omega)
      omega
theorem ev_repr {σ : L2.St} {H : Hp} {te : TE} {n : Nat} (h : Ev te σ H (.int (n : Int))) (hn : n ≤ 1000) : Ev (fun σ H Q => tJs [tC (.str "Stream("), tFmt te, tC (.str " moments)")] Str.empty σ H fun out H1 => Q (.str out) H1) σ H (.str (reprS n)) := fun H1 e Q q => by
  obtain ⟨h1, h2⟩ := ts_len hn
  have l1 : (Str.empty ++ ("Stream(" : Str)).length = 7 := by decide +kernel
  have l2 : (" moments)" : Str).length = 9 := by decide +kernel
  refine ⟨"Stream(", rfl, by rw [l1]; exact sz_of (by decide), ?_⟩
  refine h H1 e _ fun H2 e2 => Or.inr ⟨(n : Int), rfl, h2, ⟨_, rfl, ?_, " moments)", rfl, ?_, q H2 e2⟩⟩
  · rw [cat_len, l1]
    exact sz_of (by omega)
  · rw [cat_len, cat_len, l1, l2]
    exact sz_of (by omega)
abbrev n_Streamrepr : List Str := ["self"]
theorem sc_Streamrepr : FnScope n_Streamrepr ["self"] (defScope s_Streamrepr) := ⟨rfl, rfl, rfl, by decide +kernel, rfl, by decide +kernel, by decide +kernel⟩
def spStreamRepr (A : Ad) : Sp := fun vs H Q _ => ∃ (s : Addr) (cs : Cells) (kept rows : List (List Nat)), vs = [.ref s] ∧ StreamAt A H s cs kept rows ∧ RetV (.str (reprS rows.length)) H Q
theorem ok_Streamrepr (T : Tx K mg A) : FnOk P w K mg base CX0 2 (A.f "Stream.__repr__") (A.fd "Stream.__repr__") ["self"] (spStreamRepr A) := by
  refine T.F_Streamrepr.ok sc_Streamrepr (fun vs H Q E h => ?_) (fun cdv A' outer s' H vs Q E hr h => ?_)
  · obtain ⟨s, cs, kept, rows, rfl, _⟩ := h
    rfl
  · obtain ⟨s, cs, kept, rows, rfl, ⟨dx, b, rl, hs, hb, R, ok⟩, k⟩ := h
    refine ⟨_, PSs.nox (pss_one (ps_ret (pe_joined (.cons pe_str (.cons (pe_fmt (pe_callB call_len_seq (by rfl) T.n_len PySem.boot_len (pa_cons (pe_fld (pv 0) rfl) pa_nil))) (.cons pe_str .nil)))))) , ?_⟩
    exact s_ret (ev_repr (ev_is (ev_lenL (ev_fld (ev_var rfl) hs T.c_Stream T.na_row_listS fsS_rows) (sq_of R.at_)) (by rw [List.length_map])) R.few) k
abbrev n_Streamcheckmoment : List Str := ["self", "moment"]
theorem sc_Streamcheckmoment : FnScope n_Streamcheckmoment ["self", "moment"] (defScope s_Streamcheckmoment) := ⟨rfl, rfl, rfl, by decide +kernel, rfl, by decide +kernel, by decide +kernel⟩
def spCheckMoment (A : Ad) : Sp := fun vs H Q _ => ∃ (s : Addr) (cs : Cells) (kept rows : List (List Nat)) (m : Nat), vs = [.ref s, .int (m : Int)] ∧ StreamAt A H s cs kept rows ∧ 1 ≤ m ∧ m ≤ rows.length ∧ RetV .non H Q
theorem ok_Streamcheckmoment (T : Tx K mg A) : FnOk P w K mg base CX0 4 (A.f "Stream.check_moment") (A.fd "Stream.check_moment") ["self", "moment"] (spCheckMoment A) := by
  refine T.F_Streamcheckmoment.ok sc_Streamcheckmoment (fun vs H Q E h => ?_) (fun cdv A' outer s' H vs Q E hr h => ?_)
  · obtain ⟨s, cs, kept, rows, m, rfl, _⟩ := h
    rfl
  · obtain ⟨s, cs, kept, rows, m, rfl, ⟨dx, b, rl, hs, hb, R, ok⟩, h1, h2, k⟩ := h
    refine ⟨_, PSs.nox (pss_one (ps_if (pt_not (pt_val (pe_call (ok_isnumber T) (hr.mono (by decide)) (by rfl) T.g_isnumber T.F_isnumber.kp T.b_isnumber .nil pass0 (pa_cons (pv 1) (pa_cons pe_int (pa_cons (pe_callB call_len_seq (by rfl) T.n_len PySem.boot_len (pa_cons (pe_fld (pv 0) rfl) pa_nil)) pa_nil))))))
      (pss_one ps_never)
      pss_nil)) , ?_⟩
    refine s_skip (et_is (et_not (a := true) (et_is (et_B (ev_call (dvs := []) (ea3 (ev_var rfl) ev_c (ev_lenL (ev_fld (ev_var rfl) hs T.c_Stream T.na_row_listS fsS_rows) (sq_of R.at_))) (fun H6 e6 Q q E => ⟨_, _, _, _, rfl, .int _, fun H7 e7 => q H7 e7⟩))) (by
      rw [List.length_map]
      show (decide ((1 : Int) ≤ (m : Int)) && decide ((m : Int) ≤ (rows.length : Int))) = true
      rw [decide_eq_true (by omega), decide_eq_true (by omega)] <;> rfl))) rfl) k
abbrev n_Streamlastmoment : List Str := ["self", "start", "end"]
theorem sc_Streamlastmoment : FnScope n_Streamlastmoment ["self", "start", "end"] (defScope s_Streamlastmoment) := ⟨rfl, rfl, rfl, by decide +kernel, rfl, by decide +kernel, by decide +kernel⟩
def spLastMoment (A : Ad) : Sp := fun vs H Q _ => ∃ (s : Addr) (cs : Cells) (kept rows : List (List Nat)) (m : Nat) (o : Option Nat), vs = [.ref s, .int (m : Int), optI o] ∧ StreamAt A H s cs kept rows ∧ 1 ≤ m ∧ m ≤ rows.length ∧ (∀ e, o = some e → m ≤ e ∧ e ≤ rows.length) ∧
  RetV (.int ((o.getD rows.length : Nat) : Int)) H Q
theorem ok_Streamlastmoment (T : Tx K mg A) : FnOk P w K mg base CX0 6 (A.f "Stream.last_moment") (A.fd "Stream.last_moment") ["self", "start", "end"] (spLastMoment A) := by
  refine T.F_Streamlastmoment.ok sc_Streamlastmoment (fun vs H Q E h => ?_) (fun cdv A' outer s' H vs Q E hr h => ?_)
  · obtain ⟨s, cs, kept, rows, m, o, rfl, _⟩ := h
    rfl
  · obtain ⟨s, cs, kept, rows, m, o, rfl, hS, h1, h2, ho, k⟩ := h
    obtain ⟨dx, b, rl, hs, hb, R, ok⟩ := id hS
    refine ⟨_, PSs.nox (pss_cons (ps_expr (pe_meth (pv 0) T.c_Stream T.m_Streamcheckmoment (ok_Streamcheckmoment T) (hr.mono (by decide)) T.b_Streamcheckmoment .nil pass0 (pa_cons (pv 1) pa_nil)))
      (pss_cons (ps_if (pt_cmpR op_isN (pv 2) pe_non (nomark _))
      (pss_one (ps_ret (pe_callB call_len_seq (by rfl) T.n_len PySem.boot_len (pa_cons (pe_fld (pv 0) rfl) pa_nil))))
      pss_nil)
      (pss_cons (ps_if (pt_not (pt_val (pe_call (ok_isnumber T) (hr.mono (by decide)) (by rfl) T.g_isnumber T.F_isnumber.kp T.b_isnumber .nil pass0 (pa_cons (pv 2) (pa_cons (pv 1) (pa_cons (pe_callB call_len_seq (by rfl) T.n_len PySem.boot_len (pa_cons (pe_fld (pv 0) rfl) pa_nil)) pa_nil))))))
      (pss_one ps_never)
      pss_nil)
      (pss_one (ps_ret (pv 2)))))) , ?_⟩
    refine q_drop (ev_meth (dvs := []) (vs := [.int (m : Int)]) (ev_var rfl) hs (fsS_no (by decide +kernel) (by decide +kernel)) (ea1 (ev_var rfl)) (fun H6 e6 Q q E => ⟨s, cs, kept, rows, m, rfl, hS.ex e6, h1, h2, fun H7 e7 => q H7 e7⟩)) fun H1 e1 => ?_
    cases o with
    | none =>
      refine q_when (b := true) (et_is (et_test (ev_op (ev_var rfl) ev_c rv_isN)) (by decide)) (fun _ H2 e2 => ?_) (fun h => absurd h (by decide))
      have e02 := e1.trans e2
      exact s_ret (ev_is (ev_lenL (ev_fld (ev_var rfl) (e02 _ _ hs) T.c_Stream T.na_row_listS fsS_rows) (sq_of (e02 _ _ R.at_))) (by rw [List.length_map] <;> rfl)) fun H3 e3 => k H3 (e02.trans e3)
    | some e =>
      obtain ⟨a1, a2⟩ := ho e rfl
      refine q_skip (et_is (et_test (ev_op (ev_var rfl) ev_c rv_isN)) (by simp [optI])) fun H2 e2 => ?_
      have e02 := e1.trans e2
      refine q_skip (et_is (et_not (a := true) (et_is (et_B (ev_call (dvs := []) (ea3 (ev_var rfl) (ev_var rfl) (ev_lenL (ev_fld (ev_var rfl) (e02 _ _ hs) T.c_Stream T.na_row_listS fsS_rows) (sq_of (e02 _ _ R.at_)))) (fun H6 e6 Q q E => ⟨_, _, _, _, rfl, .int _, fun H7 e7 => q H7 e7⟩))) (by
        rw [List.length_map]
        show (decide ((m : Int) ≤ (e : Int)) && decide ((e : Int) ≤ (rows.length : Int))) = true
        rw [decide_eq_true (by omega), decide_eq_true (by omega)] <;> rfl))) rfl) fun H3 e3 => ?_
      exact s_ret (ev_var rfl) fun H4 e4 => k H4 ((e02.trans e3).trans e4)
/-- the standing of these rows, the first the oldest -/
def stand (n : Nat) (rows : List (List Nat)) : List Nat := wrow rows.reverse (List.replicate n 46)
theorem wrow_len : ∀ (l : List (List Nat)) (st : List Nat), (∀ r ∈ l, r.length = st.length) → (wrow l st).length = st.length
  | [], st, _ => rfl
  | r :: rest, st, h => by
    have hr := h r (List.mem_cons_self ..)
    unfold wrow
    split
    · rw [wrow_len rest (ov st r) fun x hx => by rw [ov_len hr.symm, hr]; exact h x (List.mem_cons_of_mem _ hx), ov_len hr.symm, hr]
    · rfl
abbrev n_Streamwindowrow : List Str := ["self", "start", "end", "standing", "row"]
theorem sc_Streamwindowrow : FnScope n_Streamwindowrow ["self", "start", "end"] (defScope s_Streamwindowrow) := ⟨rfl, rfl, rfl, by decide +kernel, rfl, by decide +kernel, by decide +kernel⟩
def spWindowRow (A : Ad) : Sp := fun vs H Q _ => ∃ (s : Addr) (cs : Cells) (kept rows : List (List Nat)) (st en : Nat), vs = [.ref s, .int (st : Int), .int (en : Int)] ∧ StreamAt A H s cs kept rows ∧ 1 ≤ st ∧ RetV (vS (stand cs.length ((rows.take en).drop (st - 1)))) H Q
theorem ok_Streamwindowrow (T : Tx K mg A) : FnOk P w K mg base CX0 6 (A.f "Stream.window_row") (A.fd "Stream.window_row") ["self", "start", "end"] (spWindowRow A) := by
  refine T.F_Streamwindowrow.ok sc_Streamwindowrow (fun vs H Q E h => ?_) (fun cdv A' outer s' H vs Q E hr h => ?_)
  · obtain ⟨s, cs, kept, rows, st, en, rfl, _⟩ := h
    rfl
  · obtain ⟨s, cs, kept, rows, st, en, rfl, hS, h1, k⟩ := h
    obtain ⟨dx, b, rl, hs, hb, R, ok⟩ := id hS
    have ok1 := ok.one
    have ok12 := ok.few
    refine ⟨_, PSs.nox (pss_cons (ps_set (i := 3) sc_Streamwindowrow.nd rfl (Or.inl rfl) (pe_meth0 (pe_fld (pv 0) rfl) T.c_Band T.m_Bandblankrow (ok_Bandblankrow T) (hr.mono (by decide)) T.b_Bandblankrow .nil pass0))
      (pss_cons (ps_for PassesOwn.never rfl (pi_list (pe_revL (pe_slice sl_list (pe_fld (pv 0) rfl) (po_some (pe_op op_sub (pv 1) pe_int)) (po_some (pv 2))))) (pg_name (i := 4) sc_Streamwindowrow.nd rfl (Or.inl rfl) (Or.inr rfl))
      (pss_cons (ps_if (pt_cmpR op_notIn_sign pe_str (pv 3) (by rfl))
      (pss_one ps_break)
      pss_nil)
      (pss_one (ps_set (i := 3) sc_Streamwindowrow.nd rfl (Or.inl rfl) (pe_call (ok_over T) (hr.mono (by decide)) (by rfl) T.g_over T.F_over.kp T.b_over .nil pass0 (pa_cons (pv 3) (pa_cons (pv 4) pa_nil)))))))
      (pss_one (ps_ret (pv 3))))) , ?_⟩
    obtain ⟨dxb, cl, kd, sl, rlb, ll, hb1, hb2⟩ := id hb
    refine q_asg (ev_meth (dvs := []) (vs := []) (ev_fld (ev_var rfl) hs T.c_Stream T.na_band fsS_band) hb1 (fsB_no (Or.inr (Or.inl rfl))) ea_nil (fun H6 e6 Q q E => ⟨b, cs, kept, rfl, hb.ex e6, ok1, by omega, fun H7 e7 => q H7 e7⟩)) fun H1 e1 => ?_
    generalize hL : ((rows.take en).drop (st - 1)).reverse = L
    have hLw : ∀ r ∈ L, r.length = cs.length := fun r hr => by
      rw [← hL] at hr
      exact R.wid r (List.mem_of_mem_take (List.mem_of_mem_drop (List.mem_reverse.mp hr)))
    have ek : stand cs.length ((rows.take en).drop (st - 1)) = wrow L (List.replicate cs.length 46) := by
      unfold stand
      rw [hL]
    rw [ek] at k
    have hsl : EvL (tRevL K (tSl (rSlL K) (tFld K (tVar 0) "row_list") (tPart (tOp (rI0 fun i j => .int (i - j)) (tVar 1) (tC (.int 1)))) (tPart (tVar 2)))) [some (.ref s), some (.int (st : Int)), some (.int (en : Int)), some (vS (List.replicate cs.length 46)), none] H (L.map vS) := by
      refine eA (el_rev (el_slMid (j := (st : Int) - 1) (k := (en : Int)) (ev_fld (ev_var rfl) hs T.c_Stream T.na_row_listS fsS_rows) (ev_op (ev_var rfl) ev_c rv_sub) (ev_var rfl) (sq_of R.at_) (by omega) (by omega))) ?_
      have e1 : ((st : Int) - 1).toNat = st - 1 := by omega
      rw [e1, Int.toNat_natCast, ← hL, List.map_reverse, List.map_drop, List.map_take]
    refine q_forF (W := H) (n := L.length) (by
        have q := ei_listN (K := K) (j := 4) (it := fun i => vS (L.getD i [])) hsl (fun i hi => by
          rw [List.length_map] at hi
          rw [List.getElem?_map, getD_some (d := []) hi] <;> rfl)
        rw [List.length_map] at q
        exact q) e1
      (fun W1 i σ' H' => Ex W1 H' ∧ ∃ (z : List Nat) (o : Option V), σ' = [some (.ref s), some (.int (st : Int)), some (.int (en : Int)), some (vS z), o] ∧ z.length = cs.length ∧ wrow (L.drop i) z = wrow L (List.replicate cs.length 46))
      (fun W1 H3 e3 eW ew hW => ⟨ew, _, none, rfl, List.length_replicate, rfl⟩) (fun W1 i σ' H' h => h.1) (fun W1 i σ' H' eW hi h H3 e3 => ?_) (fun W1 σ' H' eW h => ?_)
    · obtain ⟨g1, z, o, rfl, hz, hw⟩ := h
      rw [drop_get (d := []) hi] at hw
      have hw' : (if 46 ∈ z then wrow (L.drop (i + 1)) (ov z (L.getD i [])) else z) = wrow L (List.replicate cs.length 46) := hw
      have hm : L.getD i [] ∈ L := by
        rw [List.getD_eq_getElem?_getD, List.getElem?_eq_getElem hi]
        exact List.getElem_mem hi
      have hlr := hLw _ hm
      refine q_when (b := !decide (46 ∈ z)) (et_test (ev_op (ev_lit (l := [46]) rfl) (ev_var rfl) rv_niS)) (fun hb H4 e4 => ?_) (fun hb H4 e4 => ?_)
      · have hn : 46 ∉ z := by simpa using hb
        rw [if_neg hn] at hw'
        rw [← hw'] at k
        exact s_ret (ev_var rfl) fun H5 e5 => k H5 ((((eW.trans g1).trans e3).trans e4).trans e5)
      · have hn : 46 ∈ z := by simpa using hb
        rw [if_pos hn] at hw'
        refine s_asg (ev_call (dvs := []) (ea2 (ev_var rfl) (ev_var rfl)) (fun H6 e6 Q q E => ⟨z, L.getD i [], rfl, by omega, by omega, fun H7 e7 => q H7 e7⟩)) fun H5 e5 => ⟨((g1.trans e3).trans e4).trans e5, _, _, rfl, by rw [ov_len (by omega)]; exact hlr, hw'⟩
    · obtain ⟨g1, z, o, rfl, hz, hw⟩ := h
      rw [List.drop_length] at hw
      have hw' : z = wrow L (List.replicate cs.length 46) := hw
      rw [← hw'] at k
      exact s_ret (ev_var rfl) fun H5 e5 => k H5 ((eW.trans g1).trans e5)
abbrev n_Streamstanding : List Str := ["self"]
theorem sc_Streamstanding : FnScope n_Streamstanding ["self"] (defScope s_Streamstanding) := ⟨rfl, rfl, rfl, by decide +kernel, rfl, by decide +kernel, by decide +kernel⟩
def spStanding (A : Ad) : Sp := fun vs H Q _ => ∃ (s : Addr) (cs : Cells) (kept rows : List (List Nat)), vs = [.ref s] ∧ StreamAt A H s cs kept rows ∧ RetV (vS (stand cs.length rows)) H Q
theorem ok_Streamstanding (T : Tx K mg A) : FnOk P w K mg base CX0 8 (A.f "Stream.standing") (A.fd "Stream.standing") ["self"] (spStanding A) := by
  refine T.F_Streamstanding.ok sc_Streamstanding (fun vs H Q E h => ?_) (fun cdv A' outer s' H vs Q E hr h => ?_)
  · obtain ⟨s, cs, kept, rows, rfl, _⟩ := h
    rfl
  · obtain ⟨s, cs, kept, rows, rfl, hS, k⟩ := h
    obtain ⟨dx, b, rl, hs, hb, R, ok⟩ := id hS
    refine ⟨_, PSs.nox (pss_one (ps_ret (pe_meth (pv 0) T.c_Stream T.m_Streamwindowrow (ok_Streamwindowrow T) (hr.mono (by decide)) T.b_Streamwindowrow .nil pass0 (pa_cons pe_int (pa_cons (pe_callB call_len_seq (by rfl) T.n_len PySem.boot_len (pa_cons (pe_fld (pv 0) rfl) pa_nil)) pa_nil))))) , ?_⟩
    refine s_ret (ev_meth (dvs := []) (vs := [.int 1, .int (rows.length : Int)]) (ev_var rfl) hs (fsS_no (by decide +kernel) (by decide +kernel)) (ea2 ev_c (ev_is (ev_lenL (ev_fld (ev_var rfl) hs T.c_Stream T.na_row_listS fsS_rows) (sq_of R.at_)) (by rw [List.length_map])))
      (fun H6 e6 Q q E => ⟨s, cs, kept, rows, 1, rows.length, rfl, hS.ex e6, Nat.le_refl 1, fun H7 e7 => q H7 (by exact e7)⟩)) fun H1 e1 => ?_
    have q := k H1 e1
    rw [List.take_length]
    exact q
end
end Nt
end
section
set_option Elab.async false
set_option linter.all false
set_option maxRecDepth 100000
set_option maxHeartbeats 4000000
namespace Nt
open PySem PySem.Spec PyProof.Rows L2 Evl SX
/-- a walk over what was just made: it stands behind -/
def EvW (wi : TI) (g : TG) (σ : L2.St) (W : Hp) (n : Nat) (τ : Nat → L2.St → L2.St) : Prop := ∀ H, Ex W H → ∀ R : It → Hp → Prop, (∀ J H1, Ex H H1 → Feeds J g H1 n τ → R J H1) → wi σ H R
theorem EvI.w {wi : TI} {g : TG} {σ : L2.St} {W : Hp} {n : Nat} {τ : Nat → L2.St → L2.St} (h : EvI wi g σ W n τ) : EvW wi g σ W n τ := fun H e R q => h H e R fun J H1 W1 e1 _ e2 _ F => q J H1 e1 (F.mono e2)
section
variable {K : PySem.W.Frag} {σ : L2.St} {W H H' : Hp} {ta tb tc te tl td ty : TE} {t u : TT} {x y z v w' : V} {D : Ends} {tu tz : TS} {g : TG} {wi : TI}
theorem el_lcW {vs : List Nat} {n : Nat} {τ : Nat → L2.St → L2.St} (h : EvW wi g σ W n τ) (hn : n ≤ 40000) (f : Nat → Bool) (v : Nat → V) (hw : ∀ i, i < n → wipe (τ i (wipe σ vs)) vs = wipe σ vs)
    (ht : ∀ i, i < n → EvT t (τ i (wipe σ vs)) W (f i)) (he : ∀ i, i < n → f i = true → Ev te (τ i (wipe σ vs)) W (v i)) : EvL (tLc wi g t te vs) σ W (given n f v) := fun H0 e0 Q q => h H0 e0 _ fun J H1 e1 F Dl hD => by
  have eW : Ex W H1 := e0.trans e1
  refine ⟨fun i m H => m = n - i ∧ i ≤ n ∧ Cw H1 f v Dl i H, ⟨n, by simp, Nat.zero_le _, hD, Ex.new hD, upd_same⟩, fun i m H hI => ?_⟩
  obtain ⟨rfl, hi, p⟩ := hI
  by_cases hlt : i < n
  · refine Or.inr ⟨F.go i H p.2.1 hlt, Cw H1 f v Dl (i + 1), fun H' p' => ⟨n - (i + 1), by omega, rfl, hlt, p'⟩, fun x H' y => ?_⟩
    obtain ⟨e2, k⟩ := F.yld i H x H' p.2.1 hlt y
    refine k _ _ ⟨hw i hlt, ?_⟩
    exact cw_turn ⟨p.1, p.2.1.trans e2, e2 Dl _ p.2.2⟩ (by omega) ((ht i hlt).mono eW) (fun hf => (he i hlt hf).mono eW)
  · have e : i = n := by omega
    subst e
    exact Or.inl ⟨F.stop H p.2.1, q Dl H (fresh_back e1 p.1) (e1.trans p.2.1) p.2.2⟩
theorem el_lcAW {vs : List Nat} {n : Nat} {τ : Nat → L2.St → L2.St} (h : EvW wi g σ W n τ) (hn : n ≤ 40000) (v : Nat → V) (hw : ∀ i, i < n → wipe (τ i (wipe σ vs)) vs = wipe σ vs)
    (he : ∀ i, i < n → Ev te (τ i (wipe σ vs)) W (v i)) : EvL (tLc wi g tYes te vs) σ W ((List.range n).map v) := by
  have k := el_lcW (t := tYes) h hn (fun _ => true) v hw (fun i hi => fun H1 e Q q => q H1 (Ex.refl H1)) (fun i hi _ => he i hi)
  rw [given_all] at k
  exact k
/-- pairs made turn by turn -/
theorem lc_pairs {vs : List Nat} {n : Nat} {τ : Nat → L2.St → L2.St} (h : EvW wi g σ W n τ) (hn : n ≤ 40000) (a b : Nat → V) (hw : ∀ i, i < n → wipe (τ i (wipe σ vs)) vs = wipe σ vs)
    (he : ∀ i, i < n → EvU te (τ i (wipe σ vs)) W [a i, b i]) : ∀ H0, Ex W H0 → ∀ Q : VK, (∀ p H2 (ts : Nat → Addr), H0 p = none → Ex H0 H2 → H2 p = some (.lst ((List.range n).map fun i => .ref (ts i))) → (∀ i, i < n → H2 (ts i) = some (.tup [a i, b i])) → Q (.ref p) H2) → tLc wi g tYes te vs σ H0 Q :=
  fun H0 e0 Q q => h H0 e0 _ fun J H1 e1 F Dl hD => by
  have eW : Ex W H1 := e0.trans e1
  refine ⟨fun i m H => m = n - i ∧ i ≤ n ∧ Ex H1 H ∧ ∃ acc : List Addr, acc.length = i ∧ H Dl = some (.lst (acc.map V.ref)) ∧ ∀ j, j < i → H (acc.getD j 0) = some (.tup [a j, b j]), ⟨n, by simp, Nat.zero_le _, Ex.new hD, [], rfl, upd_same, fun j hj => absurd hj (Nat.not_lt_zero _)⟩, fun i m H hI => ?_⟩
  obtain ⟨rfl, hi, p1, acc, p2, p3, p4⟩ := hI
  by_cases hlt : i < n
  · refine Or.inr ⟨F.go i H p1 hlt, fun H => Ex H1 H ∧ ∃ acc : List Addr, acc.length = i + 1 ∧ H Dl = some (.lst (acc.map V.ref)) ∧ ∀ j, j < i + 1 → H (acc.getD j 0) = some (.tup [a j, b j]), fun H' p' => ⟨n - (i + 1), by omega, rfl, hlt, p'⟩, fun x H' y => ?_⟩
    obtain ⟨e2, k⟩ := F.yld i H x H' p1 hlt y
    refine k _ _ ⟨hw i hlt, ?_⟩
    show te _ _ _
    refine he i hlt H' ((eW.trans p1).trans e2) _ fun T H3 hT e3 hTu => ⟨acc.map V.ref, e3 _ _ (e2 _ _ p3), sz_lt (by rw [List.length_map]; omega), Ex.mut ((p1.trans e2).trans e3) hD, acc ++ [T], by rw [List.length_append, p2] <;> rfl, by rw [upd_same, List.map_append] <;> rfl, fun j hj => ?_⟩
    have hTD : T ≠ Dl := (ne_of_none (e2 _ _ p3) hT).symm
    by_cases hj2 : j < i
    · have e5 : (acc ++ [T]).getD j 0 = acc.getD j 0 := by
        rw [List.getD_eq_getElem?_getD, List.getElem?_append_left (by omega), ← List.getD_eq_getElem?_getD]
      rw [e5, upd_ne (ne_of (p4 j hj2) p3 (by intro z; cases z))]
      exact e3 _ _ (e2 _ _ (p4 j hj2))
    · have hj3 : j = i := by omega
      subst hj3
      have e5 : (acc ++ [T]).getD j 0 = T := by
        rw [← p2, List.getD_eq_getElem?_getD, List.getElem?_append_right (Nat.le_refl _)]
        simp
      rw [e5, upd_ne hTD]
      exact hTu
  · have e : i = n := by omega
    subst e
    refine Or.inl ⟨F.stop H p1, q Dl H (fun j => acc.getD j 0) (fresh_back e1 hD) (e1.trans p1) ?_ p4⟩
    rw [← p2, range_map (fun a => V.ref a) acc 0]
    exact p3
/-- over the pairs that a call gives -/
theorem ew_call {ta : TA} {sp : Sp} {vs dvs : List V} {E : XK} {n j k : Nat} {p q : Nat → V} (h : EvA ta σ W vs) (hs : ∀ H, Ex W H → ∀ Q : VK, (∀ l H2 (ts : Nat → Addr), Ex H H2 → H2 l = some (.lst ((List.range n).map fun i => .ref (ts i))) → (∀ i, i < n → H2 (ts i) = some (.tup [p i, q i])) → Q (.ref l) H2) → sp (vs ++ dvs) H Q E) :
    EvW (iList K (tCall sp dvs E ta)) (gTup K 2 (gCons (gName j) (gCons (gName k) gNil))) σ W n (fun i σ => (σ.set j (some (p i))).set k (some (q i))) := fun H e R r =>
  h H e _ fun H1 e1 => hs H1 (e.trans e1) _ fun l H2 ts e2 h1 h2 => ⟨l, rfl, ⟨_, sq_of h1⟩, r _ H2 (e1.trans e2) (fd_pairs (sq_of h1) h2)⟩
/-- which were kept, by the items -/
theorem given_map {α : Type} (xs : List α) (d : α) (f : α → Bool) (v : α → V) : given xs.length (fun i => f (xs.getD i d)) (fun i => v (xs.getD i d)) = (xs.filter f).map v := by
  unfold given
  have e : xs = (List.range xs.length).map (fun i => xs.getD i d) := by
    have := range_map (fun a => a) xs d
    rw [List.map_id'] at this
    exact this.symm
  conv => rhs; rw [e]
  rw [List.filter_map, List.map_map]
  rfl
theorem q_asgX {i : Nat} {P : V → Hp → Prop} (h : ∀ Q : VK, (∀ v H1, Ex H H1 → P v H1 → Q v H1) → te σ H Q) (k : ∀ v H1, Ex H H1 → P v H1 → tz D (σ.set i (some v)) H1) : tSeq (tAsg te (gName i)) tz D σ H := h _ fun v H1 e p => k v H1 e p
end
/-! ### data -/
def prs (rows : List (List Nat)) : Prs := (List.range rows.length).map fun i => (rows.length - i, rows.getD (rows.length - i - 1) [])
def telN (n : Nat) (rows : List (List Nat)) : List Nat := (ntell (prs rows) (List.replicate n 46)).map (·.1)
def endF (rows : List (List Nat)) : Nat → List Nat → Nat → Option Nat
  | 0, _, _ => none
  | f + 1, ds, e => if ds = [] then some e else if e = rows.length then none else endF rows f (ds.filter fun d => decide ((rows.getD e []).getD d 46 = 46)) (e + 1)
def told (r : List Nat) : List Nat := (List.range r.length).filter fun i => !decide (r.getD i 46 = 46)
def endN (rows : List (List Nat)) (m : Nat) : Option Nat := endF rows 1001 (told (rows.getD (m - 1) [])) m
theorem prs_len (rows : List (List Nat)) : (prs rows).length = rows.length := by
  unfold prs
  rw [List.length_map, List.length_range]
theorem prs_at {rows : List (List Nat)} {i : Nat} (h : i < rows.length) : prD (prs rows) i = (rows.length - i, rows.getD (rows.length - i - 1) []) := by
  unfold prD prs
  rw [List.getD_eq_getElem?_getD, List.getElem?_map, List.getElem?_range h]
  rfl
theorem ntell_mem : ∀ (l : Prs) (t : List Nat), ∀ x ∈ ntell l t, x ∈ l
  | [], _, x, h => h
  | (m, r) :: rest, t, x, h => by
    unfold ntell at h
    split at h
    · split at h
      · exact List.mem_cons_of_mem _ (ntell_mem rest _ x h)
      · rcases List.mem_cons.mp h with h | h
        · rw [h]
          exact List.mem_cons_self ..
        · exact List.mem_cons_of_mem _ (ntell_mem rest _ x h)
    · cases h
theorem ntell_len : ∀ (l : Prs) (t : List Nat), (ntell l t).length ≤ l.length
  | [], _ => Nat.le_refl _
  | (m, r) :: rest, t => by
    unfold ntell
    split
    · split
      · exact Nat.le_succ_of_le (ntell_len rest _)
      · exact Nat.succ_le_succ (ntell_len rest _)
    · exact Nat.zero_le _
section
variable {P : Program} {w : World} {K : PySem.W.Frag} {mg : Str → Option Value} {base : Heap} {A : Ad}
abbrev n_Streamwindow : List Str := ["self", "start", "end"]
theorem sc_Streamwindow : FnScope n_Streamwindow ["self", "start", "end"] (defScope s_Streamwindow) := ⟨rfl, rfl, rfl, by decide +kernel, rfl, by decide +kernel, by decide +kernel⟩
def spWindow (A : Ad) : Sp := fun vs H Q _ => ∃ (s : Addr) (cs : Cells) (kept rows : List (List Nat)) (m : Nat) (o : Option Nat), vs = [.ref s, .int (m : Int), optI o] ∧ StreamAt A H s cs kept rows ∧ 1 ≤ m ∧ m ≤ rows.length ∧ (∀ e, o = some e → m ≤ e ∧ e ≤ rows.length) ∧
  RetV (vS (stand cs.length ((rows.take (o.getD rows.length)).drop (m - 1)))) H Q
theorem ok_Streamwindow (T : Tx K mg A) : FnOk P w K mg base CX0 8 (A.f "Stream.window") (A.fd "Stream.window") ["self", "start", "end"] (spWindow A) := by
  refine T.F_Streamwindow.ok sc_Streamwindow (fun vs H Q E h => ?_) (fun cdv A' outer s' H vs Q E hr h => ?_)
  · obtain ⟨s, cs, kept, rows, m, o, rfl, _⟩ := h
    rfl
  · obtain ⟨s, cs, kept, rows, m, o, rfl, hS, h1, h2, ho, k⟩ := h
    obtain ⟨dx, b, rl, hs, hb, R, ok⟩ := id hS
    refine ⟨_, PSs.nox (pss_one (ps_ret (pe_meth (pv 0) T.c_Stream T.m_Streamwindowrow (ok_Streamwindowrow T) (hr.mono (by decide)) T.b_Streamwindowrow .nil pass0 (pa_cons (pv 1) (pa_cons (pe_meth (pv 0) T.c_Stream T.m_Streamlastmoment (ok_Streamlastmoment T) (hr.mono (by decide)) T.b_Streamlastmoment .nil pass0 (pa_cons (pv 1) (pa_cons (pv 2) pa_nil))) pa_nil))))) , ?_⟩
    exact s_ret (ev_meth (dvs := []) (vs := [.int (m : Int), .int ((o.getD rows.length : Nat) : Int)]) (ev_var rfl) hs (fsS_no (by decide +kernel) (by decide +kernel)) (ea2 (ev_var rfl) (ev_meth (dvs := []) (vs := [.int (m : Int), optI o]) (ev_var rfl) hs (fsS_no (by decide +kernel) (by decide +kernel)) (ea2 (ev_var rfl) (ev_var rfl))
      (fun H6 e6 Q q E => ⟨s, cs, kept, rows, m, o, rfl, hS.ex e6, h1, h2, ho, fun H7 e7 => q H7 e7⟩))) (fun H6 e6 Q q E => ⟨s, cs, kept, rows, m, o.getD rows.length, rfl, hS.ex e6, h1, fun H7 e7 => q H7 e7⟩)) k
abbrev n_Streamtellers : List Str := ["self", "start", "end", "last", "pairs", "moment", "row"]
theorem sc_Streamtellers : FnScope n_Streamtellers ["self", "start", "end"] (defScope s_Streamtellers) := ⟨rfl, rfl, rfl, by decide +kernel, rfl, by decide +kernel, by decide +kernel⟩
def spTellers (A : Ad) : Sp := fun vs H Q _ => ∃ (s : Addr) (cs : Cells) (kept rows : List (List Nat)), vs = [.ref s, .int 1, .non] ∧ StreamAt A H s cs kept rows ∧ RetL ((telN cs.length rows).map fun m : Nat => V.int (m : Int)) H Q
theorem lot_blank (n : Nat) : lot (List.replicate n 46) = List.replicate n 46 := by
  unfold lot
  rw [List.map_replicate] <;> rfl
theorem ok_Streamtellers (T : Tx K mg A) : FnOk P w K mg base CX0 10 (A.f "Stream.tellers") (A.fd "Stream.tellers") ["self", "start", "end"] (spTellers A) := by
  refine T.F_Streamtellers.ok sc_Streamtellers (fun vs H Q E h => ?_) (fun cdv A' outer s' H vs Q E hr h => ?_)
  · obtain ⟨s, cs, kept, rows, rfl, _⟩ := h
    rfl
  · obtain ⟨s, cs, kept, rows, rfl, hS, k⟩ := h
    obtain ⟨dx, b, rl, hs, hb, R, ok⟩ := id hS
    have ok1 := ok.one
    have ok12 := ok.few
    have hf := R.few
    refine ⟨_, PSs.nox (pss_cons (ps_if (PW.pt (pw_and (pt_cmpR (op_eqD hr.units) (pe_fld (pv 0) rfl) (pe_lst pa_nil) (nomark _)) (pw_and (pt_val (pe_call (ok_isnumber T) (hr.mono (by decide)) (by rfl) T.g_isnumber T.F_isnumber.kp T.b_isnumber .nil pass0 (pa_cons (pv 1) (pa_cons pe_int (pa_cons pe_int pa_nil))))) (pw_and1 (pt_cmpR op_isN (pv 2) pe_non (nomark _))))))
      (pss_one (ps_ret (pe_lst pa_nil)))
      pss_nil)
      (pss_cons (ps_set (i := 3) sc_Streamtellers.nd rfl (Or.inl rfl) (pe_meth (pv 0) T.c_Stream T.m_Streamlastmoment (ok_Streamlastmoment T) (hr.mono (by decide)) T.b_Streamlastmoment .nil pass0 (pa_cons (pv 1) (pa_cons (pv 2) pa_nil))))
      (pss_cons (ps_setLc (i := 4) (own := [("moment", 5)]) (g := (gName 5)) (te := (tTup (tCons _ (tCons (tOp (rIxL K) (tFld K _ _) _) tNil)))) (by rfl) sc_Streamtellers.nd rfl rfl (sw_true rfl rfl rfl (by decide +kernel)) (pi_range3 (by rfl) T.n_range (pa_cons (pv 3) (pa_cons (pe_op op_sub (pv 1) pe_int) (pa_cons (pe_un un_neg pe_int) pa_nil)))) (blkOk_by (own := [("moment", 5)]) (N := n_Streamtellers) (sc := defScope s_Streamtellers) (by decide +kernel)) (fun _ _ _ _ _ => (pg_name (i := 5) sc_Streamtellers.nd rfl (Or.inl rfl) (Or.inr rfl))) (fun _ _ _ _ _ => pts_nil) (fun _ _ _ _ _ => (pe_tup (pa_cons (pv 5) (pa_cons (pe_ix ix_list (pe_fld (pv 0) rfl) (pe_op op_sub (pv 5) pe_int) (fun _ _ => rfl)) pa_nil)))))
      (pss_one (ps_ret (pe_lc (own := [("moment", 5), ("row", 6)]) (g := (gTup K 2 (gCons (gName 5) (gCons (gName 6) gNil)))) (by rfl) sc_Streamtellers.nd (pi_list (pe_call (ok_newesttellers T) (hr.mono (by decide)) (by rfl) T.g_newesttellers T.F_newesttellers.kp T.b_newesttellers .nil pass0 (pa_cons (pv 4) (pa_cons (pe_call (ok_lotof T) (hr.mono (by decide)) (by rfl) T.g_lotof T.F_lotof.kp T.b_lotof .nil pass0 (pa_cons (pe_meth0 (pe_fld (pv 0) rfl) T.c_Band T.m_Bandblankrow (ok_Bandblankrow T) (hr.mono (by decide)) T.b_Bandblankrow .nil pass0) pa_nil)) pa_nil)))) (blkOk_by (own := [("moment", 5), ("row", 6)]) (N := n_Streamtellers) (sc := defScope s_Streamtellers) (by decide +kernel)) (fun _ _ _ _ _ => (pg_tup rfl (pgs_cons (pg_name (i := 5) sc_Streamtellers.nd rfl (Or.inl rfl) (Or.inr rfl)) (pgs_cons (pg_name (i := 6) sc_Streamtellers.nd rfl (Or.inl rfl) (Or.inr rfl)) pgs_nil)))) (fun _ _ _ _ _ => pts_nil) (fun _ _ _ _ _ => (pv 5)))))))) , ?_⟩
    refine q_when (b := rows.isEmpty) (et_is (et_and (b := true) (et_test (ev_eqNil (ev_fld (ev_var rfl) hs T.c_Stream T.na_row_listS fsS_rows) R.at_ (fun H => dp_S rows) (sh_S (ok.asc R)))) fun _ => et_is (et_and (a := true) (b := true) (et_is (et_B (ev_call (dvs := []) (ea3 (ev_var rfl) ev_c ev_c) (fun H6 e6 Q q E => ⟨_, _, _, _, rfl, .int _, fun H7 e7 => q H7 e7⟩))) (by decide)) fun _ => et_is (et_test (ev_op (ev_var rfl) ev_c rv_isN)) (by decide)) rfl) (by
        rw [Bool.and_true]
        unfold dS
        cases rows <;> rfl)) (fun hb1 H1 e1 => ?_) (fun hb1 H1 e1 => ?_)
    · have : rows = [] := List.isEmpty_iff.mp hb1
      subst this
      have e0 : telN cs.length [] = [] := rfl
      rw [e0] at k
      exact s_retL (el_lst ea_nil (by decide)) fun p H2 np e2 hp => k p H2 (fresh_back e1 np) (e1.trans e2) hp
    · have hne : 1 ≤ rows.length := by
        cases rows with
        | nil => cases hb1
        | cons r rs => exact Nat.succ_le_succ (Nat.zero_le _)
      refine q_asg (v := .int (rows.length : Int)) (ev_meth (dvs := []) (vs := [.int (1 : Nat), optI none]) (ev_var rfl) (e1 _ _ hs) (fsS_no (by decide +kernel) (by decide +kernel)) (ea2 (ev_var rfl) (ev_var rfl))
        (fun H6 e6 Q q E => ⟨s, cs, kept, rows, 1, none, rfl, hS.ex (e1.trans e6), Nat.le_refl 1, hne, fun e h => (by cases h), fun H7 e7 => q H7 e7⟩)) fun H2 e2 => ?_
      have e02 := e1.trans e2
      refine q_asgX (P := fun v H' => ∃ p, v = .ref p ∧ H2 p = none ∧ PairsAt H' p (prs rows)) (fun Q q => lc_pairs (vs := [5]) (n := rows.length) (EvI.w (ei_rng3 (lo := (rows.length : Int)) (hi := 0) (c := -1) (j := 5) (ea3 (ev_var rfl) (ev_is (ev_op (ev_var rfl) ev_c rv_sub) rfl) (ev_is (fun H e Q q => ⟨1, rfl, q H (Ex.refl H)⟩) rfl)) ?_)) (by omega) (fun i => .int ((rows.length - i : Nat) : Int)) (fun i => vS (rows.getD (rows.length - i - 1) []))
        (fun i hi => rfl) (fun i hi => ?_) H2 (Ex.refl H2) _ fun p H3 ts np e3 hp hts => q _ H3 e3 ⟨p, rfl, np, ts, by rw [prs_len]; exact hp, fun i hi => by
          rw [prs_len] at hi
          rw [prs_at hi]
          exact hts i hi⟩) fun v H3 e3 hv => ?_
      · have q := RgC.neg (i := (rows.length : Int)) (j := 0) (by omega) (by omega) (by omega) (by omega)
        have e : ((rows.length : Int) - 0).toNat = rows.length := by omega
        rw [e] at q
        exact q
      · have ex : ((rows.length : Int) + (i : Int) * -1) = ((rows.length - i : Nat) : Int) := by omega
        show EvU _ [some (.ref s), some (.int 1), some .non, some (.int (rows.length : Int)), none, some (.int ((rows.length : Int) + (i : Int) * -1)), none] H2 _
        rw [ex]
        exact eu_tup (ea2 (ev_var rfl) (ev_op (ev_fld (ev_var rfl) (e02 _ _ hs) T.c_Stream T.na_row_listS fsS_rows) (ev_is (ev_op (ev_var rfl) ev_c rv_sub) (w := .int ((rows.length - i - 1 : Nat) : Int)) (by
          show V.int _ = V.int _
          congr 1
          omega)) (rv_ixLn (sq_of (e02 _ _ R.at_)) (R.get (by omega))))) (by simp)
      · obtain ⟨p, rfl, np, hP⟩ := hv
        have e03 := e02.trans e3
        obtain ⟨dxb, cl, kd, sl, rlb, ll, hb1, hb2⟩ := id hb
        have hpl : ∀ x ∈ prs rows, x.2.length = cs.length := fun x hx => by
          obtain ⟨i, hi, rfl⟩ := List.mem_map.mp hx
          have hi' := List.mem_range.mp hi
          exact R.len (by omega)
        refine s_retL (eA (el_lcAW (vs := [5, 6]) (n := (ntell (prs rows) (List.replicate cs.length 46)).length) (W := H3) (τ := fun i σ => (σ.set 5 (some (.int ((prD (ntell (prs rows) (List.replicate cs.length 46)) i).1 : Int)))).set 6 (some (vS (prD (ntell (prs rows) (List.replicate cs.length 46)) i).2)))
          ?_ (by have := ntell_len (prs rows) (List.replicate cs.length 46); rw [prs_len] at this; omega) (fun i => .int ((prD (ntell (prs rows) (List.replicate cs.length 46)) i).1 : Int)) (fun i hi => rfl) (fun i hi => ev_var rfl)) ?_) fun q H4 nq e4 hq => k q H4 (fresh_back e03 nq) (e03.trans e4) hq
        · have hbl : Ev (tMeth (A.C "Band") "blank_row" (spBlankRow A) [] E0 (tFld K (tVar 0) "band") tNil) [some (.ref s), some (.int 1), some .non, some (.int (rows.length : Int)), some (.ref p), none, none] H3 (vS (List.replicate cs.length 46)) :=
            ev_meth (dvs := []) (vs := []) (ev_fld (ev_var rfl) (e03 _ _ hs) T.c_Stream T.na_band fsS_band) (e03 _ _ hb1) (fsB_no (Or.inr (Or.inl rfl))) ea_nil (fun H6 e6 Q q E => ⟨b, cs, kept, rfl, hb.ex (e03.trans e6), ok1, by omega, fun H7 e7 => q H7 e7⟩)
          have hlt : Ev (tCall spLotOf [] E0 (tCons (tMeth (A.C "Band") "blank_row" (spBlankRow A) [] E0 (tFld K (tVar 0) "band") tNil) tNil)) [some (.ref s), some (.int 1), some .non, some (.int (rows.length : Int)), some (.ref p), none, none] H3 (vS (List.replicate cs.length 46)) := by
            refine ev_is (ev_call (dvs := []) (ea1 hbl) (fun H6 e6 Q q E => ⟨_, rfl, by rw [List.length_replicate]; omega, fun H7 e7 => q H7 e7⟩)) ?_
            rw [lot_blank]
          refine ew_call (dvs := []) (p := fun i => .int ((prD (ntell (prs rows) (List.replicate cs.length 46)) i).1 : Int)) (q := fun i => vS (prD (ntell (prs rows) (List.replicate cs.length 46)) i).2) (ea2 (ev_var rfl) hlt) fun H5 e5 Q q => ?_
          refine ⟨p, prs rows, List.replicate cs.length 46, rfl, ?_, fun x hx => by rw [List.length_replicate]; exact hpl x hx, by rw [List.length_replicate]; omega, by rw [prs_len]; exact hf, fun q' H6 nq' e6 hq' => ?_⟩
          · obtain ⟨ts, a1, a2⟩ := hP
            exact ⟨ts, e5 _ _ a1, fun i hi => e5 _ _ (a2 i hi)⟩
          · obtain ⟨ts, a1, a2⟩ := hq'
            exact q q' H6 ts e6 a1 a2
        · unfold telN
          rw [List.map_map]
          exact range_map (fun x : Nat × List Nat => V.int (x.1 : Int)) _ (0, [])
end
end Nt
end
section
set_option Elab.async false
set_option linter.all false
set_option maxRecDepth 100000
set_option maxHeartbeats 4000000
namespace Nt
open PySem PySem.Spec PyProof.Rows L2 Evl SX
section
variable {K : PySem.W.Frag} {σ : L2.St} {W H H' : Hp} {ta tb tc te tl td ty : TE} {t u : TT} {x y z v w' : V} {D : Ends} {tu tz : TS} {g : TG} {wi : TI}
theorem isEmpty_dec {α : Type} [DecidableEq α] {l : List α} : l.isEmpty = decide (l = []) := by
  cases l <;> simp
end
section
variable {P : Program} {w : World} {K : PySem.W.Frag} {mg : Str → Option Value} {base : Heap} {A : Ad}
abbrev n_Streamsparecount : List Str := ["self"]
theorem sc_Streamsparecount : FnScope n_Streamsparecount ["self"] (defScope s_Streamsparecount) := ⟨rfl, rfl, rfl, by decide +kernel, rfl, by decide +kernel, by decide +kernel⟩
def spSpare (A : Ad) : Sp := fun vs H Q _ => ∃ (s : Addr) (cs : Cells) (kept rows : List (List Nat)), vs = [.ref s] ∧ StreamAt A H s cs kept rows ∧ RetV (.int ((rows.length : Int) - ((telN cs.length rows).length : Int))) H Q
theorem ok_Streamsparecount (T : Tx K mg A) : FnOk P w K mg base CX0 12 (A.f "Stream.spare_count") (A.fd "Stream.spare_count") ["self"] (spSpare A) := by
  refine T.F_Streamsparecount.ok sc_Streamsparecount (fun vs H Q E h => ?_) (fun cdv A' outer s' H vs Q E hr h => ?_)
  · obtain ⟨s, cs, kept, rows, rfl, _⟩ := h
    rfl
  · obtain ⟨s, cs, kept, rows, rfl, hS, k⟩ := h
    obtain ⟨dx, b, rl, hs, hb, R, ok⟩ := id hS
    refine ⟨_, PSs.nox (pss_one (ps_ret (pe_op op_sub (pe_callB call_len_seq (by rfl) T.n_len PySem.boot_len (pa_cons (pe_fld (pv 0) rfl) pa_nil)) (pe_callB call_len_seq (by rfl) T.n_len PySem.boot_len (pa_cons (pe_meth0 (pv 0) T.c_Stream T.m_Streamtellers (ok_Streamtellers T) (hr.mono (by decide)) T.b_Streamtellers.choose_spec.2 T.b_Streamtellers.choose_spec.1 pass0) pa_nil))))) , ?_⟩
    refine s_ret (ev_is (ev_op (ev_lenL (ev_fld (ev_var rfl) hs T.c_Stream T.na_row_listS fsS_rows) (sq_of R.at_)) (ev_lenLN (el_meth (dvs := [.int 1, .non]) (vs := []) (ev_var rfl) hs (fsS_no (by decide +kernel) (by decide +kernel)) ea_nil (fun H6 e6 Q q E => ⟨s, cs, kept, rows, rfl, hS.ex e6, fun p H7 np e7 h7 => q p H7 np e7 h7⟩))) rv_sub) ?_) k
    rw [List.length_map, List.length_map]
abbrev n_Streamendof : List Str := ["self", "moment", "untold", "end", "newer", "place", "sign"]
theorem sc_Streamendof : FnScope n_Streamendof ["self", "moment"] (defScope s_Streamendof) := ⟨rfl, rfl, rfl, by decide +kernel, rfl, by decide +kernel, by decide +kernel⟩
def spEndOf (A : Ad) : Sp := fun vs H Q _ => ∃ (s : Addr) (cs : Cells) (kept rows : List (List Nat)) (m : Nat), vs = [.ref s, .int (m : Int)] ∧ StreamAt A H s cs kept rows ∧ 1 ≤ m ∧ m ≤ rows.length ∧ RetV (optI (endN rows m)) H Q
theorem ok_Streamendof (T : Tx K mg A) : FnOk P w K mg base CX0 6 (A.f "Stream.end_of") (A.fd "Stream.end_of") ["self", "moment"] (spEndOf A) := by
  refine T.F_Streamendof.ok sc_Streamendof (fun vs H Q E h => ?_) (fun cdv A' outer s' H vs Q E hr h => ?_)
  · obtain ⟨s, cs, kept, rows, m, rfl, _⟩ := h
    rfl
  · obtain ⟨s, cs, kept, rows, m, rfl, hS, h1, h2, k⟩ := h
    obtain ⟨dx, b, rl, hs, hb, R, ok⟩ := id hS
    have ok12 := ok.few
    have hf := R.few
    have hr0 := R.len (i := m - 1) (by omega)
    refine ⟨_, PSs.nox (pss_cons (ps_expr (pe_meth (pv 0) T.c_Stream T.m_Streamcheckmoment (ok_Streamcheckmoment T) (hr.mono (by decide)) T.b_Streamcheckmoment .nil pass0 (pa_cons (pv 1) pa_nil)))
      (pss_cons (ps_setLc (i := 2) (own := [("place", 5), ("sign", 6)]) (g := (gTup K 2 (gCons (gName 5) (gCons (gName 6) gNil)))) (by rfl) sc_Streamendof.nd rfl rfl (sw_true rfl rfl rfl (by decide +kernel)) (Nr.pi_enumS (by rfl) T.n_enumerate (pa_cons (pe_ix ix_list (pe_fld (pv 0) rfl) (pe_op op_sub (pv 1) pe_int) (fun _ _ => rfl)) pa_nil)) (blkOk_by (own := [("place", 5), ("sign", 6)]) (N := n_Streamendof) (sc := defScope s_Streamendof) (by decide +kernel)) (fun _ _ _ _ _ => (pg_tup rfl (pgs_cons (pg_name (i := 5) sc_Streamendof.nd rfl (Or.inl rfl) (Or.inr rfl)) (pgs_cons (pg_name (i := 6) sc_Streamendof.nd rfl (Or.inl rfl) (Or.inr rfl)) pgs_nil)))) (fun _ _ _ _ _ => (pts_one (pt_cmpR op_ne (pv 6) pe_str (nomark _)))) (fun _ _ _ _ _ => (pv 5)))
      (pss_cons (ps_set (i := 3) sc_Streamendof.nd rfl (Or.inl rfl) (pv 1))
      (pss_cons (ps_while PassesOwn.never (pt_cmpR (op_neD hr.units) (pv 2) (pe_lst pa_nil) (nomark _))
      (pss_cons (ps_if (pt_cmpR op_eq (pv 3) (pe_callB call_len_seq (by rfl) T.n_len PySem.boot_len (pa_cons (pe_fld (pv 0) rfl) pa_nil)) (nomark _))
      (pss_one (ps_ret pe_non))
      pss_nil)
      (pss_cons (ps_set (i := 4) sc_Streamendof.nd rfl (Or.inr rfl) (pe_ix ix_list (pe_fld (pv 0) rfl) (pv 3) (fun _ _ => rfl)))
      (pss_cons (ps_setLc (i := 2) (own := [("place", 5)]) (g := (gName 5)) (by rfl) sc_Streamendof.nd rfl rfl (sw_true rfl rfl rfl (by decide +kernel)) (pi_list (pv 2)) (blkOk_by (own := [("place", 5)]) (N := n_Streamendof) (sc := defScope s_Streamendof) (by decide +kernel)) (fun _ _ _ _ _ => (pg_name (i := 5) sc_Streamendof.nd rfl (Or.inl rfl) (Or.inr rfl))) (fun _ _ _ _ _ => (pts_one (pt_cmpR op_eq (pe_ix ix_str (pv 4) (pv 5) (fun _ _ => rfl)) pe_str (nomark _)))) (fun _ _ _ _ _ => (pv 5)))
      (pss_one (ps_aug (i := 3) sc_Streamendof.nd rfl (Or.inl rfl) pe_int ip_add))))))
      (pss_one (ps_ret (pv 3))))))) , ?_⟩
    refine q_drop (ev_meth (dvs := []) (vs := [.int (m : Int)]) (ev_var rfl) hs (fsS_no (by decide +kernel) (by decide +kernel)) (ea1 (ev_var rfl)) (fun H6 e6 Q q E => ⟨s, cs, kept, rows, m, rfl, hS.ex e6, h1, h2, fun H7 e7 => q H7 e7⟩)) fun H1 e1 => ?_
    generalize hrow : rows.getD (m - 1) [] = r0 at hr0
    refine q_asgL (xs := (told r0).map fun i : Nat => V.int (i : Int)) (eA (el_lc (ei_enumS (l := r0) (c := fun i => r0.getD i 46) (ea1 (ev_op (ev_fld (ev_var rfl) (e1 _ _ hs) T.c_Stream T.na_row_listS fsS_rows) (ev_is (ev_op (ev_var rfl) ev_c rv_sub) (w := .int ((m - 1 : Nat) : Int)) (by
        show V.int _ = V.int _
        congr 1
        omega)) (rv_ixLn (sq_of (e1 _ _ R.at_)) (by rw [R.get (by omega), hrow])))) (fun i hi => getD_some hi)) (by omega) (fun i => !decide (r0.getD i 46 = 46)) (fun i => .int (i : Int)) (fun i hi => rfl) (fun i hi => et_test (ev_op (ev_var rfl) ev_c (rv_ne1 (b := 46)))) (fun i hi _ => ev_var rfl)) rfl) fun l H2 nl e2 hl => ?_
    have e02 := e1.trans e2
    refine q_asg (ev_var rfl) fun H3 e3 => ?_
    have hend : endN rows m = endF rows 1001 (told r0) m := by
      unfold endN
      rw [hrow]
    rw [hend] at k
    have htl : ∀ d ∈ told r0, d < cs.length := fun d hd => by
      have := List.mem_range.mp (List.mem_filter.mp hd).1
      omega
    refine q_while (fun j σ' H' => ∃ (ds : List Nat) (e : Nat) (l : Addr) (o1 o2 o3 : Option V), σ' = [some (.ref s), some (.int (m : Int)), some (.ref l), some (.int (e : Int)), o1, o2, o3] ∧ Ex H H' ∧ H' l = some (.lst (ds.map fun i : Nat => V.int (i : Int))) ∧ (∀ d ∈ ds, d < cs.length) ∧ ds.length ≤ 100 ∧ e ≤ rows.length ∧
        j + e = 1001 + m ∧ m ≤ e ∧ endF rows j ds e = endF rows 1001 (told r0) m) 1001
      ⟨told r0, m, l, none, none, none, rfl, e02.trans e3, e3 _ _ hl, htl, by
        have := List.length_filter_le (fun i => !decide (r0.getD i 46 = 46)) (List.range r0.length)
        rw [List.length_range] at this
        unfold told
        omega, h2, rfl, Nat.le_refl _, rfl⟩ fun j σ' H' hw => ?_
    obtain ⟨ds, e, l, o1, o2, o3, rfl, g1, g2, g3, g3l, g4, g5, g6, g7⟩ := hw
    obtain ⟨j', rfl⟩ : ∃ j', j = j' + 1 := ⟨j - 1, by omega⟩
    have g7' : (if ds = [] then some e else if e = rows.length then none else endF rows j' (ds.filter fun d => decide ((rows.getD e []).getD d 46 = 46)) (e + 1)) = endF rows 1001 (told r0) m := g7
    have eds : ds.map (fun i : Nat => V.int (i : Int)) = (ds.map fun i : Nat => (i : Int)).map V.int := by
      rw [List.map_map] <;> rfl
    refine ⟨!ds.isEmpty, et_is (et_test (ev_neNil (ds := dI (ds.map fun i : Nat => (i : Int))) (ev_var rfl) g2 (fun H => by rw [eds]; exact dp_I _) sh_I)) (by
      unfold dI
      cases ds <;> rfl), fun hb H4 e4 => ?_, fun hb H4 e4 => ?_⟩
    · have hne : ¬ ds = [] := fun z => by
        rw [z] at hb
        cases hb
      rw [if_neg hne] at g7'
      have e04 := g1.trans e4
      refine ⟨fun σ2 H2 => ∃ (l : Addr) (o1 o2 o3 : Option V), σ2 = [some (.ref s), some (.int (m : Int)), some (.ref l), some (.int ((e + 1 : Nat) : Int)), o1, o2, o3] ∧ e ≠ rows.length ∧ Ex H H2 ∧ H2 l = some (.lst ((ds.filter fun d => decide ((rows.getD e []).getD d 46 = 46)).map fun i : Nat => V.int (i : Int))),
        fun σ2 H2 hN => ?_, ?_⟩
      · obtain ⟨l2, p1, p2, p3, rfl, n0, n1, n2⟩ := hN
        rw [if_neg n0] at g7'
        exact ⟨j', Nat.lt_succ_self _, _, e + 1, l2, p1, p2, p3, rfl, n1, n2, fun d hd => g3 d (List.mem_filter.mp hd).1, Nat.le_trans (List.length_filter_le _ _) g3l, by omega, by omega, by omega, g7'⟩
      · refine q_when (b := decide (e = rows.length)) (et_is (et_test (ev_op (ev_var rfl) (ev_lenL (ev_fld (ev_var rfl) (e04 _ _ hs) T.c_Stream T.na_row_listS fsS_rows) (sq_of (e04 _ _ R.at_))) rv_eqI)) (by
          rw [List.length_map]
          exact decide_eq_decide.mpr (by omega))) (fun hc H5 e5 => ?_) (fun hc H5 e5 => ?_)
        · rw [if_pos (of_decide_eq_true hc)] at g7'
          rw [← g7'] at k
          exact s_ret ev_c fun H6 e6 => k H6 ((e04.trans e5).trans e6)
        · have hc' := of_decide_eq_false hc
          have e05 := e04.trans e5
          refine q_asg (ev_op (ev_fld (ev_var rfl) (e05 _ _ hs) T.c_Stream T.na_row_listS fsS_rows) (ev_var rfl) (rv_ixLn (sq_of (e05 _ _ R.at_)) (R.get (by omega)))) fun H6 e6 => ?_
          have e06 := e05.trans e6
          have g26 := ((e4.trans e5).trans e6) _ _ g2
          have hle := R.len (i := e) (by omega)
          refine q_asgL (xs := (ds.filter fun d => decide ((rows.getD e []).getD d 46 = 46)).map fun i : Nat => V.int (i : Int)) (eA (el_lc (vs := [5]) (n := ds.length) (by
              have q := ei_list (K := K) (tl := tVar 2) (σ := [some (.ref s), some (.int (m : Int)), some (.ref l), some (.int (e : Int)), some (vS (rows.getD e [])), o2, o3]) (j := 5) (it := fun i => .int ((ds.getD i 0 : Nat) : Int)) (ev_var rfl) (sq_of g26) (fun i hi => by
                rw [List.length_map] at hi
                rw [List.getElem?_map, getD_some (d := 0) hi] <;> rfl)
              rw [List.length_map] at q
              exact q) (by omega) (fun i => decide ((rows.getD e []).getD (ds.getD i 0) 46 = 46)) (fun i => .int ((ds.getD i 0 : Nat) : Int)) (fun i hi => rfl) (fun i hi => ?_) (fun i hi _ => ev_var rfl)) (given_map ds 0 (fun d => decide ((rows.getD e []).getD d 46 = 46)) (fun d => V.int (d : Int)))) fun l2 H7 nl2 e7 hl2 => ?_
          · have hd := g3 (ds.getD i 0) (by
              rw [List.getD_eq_getElem?_getD, List.getElem?_eq_getElem hi]
              exact List.getElem_mem hi)
            exact et_test (ev_op (ev_op (ev_var rfl) (ev_var rfl) (rv_ixSn (i := ds.getD i 0) (by omega) (getD_some (by omega)))) ev_c (rv_eq1 (b := 46)))
          · refine s_aug (a := (e : Int)) (b := 1) rfl ev_c fun H8 e8 => ⟨l2, some (vS (rows.getD e [])), o2, o3, ?_, hc', (e06.trans e7).trans e8, e8 _ _ hl2⟩
            have : ((e + 1 : Nat) : Int) = (e : Int) + 1 := by omega
            rw [this]
            rfl
    · have hne : ds = [] := by
        cases ds with
        | nil => rfl
        | cons d ds => cases hb
      rw [if_pos hne] at g7'
      rw [← g7'] at k
      exact s_ret (ev_var rfl) fun H6 e6 => k H6 ((g1.trans e4).trans e6)
abbrev n_Streamends : List Str := ["self", "at"]
theorem sc_Streamends : FnScope n_Streamends ["self"] (defScope s_Streamends) := ⟨rfl, rfl, rfl, by decide +kernel, rfl, by decide +kernel, by decide +kernel⟩
def spEnds (A : Ad) : Sp := fun vs H Q _ => ∃ (s : Addr) (cs : Cells) (kept rows : List (List Nat)), vs = [.ref s] ∧ StreamAt A H s cs kept rows ∧ RetL ((List.range rows.length).map fun i => optI (endN rows (i + 1))) H Q
theorem ok_Streamends (T : Tx K mg A) : FnOk P w K mg base CX0 8 (A.f "Stream.ends") (A.fd "Stream.ends") ["self"] (spEnds A) := by
  refine T.F_Streamends.ok sc_Streamends (fun vs H Q E h => ?_) (fun cdv A' outer s' H vs Q E hr h => ?_)
  · obtain ⟨s, cs, kept, rows, rfl, _⟩ := h
    rfl
  · obtain ⟨s, cs, kept, rows, rfl, hS, k⟩ := h
    obtain ⟨dx, b, rl, hs, hb, R, ok⟩ := id hS
    have hf := R.few
    refine ⟨_, PSs.nox (pss_one (ps_ret (pe_lc (own := [("at", 1)]) (g := (gName 1)) (by rfl) sc_Streamends.nd (pi_range1 (by rfl) T.n_range (pa_cons (pe_callB call_len_seq (by rfl) T.n_len PySem.boot_len (pa_cons (pe_fld (pv 0) rfl) pa_nil)) pa_nil)) (blkOk_by (own := [("at", 1)]) (N := n_Streamends) (sc := defScope s_Streamends) (by decide +kernel)) (fun _ _ _ _ _ => (pg_name (i := 1) sc_Streamends.nd rfl (Or.inl rfl) (Or.inr rfl))) (fun _ _ _ _ _ => pts_nil) (fun _ _ _ _ _ => (pe_meth (pv 0) T.c_Stream T.m_Streamendof (ok_Streamendof T) (hr.mono (by decide)) T.b_Streamendof .nil pass0 (pa_cons (pe_op op_add (pv 1) pe_int) pa_nil)))))) , ?_⟩
    refine s_retL (el_lcA (ei_rng1 (n := (rows.length : Int)) (ea1 (ev_is (ev_lenL (ev_fld (ev_var rfl) hs T.c_Stream T.na_row_listS fsS_rows) (sq_of R.at_)) (by rw [List.length_map]))) (by omega) (by omega)) (by omega) (fun i => optI (endN rows (i + 1))) (fun i hi => rfl) (fun i hi => ?_)) k
    exact ev_meth (dvs := []) (vs := [.int ((i + 1 : Nat) : Int)]) (ev_var rfl) hs (fsS_no (by decide +kernel) (by decide +kernel)) (ea1 (ev_is (ev_op (ev_var rfl) ev_c rv_add) (by
      show V.int _ = V.int _
      congr 1))) (fun H6 e6 Q q E => ⟨s, cs, kept, rows, i + 1, rfl, hS.ex e6, by omega, by omega, fun H7 e7 => q H7 e7⟩)
abbrev n_Streamtwin : List Str := ["self"]
theorem sc_Streamtwin : FnScope n_Streamtwin ["self"] (defScope s_Streamtwin) := ⟨rfl, rfl, rfl, by decide +kernel, rfl, by decide +kernel, by decide +kernel⟩
def spTwin (A : Ad) : Sp := fun vs H Q _ => ∃ (s : Addr) (cs : Cells) (kept rows : List (List Nat)), vs = [.ref s] ∧ StreamAt A H s cs kept rows ∧ rows.length ≤ 400 ∧ ∀ p H2, H p = none → Ex H H2 → StreamAt A H2 p cs kept rows → Q (.ref p) H2
theorem ok_Streamtwin (T : Tx K mg A) : FnOk P w K mg base CX0 10 (A.f "Stream.twin") (A.fd "Stream.twin") ["self"] (spTwin A) := by
  refine T.F_Streamtwin.ok sc_Streamtwin (fun vs H Q E h => ?_) (fun cdv A' outer s' H vs Q E hr h => ?_)
  · obtain ⟨s, cs, kept, rows, rfl, _⟩ := h
    rfl
  · obtain ⟨s, cs, kept, rows, rfl, hS, h4, k⟩ := h
    obtain ⟨dx, b, rl, hs, hb, R, ok⟩ := id hS
    refine ⟨_, PSs.nox (pss_one (ps_ret (pe_make T.mk_Stream (ok_Streaminit T) (hr.mono (by decide)) (by rfl) T.g_Stream T.b_Streaminit.choose_spec.2 T.b_Streaminit.choose_spec.1 pass0 (pa_cons (pe_fld (pv 0) rfl) (pa_cons (pe_fld (pv 0) rfl) pa_nil))))) , ?_⟩
    show tMake _ _ _ _ _ _ _ _
    refine ea2 (ev_fld (ev_var rfl) hs T.c_Stream T.na_band fsS_band) (ev_fld (ev_var rfl) hs T.c_Stream T.na_row_listS fsS_rows) H (Ex.refl H) _ fun H1 e1 x dx' nx ndx ne => ?_
    have e2 : Ex H1 (upd (upd H1 dx' (.own x)) x (.ins (A.C "Stream") dx' [])) := Ex.mut (Ex.new ndx) nx
    have e12 := e1.trans e2
    refine ⟨x, dx', b, rl, cs, kept, rows, rfl, upd_same, hb.ex e12, R.ex e12, ok, h4, fun H2 eh hS2 => ⟨rfl, k x H2 (fresh_back e1 nx) (fun a o ha => eh _ _ (hid_at (e12 a o ha) (ne_of_none (e1 a o ha) nx))) hS2⟩⟩
abbrev n_Streamput : List Str := ["self", "row", "behind"]
theorem sc_Streamput : FnScope n_Streamput ["self", "row", "behind"] (defScope s_Streamput) := ⟨rfl, rfl, rfl, by decide +kernel, rfl, by decide +kernel, by decide +kernel⟩
def spPut (A : Ad) : Sp := fun vs H Q _ => ∃ (s : Addr) (cs : Cells) (kept rows : List (List Nat)) (r : List Nat) (m : Nat), vs = [.ref s, vS r, .int (m : Int)] ∧ StreamAt A H s cs kept rows ∧ r.length = cs.length ∧ rowB cs r = true ∧ r ∈ kept ∧ m ≤ rows.length ∧ rows.length < 400 ∧
  ∀ H2, Ex (hid s H) H2 → StreamAt A H2 s cs kept (rows.take m ++ [r] ++ rows.drop m) → Q .non H2
theorem ok_Streamput (T : Tx K mg A) : FnOk P w K mg base CX0 8 (A.f "Stream.put") (A.fd "Stream.put") ["self", "row", "behind"] (spPut A) := by
  refine T.F_Streamput.ok sc_Streamput (fun vs H Q E h => ?_) (fun cdv A' outer s' H vs Q E hr h => ?_)
  · obtain ⟨s, cs, kept, rows, r, m, rfl, _⟩ := h
    rfl
  · obtain ⟨s, cs, kept, rows, r, m, rfl, hS, hrl, hrb, hrk, hm, h4, k⟩ := h
    obtain ⟨dx, b, rl, hs, hb, R, ok⟩ := id hS
    have ok12 := ok.few
    obtain ⟨dxb, cl, kd, sl, rlb, ll, hb1, hb2⟩ := id hb
    refine ⟨_, PSs.nox (pss_cons (ps_expr (pe_meth (pe_fld (pv 0) rfl) T.c_Band T.m_Bandcheckrow (ok_Bandcheckrow0 T) (hr.mono (by decide)) T.b_Bandcheckrow .nil pass0 (pa_cons (pv 1) pa_nil)))
      (pss_cons (ps_if (pt_not (pt_val (pe_call (ok_isnumber T) (hr.mono (by decide)) (by rfl) T.g_isnumber T.F_isnumber.kp T.b_isnumber .nil pass0 (pa_cons (pv 2) (pa_cons pe_int (pa_cons (pe_callB call_len_seq (by rfl) T.n_len PySem.boot_len (pa_cons (pe_fld (pv 0) rfl) pa_nil)) pa_nil))))))
      (pss_one ps_never)
      pss_nil)
      (pss_cons (ps_if (pt_cmpR op_eq (pe_callB call_len_seq (by rfl) T.n_len PySem.boot_len (pa_cons (pe_fld (pv 0) rfl) pa_nil)) (pe_glob (v := .int 400) (by rfl) T.g_MOST_MOMENTS.choose_spec ⟨_, rfl⟩) (nomark _))
      (pss_one ps_never)
      pss_nil)
      (pss_one (ps_fld (pv 0) (pe_op op_cat (pe_op op_cat (pe_slice sl_list (pe_fld (pv 0) rfl) po_none (po_some (pv 2))) (pe_lst (pa_cons (pv 1) pa_nil))) (pe_slice sl_list (pe_fld (pv 0) rfl) (po_some (pv 2)) po_none)) rfl))))) , ?_⟩
    refine q_drop (ev_meth (dvs := []) (vs := [vS r]) (ev_fld (ev_var rfl) hs T.c_Stream T.na_band fsS_band) hb1 (fsB_no (Or.inr (Or.inr rfl))) (ea1 (ev_var rfl)) (fun H6 e6 Q q E => ⟨b, cs, kept, r, rfl, hb.ex e6, by omega, hrl, hrb, hrk, fun H7 e7 => q H7 e7⟩)) fun H1 e1 => ?_
    refine q_skip (et_is (et_not (a := true) (et_is (et_B (ev_call (dvs := []) (ea3 (ev_var rfl) ev_c (ev_lenL (ev_fld (ev_var rfl) (e1 _ _ hs) T.c_Stream T.na_row_listS fsS_rows) (sq_of (e1 _ _ R.at_)))) (fun H6 e6 Q q E => ⟨_, _, _, _, rfl, .int _, fun H7 e7 => q H7 e7⟩))) (by
      rw [List.length_map]
      show (decide ((0 : Int) ≤ (m : Int)) && decide ((m : Int) ≤ (rows.length : Int))) = true
      rw [decide_eq_true (by omega), decide_eq_true (by omega)] <;> rfl))) rfl) fun H2 e2 => ?_
    have e02 := e1.trans e2
    refine q_skip (et_is (et_test (ev_op (ev_lenL (ev_fld (ev_var rfl) (e02 _ _ hs) T.c_Stream T.na_row_listS fsS_rows) (sq_of (e02 _ _ R.at_))) ev_c rv_eqI)) (by
      rw [List.length_map]
      exact decide_eq_false (by omega))) fun H3 e3 => ?_
    have e03 := e02.trans e3
    have hfl : ∀ (H4 : Hp), Ex H H4 → Ev (tFld K (tVar 0) "row_list") [some (.ref s), some (vS r), some (.int (m : Int))] H4 (.ref rl) := fun H4 e4 => ev_fld (ev_var rfl) (e4 _ _ hs) T.c_Stream T.na_row_listS fsS_rows
    refine s_fldL (xs := (rows.take m ++ [r] ++ rows.drop m).map vS) (eA (el_catN (xs := (rows.map vS).take (m : Int).toNat ++ [vS r]) (ys := (rows.map vS).drop (m : Int).toNat) (el_catN (el_slTo (hfl H3 e03) (ev_var rfl) (sq_of (e03 _ _ R.at_)) (by omega)) (el_lst (ea1 (ev_var rfl)) (by simp)) (by
        rw [List.length_take, List.length_map, List.length_singleton]
        omega)) (el_slFrom (hfl H3 e03) (ev_var rfl) (sq_of (e03 _ _ R.at_)) (by omega)) (by
        rw [List.length_append, List.length_take, List.length_drop, List.length_map, List.length_singleton]
        omega)) (by
        rw [Int.toNat_natCast, List.map_append, List.map_append, List.map_take, List.map_drop] <;> rfl)) (ev_var rfl) (e03 _ _ hs) T.c_Stream T.na_row_listS (Nat.lt_of_le_of_lt fsS_len (by decide)) fun p H4 np e4 hp => ?_
    have e04 := e03.trans e4
    rw [fsS_put]
    have nps : p ≠ s := (ne_of_none (e03 _ _ hs) np).symm
    have g4 : Ex (hid s H) (upd H4 s (.ins (A.C "Stream") dx (fsS (.ref b) (.ref p)))) := Ex.mut ((hid_ex s H).trans e04) (hid_none s H)
    have nbs : b ≠ s := by
      intro e
      rw [e, hs] at hb1
      have h3 := (HO.ins.inj (Option.some.inj hb1)).2.2
      have h4 := fsB_cell (cl := .ref cl) (sl := sl) (rl := rlb) (kr := .ref kd) (ll := ll)
      rw [← h3, fsS_no (by decide +kernel) (by decide +kernel)] at h4
      cases h4
    refine k _ g4 ⟨dx, b, p, upd_same, (hid_band hb (fun _ _ _ => nbs) ⟨_, _, _, hs⟩).ex g4, ⟨by rw [upd_ne nps]; exact hp, fun x hx => ?_, ?_, R.nar⟩, ⟨ok.one, ok.few, fun x hx => ?_⟩⟩
    · rcases List.mem_append.mp hx with hx | hx
      · rcases List.mem_append.mp hx with hx | hx
        · exact R.wid x (List.mem_of_mem_take hx)
        · rw [List.mem_singleton.mp hx]
          exact hrl
      · exact R.wid x (List.mem_of_mem_drop hx)
    · rw [List.length_append, List.length_append, List.length_take, List.length_drop, List.length_singleton]
      omega
    · rcases List.mem_append.mp hx with hx | hx
      · rcases List.mem_append.mp hx with hx | hx
        · exact ok.row x (List.mem_of_mem_take hx)
        · rw [List.mem_singleton.mp hx]
          exact ⟨hrb, hrk⟩
      · exact ok.row x (List.mem_of_mem_drop hx)
end
end Nt
end
section
set_option Elab.async false
set_option linter.all false
set_option maxRecDepth 100000
set_option maxHeartbeats 4000000
namespace Nt
open PySem PySem.Spec PyProof.Rows L2 Evl SX
section
variable {K : PySem.W.Frag} {σ : L2.St} {W H H' : Hp} {ta tb tc te tl td ty : TE} {t u : TT} {x y z v w' : V} {D : Ends} {tu tz : TS} {g : TG} {wi : TI}
/-- a method that may raise, its answer dropped -/
theorem q_dropM {a C dx : Addr} {fs : List (Str × V)} {m : Str} {sp : Sp} {dvs vs : List V} {E : XK} {tr : TA} (h : Ev ta σ H (.ref a)) (hi : H a = some (.ins C dx fs)) (hl : fs.lookup m = none) (ha : EvA tr σ H vs)
    (k : ∀ H1, Ex H H1 → sp (.ref a :: (vs ++ dvs)) H1 (fun _ H2 => tz D σ H2) E) : tSeq (tDrop (tMeth C m sp dvs E ta tr)) tz D σ H :=
  h H (Ex.refl H) _ fun H1 e1 => ⟨a, dx, fs, rfl, e1 _ _ hi, hl, ha H1 e1 _ fun H2 e2 => k H2 (e1.trans e2)⟩
/-- the loop over such an iterator -/
theorem for_fd {J : It} {n : Nat} {τ : Nat → L2.St → L2.St} (F : Feeds J g W n τ) (Pv : Nat → L2.St → Hp → Prop) (h0 : Pv 0 σ H) (hp : ∀ i σ' H', Pv i σ' H' → Ex W H')
    (hs : ∀ i σ' H', i < n → Pv i σ' H' → ∀ H1, Ex H' H1 → tu { D with nx := Pv (i + 1), ct := Pv (i + 1), bk := D.nx } (τ i σ') H1) (hd : ∀ σ' H', Pv n σ' H' → D.nx σ' H') :
    ∃ W0 : Nat → Nat → L2.St → Hp → Prop, (∃ m, W0 0 m σ H) ∧ ∀ i m σ H, W0 i m σ H →
      (J.stop i H ∧ D.nx σ H) ∨ (J.go i H ∧ ∃ N : L2.St → Hp → Prop, (∀ σ' H', N σ' H' → ∃ m', m' < m ∧ W0 (i + 1) m' σ' H') ∧ ∀ x H', J.yld i H x H' → g x σ H' fun σ2 H2 => tu { D with nx := N, ct := N, bk := D.nx } σ2 H2) := by
  refine ⟨fun i m σ' H' => m = n - i ∧ i ≤ n ∧ Pv i σ' H', ⟨n, by simp, Nat.zero_le _, h0⟩, fun i m σ' H' hI => ?_⟩
  obtain ⟨rfl, hi, p⟩ := hI
  by_cases hlt : i < n
  · refine Or.inr ⟨F.go i H' (hp i σ' H' p) hlt, Pv (i + 1), fun σ2 H2 p' => ⟨n - (i + 1), by omega, rfl, hlt, p'⟩, fun x H2 y => ?_⟩
    obtain ⟨e2, k⟩ := F.yld i H' x H2 (hp i σ' H' p) hlt y
    exact k _ _ (hs i σ' H' hlt p H2 e2)
  · have e : i = n := by omega
    subst e
    exact Or.inl ⟨F.stop H' (hp i σ' H' p), hd σ' H' p⟩
/-- over the list that a call (which may raise) gives -/
theorem q_forQ {n m j : Nat} {sp : Sp} {gV : List V → List V → List V} {E : L2.St → XK} {tr tk : TA} {vs zs : List V} (ha : EvA tr σ H vs) (hk : EvA tk σ H zs) (l1 : vs.length = n) (l2 : zs.length = m)
    (k : ∀ H1, Ex H H1 → sp (gV vs zs) H1 (fun v H2 => ∃ (a : Addr) (W : Hp) (c : Nat) (τ : Nat → L2.St → L2.St) (Pv : Nat → L2.St → Hp → Prop), v = .ref a ∧ (∃ xs, SqL K H2 a xs) ∧ Feeds (Itl K a) (gName j) W c τ ∧ Pv 0 σ H2 ∧ (∀ i σ' H', Pv i σ' H' → Ex W H') ∧
      (∀ i σ' H', i < c → Pv i σ' H' → ∀ H1, Ex H' H1 → tu { D with nx := Pv (i + 1), ct := Pv (i + 1), bk := tz D } (τ i σ') H1) ∧ ∀ σ' H', Pv c σ' H' → tz D σ' H') (E σ)) (mono : ∀ vs H (Q Q' : VK) E, sp vs H Q E → (∀ v H, Q v H → Q' v H) → sp vs H Q' E) :
    tSeq (tFor (iList K (Nr.tCallQ n m sp gV E tr tk)) (gName j) tu) tz D σ H :=
  ha H (Ex.refl H) _ fun H1 e1 => hk H1 e1 _ fun H2 e2 => ⟨l1, l2, mono _ _ _ _ _ (k H2 (e1.trans e2)) fun v H3 h => by
    obtain ⟨a, W, c, τ, Pv, rfl, h1, F, h0, hp, hs, hd⟩ := h
    exact ⟨a, rfl, h1, for_fd (D := { D with nx := tz D }) F Pv h0 hp hs hd⟩⟩
theorem ei_enumLN {xs : List V} {j k : Nat} {it : Nat → V} (h : EvL te σ W xs) (hi : ∀ i, i < xs.length → xs[i]? = some (it i)) :
    EvI (Nr.iEnumS K (tCons te tNil)) (gTup K 2 (gCons (gName j) (gCons (gName k) gNil))) σ W xs.length (fun i σ => (σ.set j (some (.int (i : Nat)))).set k (some (it i))) :=
  fun H e R q => h H e _ fun a H1 na e1 hx => ⟨.ref a, .lst a, rfl, rfl, ⟨xs, sq_of hx⟩, by
    have nw : W a = none := fresh_back e na
    refine q _ H1 (upd W a (.lst xs)) e1 (Ex.new nw) (fun b o hb => ?_) (fun b o hb => upd_ne (ne_of_none hb na)) (fd_enum (fun H2 e2 => sq_of (e2 _ _ upd_same)) hi)
    by_cases eb : b = a
    · subst eb
      rw [upd_same] at hb
      rw [← hb]
      exact hx
    · rw [upd_ne eb] at hb
      exact e1 b o (e b o hb)⟩
theorem ev_ixT {p : Addr} {xs : List V} {i : Nat} (h : Ev ta σ H (.ref p)) (ht : H p = some (.tup xs)) (ha : xs[i]? = some v) : Ev (tOp (rIxT K) ta (tC (.int (i : Int)))) σ H v := ev_op h ev_c (rv_ixTn (st_of ht) ha)
end
/-! ### data -/
def chg (rows : List (List Nat)) (r : List Nat) (m i : Nat) : Bool := decide (newest rows i m = 0) || !decide ((rows.getD (newest rows i m - 1) []).getD i 46 = r.getD i 46)
def seenL (rows : List (List Nat)) (r : List Nat) (m : Nat) : List (Option Nat × Bool) := (told r).map fun i => (nextF rows i m (rows.length - m), chg rows r m i)
def stD (l : List (Option Nat × Bool)) (i : Nat) : Option Nat × Bool := l.getD i (none, false)
def StrAt (H : Hp) (q : Addr) (m : Nat) (l : List (Option Nat × Bool)) : Prop := ∃ (ts : Nat → Addr) (nm : Nat → V), H q = some (.lst ((List.range l.length).map fun i => .ref (ts i))) ∧ ∀ i, i < l.length → H (ts i) = some (.tup [nm i, .int ((m : Int) + 1), optI (stD l i).1, .bl (stD l i).2])
theorem flt_succ (f : Nat → Bool) (i : Nat) : (List.range (i + 1)).filter f = (List.range i).filter f ++ (if f i = true then [i] else []) := by
  rw [List.range_succ, List.filter_append]
  congr 1
  cases h : f i <;> simp [h]
theorem newest_le (rows : List (List Nat)) (p : Nat) : ∀ m, newest rows p m ≤ m
  | 0 => Nat.le_refl _
  | m + 1 => by
    unfold newest
    split
    · exact Nat.le_succ_of_le (newest_le rows p m)
    · exact Nat.le_refl _
/-- what a row and a place raise, if anything -/
inductive Flt where
  | ok
  | bad
  | out
  | mom
def fault (cs : Cells) (kept : List (List Nat)) (n : Nat) (v p : V) : Flt :=
  if isRow cs v = false then .bad else if ∃ r ∈ kept, v = vS r then (if isNum p 0 (n : Int) = true then .ok else .mom) else .out
def Raised (A : Ad) (H : Hp) (v p : V) (E : XK) : Flt → Prop
  | .ok => True
  | .bad => Left A H "BadRow" "row" v E
  | .out => Left A H "NotInBand" "row" v E
  | .mom => Left A H "NoMoment" "moment" p E
theorem Raised.ex {A : Ad} {H H' : Hp} {v p : V} {E : XK} {f : Flt} (h : Raised A H v p E f) (e : Ex H H') : Raised A H' v p E f := by
  cases f with
  | ok => trivial
  | bad => exact Left.ex h e
  | out => exact Left.ex h e
  | mom => exact Left.ex h e
/-- what is asked of the two arguments -/
structure Args2 (H : Hp) (v p : V) : Prop where
  pv : ∃ t, Pl H v t
  pp : ∃ t, Pl H p t
  len : ∀ z, v = .str z → z.cps.toList.length ≤ 1000
theorem Args2.ex {H H' : Hp} {v p : V} (a : Args2 H v p) (e : Ex H H') : Args2 H' v p := by
  obtain ⟨t, ht⟩ := a.pv
  obtain ⟨t2, ht2⟩ := a.pp
  exact ⟨⟨t, ht.ex e⟩, ⟨t2, ht2.ex e⟩, a.len⟩
theorem isNum_int {p : V} {n : Int} (h : isNum p 0 n = true) : ∃ m : Nat, p = .int (m : Int) ∧ (m : Int) ≤ n := by
  cases p with
  | int i =>
    have h2 : (decide (0 ≤ i) && decide (i ≤ n)) = true := h
    rw [Bool.and_eq_true] at h2
    have h3 := of_decide_eq_true h2.1
    have h4 := of_decide_eq_true h2.2
    exact ⟨i.toNat, by rw [Int.toNat_of_nonneg h3], by rw [Int.toNat_of_nonneg h3]; exact h4⟩
  | non => exact absurd (show (false : Bool) = true from h) (by decide)
  | bl b => exact absurd (show (false : Bool) = true from h) (by decide)
  | str z => exact absurd (show (false : Bool) = true from h) (by decide)
  | byt b => exact absurd (show (false : Bool) = true from h) (by decide)
  | flt b => exact absurd (show (false : Bool) = true from h) (by decide)
  | ref b => exact absurd (show (false : Bool) = true from h) (by decide)
  | ty b => exact absurd (show (false : Bool) = true from h) (by decide)
section
variable {P : Program} {w : World} {K : PySem.W.Frag} {mg : Str → Option Value} {base : Heap} {A : Ad}
abbrev n_seen : List Str := ["stream", "row", "behind", "rows", "stretches", "place", "name", "older", "changing"]
theorem sc_seen : FnScope n_seen ["stream", "row", "behind"] (defScope s_seen) := ⟨rfl, rfl, rfl, by decide +kernel, rfl, by decide +kernel, by decide +kernel⟩
def spSeen (A : Ad) : Sp := fun vs H Q E => ∃ (s : Addr) (cs : Cells) (kept rows : List (List Nat)) (v p : V), vs = [.ref s, v, p] ∧ StreamAt A H s cs kept rows ∧ (∀ r ∈ kept, r.length = cs.length) ∧ Args2 H v p ∧ Raised A H v p E (fault cs kept rows.length v p) ∧
  ∀ (r : List Nat) (m : Nat), v = vS r → r ∈ kept → r.length = cs.length → rowB cs r = true → p = .int (m : Int) → m ≤ rows.length → ∀ q H2, Ex H H2 → StrAt H2 q m (seenL rows r m) → Q (.ref q) H2
theorem ok_seen (T : Tx K mg A) : FnOk P w K mg base (L2.CX P w) 8 (A.f "seen") (A.fd "seen") ["stream", "row", "behind"] (spSeen A) := by
  refine T.F_seen.ok sc_seen (fun vs H Q E h => ?_) (fun cdv A' outer s' H vs Q E hr h => ?_)
  · obtain ⟨s, cs, kept, rows, v, p, rfl, _⟩ := h
    rfl
  · obtain ⟨s, cs, kept, rows, v, p, rfl, hS, hkl, hA, hR, k⟩ := h
    obtain ⟨dx, b, rl, hs, hb, R, ok⟩ := id hS
    obtain ⟨dxb, cl, kd, sl, rlb, ll, hb1, hb2⟩ := id hb
    have ok12 := ok.few
    have hf := R.few
    obtain ⟨t, hv⟩ := hA.pv
    obtain ⟨t2, hp⟩ := hA.pp
    refine ⟨_, (pss_cons (ps_expr (pe_meth (pe_fld (pv 0) rfl) T.c_Band T.m_Bandcheckrow (ok_Bandcheckrow T) (hr.mono (by decide)) T.b_Bandcheckrow .nil (passes_call (takes_of rfl rfl rfl rfl) (fun _ _ _ _ h => h)) (pa_cons (pv 1) pa_nil)))
      (pss_cons (ps_set (i := 3) sc_seen.nd rfl (Or.inl rfl) (pe_meth0 (pv 0) T.c_Stream T.m_Streamrows (ok_Streamrows T) (hr.mono (by decide)) T.b_Streamrows .nil pass0))
      (pss_cons (ps_if (pt_not (pt_val (pe_call (ok_isnumber T) (hr.mono (by decide)) (by rfl) T.g_isnumber T.F_isnumber.kp T.b_isnumber .nil pass0 (pa_cons (pv 2) (pa_cons pe_int (pa_cons (pe_callB call_len_seq (by rfl) T.n_len PySem.boot_len (pa_cons (pv 3) pa_nil)) pa_nil))))))
      (pss_one (ps_raise rfl (takes_of rfl rfl rfl rfl) (pmk_oexL T.x_NoMoment T.i_NoMoment T.t_NoMoment (ok_NoMomentinit T) (hr.mono (by decide)) T.b_NoMomentinit .nil pass0 (by rfl) T.g_NoMoment (pa_cons (pv 2) pa_nil))))
      pss_nil)
      (pss_cons (ps_set (i := 4) sc_seen.nd rfl (Or.inl rfl) (pe_lst pa_nil))
      (pss_cons (ps_for (passes_of rfl) rfl (Nr.pi_enumS (by rfl) T.n_enumerate (pa_cons (pe_meth0 (pe_fld (pv 0) rfl) T.c_Band T.m_Bandnames (ok_Bandnames T) (hr.mono (by decide)) T.b_Bandnames .nil pass0) pa_nil)) (pg_tup rfl (pgs_cons (pg_name (i := 5) sc_seen.nd rfl (Or.inl rfl) (Or.inr rfl)) (pgs_cons (pg_name (i := 6) sc_seen.nd rfl (Or.inl rfl) (Or.inr rfl)) pgs_nil)))
      (pss_one (ps_if (pt_cmpR op_ne (pe_ix ix_str (pv 1) (pv 5) (fun _ _ => rfl)) pe_str (nomark _))
      (pss_cons (ps_set (i := 7) sc_seen.nd rfl (Or.inl rfl) (pe_call (ok_newestat T) (hr.mono (by decide)) (by rfl) T.g_newestat T.F_newestat.kp T.b_newestat .nil pass0 (pa_cons (pv 3) (pa_cons (pv 5) (pa_cons (pv 2) pa_nil)))))
      (pss_cons (ps_set (i := 8) sc_seen.nd rfl (Or.inl rfl) (pe_or (pe_cmpR op_eq (pv 7) pe_int (nomark _)) (pe_one (pe_cmpR op_ne (pe_ix ix_str (pe_ix ix_list (pv 3) (pe_op op_sub (pv 7) pe_int) (fun _ _ => rfl)) (pv 5) (fun _ _ => rfl)) (pe_ix ix_str (pv 1) (pv 5) (fun _ _ => rfl)) (nomark _)))))
      (pss_one (ps_expr (pe_bm PySem.F.plainAttrs_list PySem.F.slot_list_append PySem.F.type_list_append mt_append (pv 4) (pa_cons (pe_tup (pa_cons (pv 6) (pa_cons (pe_op op_add (pv 2) pe_int) (pa_cons (pe_call (ok_nextat T) (hr.mono (by decide)) (by rfl) T.g_nextat T.F_nextat.kp T.b_nextat .nil pass0 (pa_cons (pv 3) (pa_cons (pv 5) (pa_cons (pv 2) pa_nil)))) (pa_cons (pv 8) pa_nil))))) pa_nil))))))
      pss_nil)))
      (pss_one (ps_ret (pv 4)))))))) , ?_⟩
    refine q_dropM (dvs := []) (vs := [v]) (ev_fld (ev_var rfl) hs T.c_Stream T.na_band fsS_band) hb1 (fsB_no (Or.inr (Or.inr rfl))) (ea1 (ev_var rfl)) fun H1 e1 => ⟨b, cs, kept, v, t, rfl, hb.ex e1, by omega, hv.ex e1, hA.len, fun h => ?_, fun h h2 => ?_, fun h h2 H2 e2 => ?_⟩
    · have ef : fault cs kept rows.length v p = .bad := by
        unfold fault
        rw [if_pos h]
      rw [ef] at hR
      exact Left.ex hR e1
    · have ef : fault cs kept rows.length v p = .out := by
        unfold fault
        rw [if_neg (by rw [h]; decide), if_neg h2]
      rw [ef] at hR
      exact Left.ex hR e1
    · have e02 := e1.trans e2
      have ef : fault cs kept rows.length v p = if isNum p 0 (rows.length : Int) = true then .ok else .mom := by
        unfold fault
        rw [if_neg (by rw [h]; decide), if_pos h2]
      rw [ef] at hR
      refine q_asgL (xs := rows.map vS) (el_meth (dvs := []) (vs := []) (ev_var rfl) (e02 _ _ hs) (fsS_no (by decide +kernel) (by decide +kernel)) ea_nil (fun H6 e6 Q q E => ⟨s, cs, kept, rows, rfl, hS.ex (e02.trans e6), fun p H7 np e7 h7 => q p H7 np e7 h7⟩)) fun l H3 nl e3 hl => ?_
      have e03 := e02.trans e3
      have Rl : RowsAt H3 l rows cs.length := ⟨hl, R.wid, R.few, R.nar⟩
      refine q_when (b := !isNum p 0 (rows.length : Int)) (et_not (et_is (et_B (ev_call (dvs := []) (ea3 (ev_var rfl) ev_c (ev_lenL (ev_var rfl) (sq_of hl))) (fun H6 e6 Q q E => ⟨p, t2, _, _, rfl, hp.ex (e03.trans e6), fun H7 e7 => q H7 e7⟩))) (by rw [List.length_map]))) (fun hn H4 e4 => ?_) (fun hn H4 e4 => ?_)
      · have hn' : isNum p 0 (rows.length : Int) = false := by simpa using hn
        rw [hn', if_neg (by decide)] at hR
        exact mk_left (by decide +kernel) (ev_var rfl) (Left.ex hR (e03.trans e4))
      · have hn' : isNum p 0 (rows.length : Int) = true := by simpa using hn
        obtain ⟨m, rfl, hm'⟩ := isNum_int hn'
        have hm : m ≤ rows.length := by omega
        obtain ⟨r, hrk, rfl⟩ := h2
        have hrow : (decide (r.length = cs.length) && rowB cs r) = true := h
        rw [Bool.and_eq_true] at hrow
        have hrl := of_decide_eq_true hrow.1
        have kk := k r m rfl hrk hrl hrow.2 rfl hm
        refine q_asgL (el_lst ea_nil (by decide)) fun q H5 nq e5 hq => ?_
        have e04 := e03.trans e4
        have e05 := e04.trans e5
        have nq0 : H q = none := fresh_back e04 nq
        have hlq : l ≠ q := ne_of_none (e4 _ _ hl) nq
        refine q_forF (W := H4) (n := cs.length) (by
            have h := ei_enumLN (K := K) (W := H4) (te := tMeth (A.C "Band") "names" (spNames A) [] E0 (tFld K (tVar 0) "band") tNil) (xs := (cs.map (fun c : List Nat × Nat => c.1)).map vS) (σ := [some (.ref s), some (vS r), some (.int (m : Int)), some (.ref l), some (.ref q), none, none, none, none]) (j := 5) (k := 6) (it := fun i => vS (cellD cs i).1)
              (el_meth (dvs := []) (vs := []) (ev_fld (ev_var rfl) (e04 _ _ hs) T.c_Stream T.na_band fsS_band) (e04 _ _ hb1) (fsB_no (Or.inl rfl)) ea_nil (fun H6 e6 Q q E => ⟨b, cs, kept, rfl, hb.ex (e04.trans e6), by omega, fun p H7 np e7 h7 => q p H7 np e7 h7⟩)) (fun i hi => by
                rw [List.length_map, List.length_map] at hi
                rw [List.getElem?_map, List.getElem?_map, getD_some (l := cs) (d := ([], 0)) hi] <;> rfl)
            rw [List.length_map, List.length_map] at h
            exact h) e5
          (fun W1 i σ' H' => ∃ (acc : List Addr) (nm : List V) (o1 o2 o3 o4 : Option V), σ' = [some (.ref s), some (vS r), some (.int (m : Int)), some (.ref l), some (.ref q), o1, o2, o3, o4] ∧ W1 q = none ∧ Ex W1 H' ∧ H' q = some (.lst (acc.map V.ref)) ∧
            acc.length = ((List.range i).filter fun i => !decide (r.getD i 46 = 46)).length ∧ (∀ j, j < acc.length → H' (acc.getD j 0) = some (.tup [nm.getD j .non, .int ((m : Int) + 1), optI (nextF rows (((List.range i).filter fun i => !decide (r.getD i 46 = 46)).getD j 0) m (rows.length - m)), .bl (chg rows r m (((List.range i).filter fun i => !decide (r.getD i 46 = 46)).getD j 0))])) ∧ nm.length = acc.length)
          (fun W1 H6 e6 eW ew hW => ⟨[], [], none, none, none, none, rfl, by rw [hW q _ hq]; exact nq, ew, e6 _ _ hq, rfl, fun j hj => absurd hj (Nat.not_lt_zero _), rfl⟩)
          (fun W1 i σ' H' h => by
            obtain ⟨_, _, _, _, _, _, _, _, h, _⟩ := h
            exact h) (fun W1 i σ' H' eW hi h H6 e6 => ?_) (fun W1 σ' H' eW h => ?_)
        · obtain ⟨acc, nm, o1, o2, o3, o4, rfl, w1, q1, q2, q3, q4, q5⟩ := h
          have e46 := (eW.trans q1).trans e6
          have e06 := e04.trans e46
          have Rl6 := Rl.ex (e4.trans e46)
          have hflt := flt_succ (fun i => !decide (r.getD i 46 = 46)) i
          refine s_when (b := !decide (r.getD i 46 = 46)) (et_test (ev_op (ev_op (ev_var rfl) (ev_var rfl) (rv_ixSn (i := i) (by omega) (getD_some (by omega)))) ev_c (rv_ne1 (b := 46)))) (fun hb' H7 e7 => ?_) (fun hb' H7 e7 => ?_)
          · have h46 : ¬ r.getD i 46 = 46 := by simpa using hb'
            rw [if_pos hb'] at hflt
            have R7 := Rl6.ex e7
            have hnl := newest_le rows i m
            refine q_asg (v := .int (newest rows i m : Int)) (ev_call (dvs := []) (ea3 (ev_var rfl) (ev_var rfl) (ev_var rfl)) (fun H6 e6 Q q E => ⟨l, rows, cs.length, i, m, rfl, R7.ex e6, hi, hm, fun H7 e7 => q H7 e7⟩)) fun H8 e8 => ?_
            refine q_asg (v := .bl (chg rows r m i)) (ev_is (ev_orV (a := decide (newest rows i m = 0)) (b := !decide ((rows.getD (newest rows i m - 1) []).getD i 46 = r.getD i 46)) (ev_is (ev_op (ev_var rfl) ev_c rv_eqI) (by
                congr 1
                exact decide_eq_decide.mpr (by omega))) fun h0 => ev_op (ev_rc (i := newest rows i m - 1) (R7.ex e8) (ev_var rfl) (ev_is (ev_op (ev_var rfl) ev_c rv_sub) (by
                  have := of_decide_eq_false h0
                  show V.int _ = V.int _
                  congr 1
                  omega)) (ev_var rfl) (by have := of_decide_eq_false h0; omega) hi) (ev_op (ev_var rfl) (ev_var rfl) (rv_ixSn (i := i) (by omega) (getD_some (by omega)))) rv_ne1) rfl) fun H9 e9 => ?_
            have e69 := (e7.trans e8).trans e9
            refine s_appU (l := q) (xs := acc.map V.ref) (ys := [vS (cellD cs i).1, .int ((m : Int) + 1), optI (nextF rows i m (rows.length - m)), .bl (chg rows r m i)]) (e69 _ _ (e6 _ _ q2)) (ev_var rfl) (eu_tup (ea_cons (ev_var rfl) (ea_cons (ev_op (ev_var rfl) ev_c rv_add) (ea2 (ev_call (dvs := []) (ea3 (ev_var rfl) (ev_var rfl) (ev_var rfl)) (fun H6 e6 Q q E => ⟨l, rows, cs.length, i, m, rfl, (R7.ex (e8.trans e9)).ex e6, hi, hm, fun H7 e7 => q H7 e7⟩)) (ev_var rfl)))) (by simp)) (by
              have hq3 := List.length_filter_le (fun i => !decide (r.getD i 46 = 46)) (List.range i)
              rw [List.length_range] at hq3
              rw [List.length_map]
              omega) fun tq H10 nt e10 ht => ?_
            have hqt : q ≠ tq := ne_of_none (e69 _ _ (e6 _ _ q2)) nt
            have e610 := e69.trans e10
            refine ⟨acc ++ [tq], nm ++ [vS (cellD cs i).1], _, _, _, _, rfl, w1, Ex.mut ((q1.trans e6).trans e610) w1, by rw [upd_same, List.map_append] <;> rfl, by rw [hflt, List.length_append, List.length_append, q3] <;> rfl, fun j hj => ?_, by rw [List.length_append, List.length_append, q5] <;> rfl⟩
            rw [List.length_append, List.length_singleton] at hj
            rw [hflt]
            by_cases hj2 : j < acc.length
            · have a1 : (acc ++ [tq]).getD j 0 = acc.getD j 0 := by
                rw [List.getD_eq_getElem?_getD, List.getElem?_append_left hj2, ← List.getD_eq_getElem?_getD]
              have a2 : (nm ++ [vS (cellD cs i).1]).getD j .non = nm.getD j .non := by
                rw [List.getD_eq_getElem?_getD, List.getElem?_append_left (by omega), ← List.getD_eq_getElem?_getD]
              have a3 : ((List.range i).filter (fun i => !decide (r.getD i 46 = 46)) ++ [i]).getD j 0 = ((List.range i).filter (fun i => !decide (r.getD i 46 = 46))).getD j 0 := by
                rw [List.getD_eq_getElem?_getD, List.getElem?_append_left (by omega), ← List.getD_eq_getElem?_getD]
              rw [a1, a2, a3, upd_ne (ne_of (q4 j hj2) q2 (by intro z; cases z))]
              exact e610 _ _ (e6 _ _ (q4 j hj2))
            · have hj3 : j = acc.length := by omega
              subst hj3
              have a1 : (acc ++ [tq]).getD acc.length 0 = tq := by
                rw [List.getD_eq_getElem?_getD, List.getElem?_append_right (Nat.le_refl _)]
                simp
              have a2 : (nm ++ [vS (cellD cs i).1]).getD acc.length .non = vS (cellD cs i).1 := by
                rw [← q5, List.getD_eq_getElem?_getD, List.getElem?_append_right (Nat.le_refl _)]
                simp
              have a3 : ((List.range i).filter (fun i => !decide (r.getD i 46 = 46)) ++ [i]).getD acc.length 0 = i := by
                rw [q3, List.getD_eq_getElem?_getD, List.getElem?_append_right (Nat.le_refl _)]
                simp
              rw [a1, a2, a3, upd_ne hqt.symm]
              exact ht
          · have h46 : r.getD i 46 = 46 := by simpa using hb'
            rw [if_neg (by rw [hb']; decide), List.append_nil] at hflt
            refine ⟨acc, nm, _, _, _, _, rfl, w1, (q1.trans e6).trans e7, e7 _ _ (e6 _ _ q2), by rw [hflt]; exact q3, fun j hj => ?_, q5⟩
            rw [hflt]
            exact e7 _ _ (e6 _ _ (q4 j hj))
        · obtain ⟨acc, nm, o1, o2, o3, o4, rfl, w1, q1, q2, q3, q4, q5⟩ := h
          have eH := e04.trans (eW.trans q1)
          refine s_ret (ev_var rfl) fun H6 e6 => kk q H6 (eH.trans e6) ⟨fun j => acc.getD j 0, fun j => nm.getD j .non, ?_, fun j hj => ?_⟩
          · have el : (seenL rows r m).length = acc.length := by
              unfold seenL told
              rw [List.length_map, q3, hrl]
            rw [el, range_map (fun a => V.ref a) acc 0]
            exact e6 _ _ q2
          · have el : (seenL rows r m).length = acc.length := by
              unfold seenL told
              rw [List.length_map, q3, hrl]
            have h4 := q4 j (by omega)
            have hjl : j < (told r).length := by
              unfold told
              rw [hrl, ← q3]
              omega
            have e5 : stD (seenL rows r m) j = (nextF rows (((List.range cs.length).filter fun i => !decide (r.getD i 46 = 46)).getD j 0) m (rows.length - m), chg rows r m (((List.range cs.length).filter fun i => !decide (r.getD i 46 = 46)).getD j 0)) := by
              unfold stD seenL
              rw [List.getD_eq_getElem?_getD, List.getElem?_map, getD_some (d := 0) hjl]
              unfold told
              rw [hrl]
              rfl
            rw [e5]
            exact e6 _ _ h4
end
end Nt
end
section
set_option Elab.async false
set_option linter.all false
set_option maxRecDepth 100000
set_option maxHeartbeats 4000000
namespace Nt
open PySem PySem.Spec PyProof.Rows L2 Evl SX
def untilF (n : Nat) : List (Option Nat × Bool) → Nat → Nat
  | [], u => u
  | (o, c) :: rest, u => if c = true then (match o with | none => n + 1 | some e => untilF n rest (max u e)) else untilF n rest u
def latF (rows : List (List Nat)) (r st : List Nat) : List Nat → Int → Int
  | [], l => l
  | i :: rest, l => latF rows r st rest (if r.getD i 46 ≠ 46 ∧ r.getD i 46 ≠ st.getD i 46 then min l ((newest rows i rows.length : Int) - 1) else l)
def optZ (l : Int) : V := if l < 0 then .non else .int l
section
variable {P : Program} {w : World} {K : PySem.W.Frag} {mg : Str → Option Value} {base : Heap} {A : Ad} {σ : L2.St} {H : Hp} {ta : TE}
theorem ev_lenO {s : Addr} {cs : Cells} {kept rows : List (List Nat)} {E : XK} (h : Ev ta σ H (.ref s)) (hS : StreamAt A H s cs kept rows) : Ev (tCB (Nr.rLenO (A.C "Stream") (spStreamLen A) E) (tCons ta tNil)) σ H (.int (rows.length : Int)) := fun H1 e Q q =>
  h H1 e _ fun H2 e2 => by
    have hS2 := hS.ex (e.trans e2)
    obtain ⟨dx, b, rl, hs, hb, R, ok⟩ := id hS2
    have := R.few
    exact ⟨s, dx, _, rfl, hs, s, cs, kept, rows, rfl, hS2, fun H3 e3 => ⟨_, rfl, ⟨by omega, by omega⟩, q H3 (e2.trans e3)⟩⟩
abbrev n_showsuntil : List Str := ["stream", "row", "behind", "until", "stretch"]
theorem sc_showsuntil : FnScope n_showsuntil ["stream", "row", "behind"] (defScope s_showsuntil) := ⟨rfl, rfl, rfl, by decide +kernel, rfl, by decide +kernel, by decide +kernel⟩
def spUntil (A : Ad) : Sp := fun vs H Q E => ∃ (s : Addr) (cs : Cells) (kept rows : List (List Nat)) (v p : V), vs = [.ref s, v, p] ∧ StreamAt A H s cs kept rows ∧ (∀ r ∈ kept, r.length = cs.length) ∧ Args2 H v p ∧ Raised A H v p E (fault cs kept rows.length v p) ∧
  ∀ (r : List Nat) (m : Nat), v = vS r → r ∈ kept → r.length = cs.length → rowB cs r = true → p = .int (m : Int) → m ≤ rows.length → RetV (.int (untilF rows.length (seenL rows r m) 0 : Int)) H Q
theorem seen_mono : ∀ (vs : List V) (H : Hp) (Q Q' : VK) (E : XK), spSeen A vs H Q E → (∀ v H, Q v H → Q' v H) → spSeen A vs H Q' E := fun vs H Q Q' E h m => by
  obtain ⟨s, cs, kept, rows, v, p, e, h1, h2, h3, h4, k⟩ := h
  exact ⟨s, cs, kept, rows, v, p, e, h1, h2, h3, h4, fun r n a b c d e f q H2 e2 hs => m _ _ (k r n a b c d e f q H2 e2 hs)⟩
theorem ok_showsuntil (T : Tx K mg A) : FnOk P w K mg base (L2.CX P w) 12 (A.f "shows_until") (A.fd "shows_until") ["stream", "row", "behind"] (spUntil A) := by
  refine T.F_showsuntil.ok sc_showsuntil (fun vs H Q E h => ?_) (fun cdv A' outer s' H vs Q E hr h => ?_)
  · obtain ⟨s, cs, kept, rows, v, p, rfl, _⟩ := h
    rfl
  · obtain ⟨s, cs, kept, rows, v, p, rfl, hS, hkl, hA, hR, k⟩ := h
    refine ⟨_, (pss_cons (ps_set (i := 3) sc_showsuntil.nd rfl (Or.inl rfl) pe_int)
      (pss_cons (ps_for (passes_of rfl) rfl (pi_list (Nr.pe_callQ (ok_seen T) (hr.mono (by decide)) (by rfl) T.g_seen T.F_seen.kp T.kb_seen (Nr.at_of_passes (passes_call (takes_of rfl rfl rfl rfl) (fun _ _ _ _ h => h))) (pa_cons (pv 0) (pa_cons (pv 1) pa_nil)) (pk_cons (pv 2) pk_nil))) (pg_name (i := 4) sc_showsuntil.nd rfl (Or.inl rfl) (Or.inr rfl))
      (pss_cons (ps_if (PW.pt (pw_and (pt_val (pe_ix ix_tup (pv 4) pe_int (fun _ _ => rfl))) (pw_and1 (pt_cmpR op_isN (pe_ix ix_tup (pv 4) pe_int (fun _ _ => rfl)) pe_non (nomark _)))))
      (pss_one (ps_ret (pe_op op_add (pe_callB (Nr.call_lenO T.m_Streamlen.at_ T.m_Streamlen.fn (ok_Streamlen T) (hr.mono (by decide)) T.b_Streamlen pass0) (by rfl) T.n_len PySem.boot_len (pa_cons (pv 0) pa_nil)) pe_int)))
      pss_nil)
      (pss_one (ps_if (pt_val (pe_ix ix_tup (pv 4) pe_int (fun _ _ => rfl)))
      (pss_one (ps_set (i := 3) sc_showsuntil.nd rfl (Or.inl rfl) (pe_callB (call_max2 rfl) (by rfl) T.n_max (by decide +kernel) (pa_cons (pv 3) (pa_cons (pe_ix ix_tup (pv 4) pe_int (fun _ _ => rfl)) pa_nil)))))
      pss_nil))))
      (pss_one (ps_ret (pv 3))))) , ?_⟩
    refine q_asg ev_c fun H1 e1 => ?_
    refine q_forQ (vs := [.ref s, v]) (zs := [p]) (ea2 (ev_var rfl) (ev_var rfl)) (ea1 (ev_var rfl)) rfl rfl (fun H2 e2 => ?_) seen_mono
    have e02 := e1.trans e2
    refine ⟨s, cs, kept, rows, v, p, rfl, hS.ex e02, hkl, hA.ex e02, hR.ex e02, fun r m hv hrk hrl hrb hp hm q H3 e3 hst => ?_⟩
    have kk := k r m hv hrk hrl hrb hp hm
    subst hv hp
    obtain ⟨ts, nm, g1, g2⟩ := hst
    generalize hL : seenL rows r m = L at g1 g2 kk
    have F : Feeds (Itl K q) (gName 4) H3 L.length (fun i σ => σ.set 4 (some (.ref (ts i)))) := by
      have F := fd_list (K := K) (W := H3) (a := q) (j := 4) (it := fun i => .ref (ts i)) (sq_of g1) (fun i hi => range_get (by rw [List.length_map, List.length_range] at hi; exact hi))
      rw [List.length_map, List.length_range] at F
      exact F
    have e03 := e02.trans e3
    refine ⟨q, H3, L.length, _, fun i σ' H' => Ex H3 H' ∧ ∃ (u : Nat) (o : Option V), σ' = [some (.ref s), some (vS r), some (.int (m : Int)), some (.int (u : Int)), o] ∧ untilF rows.length (L.drop i) u = untilF rows.length L 0, rfl, ⟨_, sq_of g1⟩, F, ⟨Ex.refl _, 0, none, rfl, rfl⟩, fun i σ' H' h => h.1, fun i σ' H' hi h H4 e4 => ?_, fun σ' H' h => ?_⟩
    · obtain ⟨f1, u, o, rfl, f2⟩ := h
      have e34 := f1.trans e4
      have ht := e34 _ _ (g2 i hi)
      rw [drop_get (d := ((none, false) : Option Nat × Bool)) hi] at f2
      have f2' : (if (stD L i).2 = true then (match (stD L i).1 with | none => rows.length + 1 | some e => untilF rows.length (L.drop (i + 1)) (max u e)) else untilF rows.length (L.drop (i + 1)) u) = untilF rows.length L 0 := f2
      have hS4 := hS.ex (e03.trans e34)
      refine q_when (b := (stD L i).2 && decide ((stD L i).1 = none)) (et_is (et_and (et_B (ev_ixT (i := 3) (ev_var rfl) ht rfl)) fun _ => et_is (et_test (ev_op (ev_ixT (i := 2) (ev_var rfl) ht rfl) ev_c rv_isN)) (b := decide ((stD L i).1 = none)) (by cases (stD L i).1 <;> simp [optI])) rfl) (fun hb H5 e5 => ?_) (fun hb H5 e5 => ?_)
      · rw [Bool.and_eq_true] at hb
        rw [if_pos hb.1, of_decide_eq_true hb.2] at f2'
        rw [← f2'] at kk
        refine s_ret (ev_is (ev_op (ev_lenO (ev_var rfl) (hS4.ex e5)) ev_c rv_add) ?_) fun H6 e6 => kk H6 ((e03.trans e34).trans (e5.trans e6))
        show V.int _ = V.int _
        congr 1
      · have ht5 := e5 _ _ ht
        refine s_when (b := (stD L i).2) (et_B (ev_ixT (i := 3) (ev_var rfl) ht5 rfl)) (fun hc H6 e6 => ?_) (fun hc H6 e6 => ?_)
        · rw [if_pos hc] at f2'
          rw [hc, Bool.true_and] at hb
          obtain ⟨e, he⟩ : ∃ e, (stD L i).1 = some e := by
            cases h1 : (stD L i).1 with
            | none => exact absurd h1 (of_decide_eq_false hb)
            | some e => exact ⟨e, rfl⟩
          rw [he] at f2'
          have ht6 := e6 _ _ ht5
          rw [he] at ht6
          refine s_asg (ev_is (ev_max2 (ev_var rfl) (ev_ixT (i := 2) (ev_var rfl) ht6 rfl)) (w := .int ((max u e : Nat) : Int)) (by
            show V.int _ = V.int _
            congr 1
            by_cases hlt : (e : Int) > (u : Int)
            · rw [if_pos hlt]
              omega
            · rw [if_neg hlt]
              omega)) fun H7 e7 => ⟨((e34.trans e5).trans e6).trans e7, max u e, _, rfl, f2'⟩
        · rw [if_neg (by rw [hc]; decide)] at f2'
          exact ⟨(e34.trans e5).trans e6, u, _, rfl, f2'⟩
    · obtain ⟨f1, u, o, rfl, f2⟩ := h
      rw [List.drop_length] at f2
      have f2' : u = untilF rows.length L 0 := f2
      rw [← f2'] at kk
      exact s_ret (ev_var rfl) fun H6 e6 => kk H6 ((e03.trans f1).trans e6)
/-- where nothing is raised -/
theorem fault_ok {cs : Cells} {kept : List (List Nat)} {n m : Nat} {r : List Nat} (hr : r ∈ kept) (hl : r.length = cs.length) (hb : rowB cs r = true) (hm : m ≤ n) : fault cs kept n (vS r) (.int (m : Int)) = .ok := by
  have h1 : isRow cs (vS r) = true := by
    show (decide (r.length = cs.length) && rowB cs r) = true
    rw [decide_eq_true hl, hb] <;> rfl
  have h2 : isNum (.int (m : Int)) 0 (n : Int) = true := by
    show (decide ((0 : Int) ≤ (m : Int)) && decide ((m : Int) ≤ (n : Int))) = true
    rw [decide_eq_true (by omega), decide_eq_true (by omega)] <;> rfl
  unfold fault
  rw [if_neg (by rw [h1]; decide), if_pos ⟨r, hr, rfl⟩, if_pos h2]
theorem args_ok {H : Hp} {r : List Nat} {m : Nat} (h : r.length ≤ 1000) : Args2 H (vS r) (.int (m : Int)) := ⟨⟨_, .str _⟩, ⟨_, .int _⟩, fun z hz => by
  cases hz
  exact h⟩
def spUntil0 (A : Ad) : Sp := fun vs H Q _ => ∃ (s : Addr) (cs : Cells) (kept rows : List (List Nat)) (r : List Nat) (m : Nat), vs = [.ref s, vS r, .int (m : Int)] ∧ StreamAt A H s cs kept rows ∧ (∀ r ∈ kept, r.length = cs.length) ∧ r ∈ kept ∧ rowB cs r = true ∧ m ≤ rows.length ∧
  RetV (.int (untilF rows.length (seenL rows r m) 0 : Int)) H Q
theorem ok_showsuntil0 (T : Tx K mg A) : FnOk P w K mg base CX0 12 (A.f "shows_until") (A.fd "shows_until") ["stream", "row", "behind"] (spUntil0 A) := calm_fn (ok_showsuntil T) fun vs H Q E h => by
  obtain ⟨s, cs, kept, rows, r, m, rfl, hS, hkl, hr, hb, hm, k⟩ := h
  obtain ⟨dx, b, rl, hs, hbd, R, ok⟩ := id hS
  have := R.nar
  have hl := hkl r hr
  refine ⟨s, cs, kept, rows, _, _, rfl, hS, hkl, args_ok (by omega), ?_, fun r' m' e1 _ _ _ e2 _ => ?_⟩
  · rw [fault_ok hr hl hb hm]
    trivial
  · cases vS_inj e1
    have e3 := V.int.inj e2
    have e4 : m' = m := by omega
    subst e4
    exact k
def spSeen0 (A : Ad) : Sp := fun vs H Q _ => ∃ (s : Addr) (cs : Cells) (kept rows : List (List Nat)) (r : List Nat) (m : Nat), vs = [.ref s, vS r, .int (m : Int)] ∧ StreamAt A H s cs kept rows ∧ (∀ r ∈ kept, r.length = cs.length) ∧ r ∈ kept ∧ rowB cs r = true ∧ m ≤ rows.length ∧
  ∀ q H2, Ex H H2 → StrAt H2 q m (seenL rows r m) → Q (.ref q) H2
theorem ok_seen0 (T : Tx K mg A) : FnOk P w K mg base CX0 8 (A.f "seen") (A.fd "seen") ["stream", "row", "behind"] (spSeen0 A) := calm_fn (ok_seen T) fun vs H Q E h => by
  obtain ⟨s, cs, kept, rows, r, m, rfl, hS, hkl, hr, hb, hm, k⟩ := h
  obtain ⟨dx, b, rl, hs, hbd, R, ok⟩ := id hS
  have := R.nar
  have hl := hkl r hr
  refine ⟨s, cs, kept, rows, _, _, rfl, hS, hkl, args_ok (by omega), ?_, fun r' m' e1 _ _ _ e2 _ => ?_⟩
  · rw [fault_ok hr hl hb hm]
    trivial
  · cases vS_inj e1
    have e3 := V.int.inj e2
    have e4 : m' = m := by omega
    subst e4
    exact k
theorem stand_len {n : Nat} {rows : List (List Nat)} (h : ∀ r ∈ rows, r.length = n) : (stand n rows).length = n := by
  unfold stand
  rw [wrow_len _ _ fun r hr => by rw [List.length_replicate]; exact h r (List.mem_reverse.mp hr), List.length_replicate]
abbrev n_latestidle : List Str := ["stream", "row", "rows", "standing", "latest", "place", "sign"]
theorem sc_latestidle : FnScope n_latestidle ["stream", "row"] (defScope s_latestidle) := ⟨rfl, rfl, rfl, by decide +kernel, rfl, by decide +kernel, by decide +kernel⟩
def spIdle (A : Ad) : Sp := fun vs H Q _ => ∃ (s : Addr) (cs : Cells) (kept rows : List (List Nat)) (r : List Nat), vs = [.ref s, vS r] ∧ StreamAt A H s cs kept rows ∧ r.length = cs.length ∧ r ∈ kept ∧ rowB cs r = true ∧
  RetV (optZ (latF rows r (stand cs.length rows) (List.range r.length) (rows.length : Int))) H Q
theorem ok_latestidle (T : Tx K mg A) : FnOk P w K mg base CX0 12 (A.f "latest_idle") (A.fd "latest_idle") ["stream", "row"] (spIdle A) := by
  refine T.F_latestidle.ok sc_latestidle (fun vs H Q E h => ?_) (fun cdv A' outer s' H vs Q E hr h => ?_)
  · obtain ⟨s, cs, kept, rows, r, rfl, _⟩ := h
    rfl
  · obtain ⟨s, cs, kept, rows, r, rfl, hS, hrl, hrk, hrb, k⟩ := h
    obtain ⟨dx, b, rl, hs, hb, R, ok⟩ := id hS
    obtain ⟨dxb, cl, kd, sl, rlb, ll, hb1, hb2⟩ := id hb
    have ok12 := ok.few
    have hf := R.few
    refine ⟨_, PSs.nox (pss_cons (ps_expr (pe_meth (pe_fld (pv 0) rfl) T.c_Band T.m_Bandcheckrow (ok_Bandcheckrow0 T) (hr.mono (by decide)) T.b_Bandcheckrow .nil pass0 (pa_cons (pv 1) pa_nil)))
      (pss_cons (ps_set (i := 2) sc_latestidle.nd rfl (Or.inl rfl) (pe_meth0 (pv 0) T.c_Stream T.m_Streamrows (ok_Streamrows T) (hr.mono (by decide)) T.b_Streamrows .nil pass0))
      (pss_cons (ps_set (i := 3) sc_latestidle.nd rfl (Or.inl rfl) (pe_prop (pv 0) T.c_Stream T.p_Streamstanding (ok_Streamstanding T) (hr.mono (by decide)) T.b_Streamstanding .nil pass0 rfl))
      (pss_cons (ps_set (i := 4) sc_latestidle.nd rfl (Or.inl rfl) (pe_callB call_len_seq (by rfl) T.n_len PySem.boot_len (pa_cons (pv 2) pa_nil)))
      (pss_cons (ps_for PassesOwn.never rfl (Nr.pi_enumS (by rfl) T.n_enumerate (pa_cons (pv 1) pa_nil)) (pg_tup rfl (pgs_cons (pg_name (i := 5) sc_latestidle.nd rfl (Or.inl rfl) (Or.inr rfl)) (pgs_cons (pg_name (i := 6) sc_latestidle.nd rfl (Or.inl rfl) (Or.inr rfl)) pgs_nil)))
      (pss_one (ps_if (PW.pt (pw_and (pt_cmpR op_ne (pv 6) pe_str (nomark _)) (pw_and1 (pt_cmpR op_ne (pv 6) (pe_ix ix_str (pv 3) (pv 5) (fun _ _ => rfl)) (nomark _)))))
      (pss_one (ps_set (i := 4) sc_latestidle.nd rfl (Or.inl rfl) (pe_callB (call_min2 rfl) (by rfl) T.n_min (by decide +kernel) (pa_cons (pv 4) (pa_cons (pe_op op_sub (pe_call (ok_newestat T) (hr.mono (by decide)) (by rfl) T.g_newestat T.F_newestat.kp T.b_newestat .nil pass0 (pa_cons (pv 2) (pa_cons (pv 5) (pa_cons (pe_callB call_len_seq (by rfl) T.n_len PySem.boot_len (pa_cons (pv 2) pa_nil)) pa_nil)))) pe_int) pa_nil)))))
      pss_nil)))
      (pss_cons (ps_if (pt_cmpR op_lt (pv 4) pe_int (nomark _))
      (pss_one (ps_ret pe_non))
      pss_nil)
      (pss_one (ps_ret (pv 4))))))))) , ?_⟩
    refine q_drop (ev_meth (dvs := []) (vs := [vS r]) (ev_fld (ev_var rfl) hs T.c_Stream T.na_band fsS_band) hb1 (fsB_no (Or.inr (Or.inr rfl))) (ea1 (ev_var rfl)) (fun H6 e6 Q q E => ⟨b, cs, kept, r, rfl, hb.ex e6, by omega, hrl, hrb, hrk, fun H7 e7 => q H7 e7⟩)) fun H1 e1 => ?_
    refine q_asgL (xs := rows.map vS) (el_meth (dvs := []) (vs := []) (ev_var rfl) (e1 _ _ hs) (fsS_no (by decide +kernel) (by decide +kernel)) ea_nil (fun H6 e6 Q q E => ⟨s, cs, kept, rows, rfl, hS.ex (e1.trans e6), fun p H7 np e7 h7 => q p H7 np e7 h7⟩)) fun l H2 nl e2 hl => ?_
    have e02 := e1.trans e2
    have Rl : RowsAt H2 l rows cs.length := ⟨hl, R.wid, R.few, R.nar⟩
    refine q_asg (ev_prop (dvs := []) (ev_var rfl) (e02 _ _ hs) (fun H6 e6 Q q E => ⟨s, cs, kept, rows, rfl, hS.ex (e02.trans e6), fun H7 e7 => q H7 e7⟩)) fun H3 e3 => ?_
    have hsl := stand_len R.wid
    generalize hst : stand cs.length rows = st at k hsl
    refine q_asg (v := .int (rows.length : Int)) (ev_is (ev_lenL (ev_var rfl) (sq_of (e3 _ _ hl))) (by rw [List.length_map])) fun H4 e4 => ?_
    have e24 := e3.trans e4
    have e04 := e02.trans e24
    refine q_forF (W := H4) (n := r.length) (ei_enumS (l := r) (c := fun i => r.getD i 46) (ea1 (ev_var rfl)) (fun i hi => getD_some hi)) (Ex.refl H4)
      (fun W1 i σ' H' => Ex W1 H' ∧ ∃ (la : Int) (o1 o2 : Option V), σ' = [some (.ref s), some (vS r), some (.ref l), some (vS st), some (.int la), o1, o2] ∧ latF rows r st ((List.range r.length).drop i) la = latF rows r st (List.range r.length) (rows.length : Int))
      (fun W1 H5 e5 eW ew hW => ⟨ew, _, none, none, rfl, rfl⟩) (fun W1 i σ' H' h => h.1) (fun W1 i σ' H' eW hi h H5 e5 => ?_) (fun W1 σ' H' eW h => ?_)
    · obtain ⟨g1, la, o1, o2, rfl, f⟩ := h
      have e45 := (eW.trans g1).trans e5
      have R5 := Rl.ex (e24.trans e45)
      have hd : (List.range r.length).drop i = i :: (List.range r.length).drop (i + 1) := by
        have q := drop_get (l := List.range r.length) (i := i) (d := 0) (by rw [List.length_range]; exact hi)
        rw [q]
        congr 1
        rw [List.getD_eq_getElem?_getD, List.getElem?_range hi] <;> rfl
      rw [hd] at f
      have f' : latF rows r st ((List.range r.length).drop (i + 1)) (if r.getD i 46 ≠ 46 ∧ r.getD i 46 ≠ st.getD i 46 then min la ((newest rows i rows.length : Int) - 1) else la) = latF rows r st (List.range r.length) (rows.length : Int) := f
      refine s_when (b := decide (r.getD i 46 ≠ 46 ∧ r.getD i 46 ≠ st.getD i 46)) (et_is (et_and (et_test (ev_op (ev_var rfl) ev_c (rv_ne1 (b := 46)))) fun _ => et_test (ev_op (ev_var rfl) (ev_op (ev_var rfl) (ev_var rfl) (rv_ixSn (i := i) (by omega) (getD_some (d := 46) (by omega)))) rv_ne1)) (by
        rw [Bool.decide_and, ← decide_not, ← decide_not])) (fun hb' H6 e6 => ?_) (fun hb' H6 e6 => ?_)
      · rw [if_pos (of_decide_eq_true hb')] at f'
        have R6 := R5.ex e6
        refine s_asg (ev_is (ev_min2 (ev_var rfl) (ev_op (ev_call (dvs := []) (ea3 (ev_var rfl) (ev_var rfl) (ev_is (ev_lenL (ev_var rfl) (sq_of R6.at_)) (w := .int (rows.length : Int)) (by rw [List.length_map]))) (fun H6 e6 Q q E => ⟨l, rows, cs.length, i, rows.length, rfl, R6.ex e6, by omega, Nat.le_refl _, fun H7 e7 => q H7 e7⟩)) ev_c rv_sub)) (w := .int (min la ((newest rows i rows.length : Int) - 1))) (by
          congr 1
          by_cases hlt : (newest rows i rows.length : Int) - 1 < la
          · rw [if_pos hlt]
            omega
          · rw [if_neg hlt]
            omega)) fun H7 e7 => ⟨((g1.trans e5).trans e6).trans e7, _, _, _, rfl, f'⟩
      · rw [if_neg (of_decide_eq_false hb')] at f'
        exact ⟨(g1.trans e5).trans e6, la, _, _, rfl, f'⟩
    · obtain ⟨g1, la, o1, o2, rfl, f⟩ := h
      have e4' := e04.trans (eW.trans g1)
      have hdr : (List.range r.length).drop r.length = [] := List.drop_eq_nil_of_le (by rw [List.length_range]; exact Nat.le_refl _)
      rw [hdr] at f
      have f' : la = latF rows r st (List.range r.length) (rows.length : Int) := f
      rw [← f'] at k
      unfold optZ at k
      refine q_when (b := decide (la < 0)) (et_test (ev_op (ev_var rfl) ev_c rv_lt)) (fun hb' H6 e6 => ?_) (fun hb' H6 e6 => ?_)
      · rw [if_pos (of_decide_eq_true hb')] at k
        exact s_ret ev_c fun H7 e7 => k H7 (e4'.trans (e6.trans e7))
      · rw [if_neg (of_decide_eq_false hb')] at k
        exact s_ret (ev_var rfl) fun H7 e7 => k H7 (e4'.trans (e6.trans e7))
end
end Nt
end
section
set_option Elab.async false
set_option linter.all false
set_option maxRecDepth 100000
set_option maxHeartbeats 4000000
namespace Nt
open PySem PySem.Spec PyProof.Rows L2 Evl SX
section
variable {K : PySem.W.Frag} {σ : L2.St} {W H H' : Hp} {ta tb tc te tl td ty : TE} {t u : TT} {x y z v w' : V} {D : Ends} {tu tz : TS} {g : TG} {wi : TI}
theorem q_par {ta : TA} {i j : Nat} (h : EvA ta σ H [x, y]) (k : ∀ H1, Ex H H1 → tz D ((σ.set i (some x)).set j (some y)) H1) : tSeq (tPar i j ta) tz D σ H := h H (Ex.refl H) _ fun H1 e1 => ⟨x, y, rfl, k H1 e1⟩
theorem s_par {ta : TA} {i j : Nat} (h : EvA ta σ H [x, y]) (k : ∀ H1, Ex H H1 → D.nx ((σ.set i (some x)).set j (some y)) H1) : tPar i j ta D σ H := h H (Ex.refl H) _ fun H1 e1 => ⟨x, y, rfl, k H1 e1⟩
theorem q_par3 {ta : TA} {i j l : Nat} (h : EvA ta σ H [x, y, z]) (k : ∀ H1, Ex H H1 → tz D (((σ.set i (some x)).set j (some y)).set l (some z)) H1) : tSeq (tPar3 i j l ta) tz D σ H := h H (Ex.refl H) _ fun H1 e1 => ⟨x, y, z, rfl, k H1 e1⟩
theorem ev_call2L {sp : Sp} {dvs xs : List V} {E : XK} (h1 : Ev ta σ H x) (h2 : EvL tb σ H xs) (hs : ∀ p H1, Ex H H1 → H1 p = some (.lst xs) → SpV sp ([x, .ref p] ++ dvs) H1 z) : Ev (tCall sp dvs E (tCons ta (tCons tb tNil))) σ H z := fun H1 e Q q =>
  h1 H1 e _ fun H2 e2 => h2 H2 (e.trans e2) _ fun p H3 _ e3 hp => hs p H3 ((e.trans e2).trans e3) hp H3 (Ex.refl H3) Q (fun H4 e4 => q H4 ((e2.trans e3).trans e4)) E
theorem ev_neg1 : Ev (tUn (rU fun i => .int (-i)) (tC (.int 1))) σ H (.int (-1)) := fun H1 e Q q => ⟨1, rfl, q H1 (Ex.refl H1)⟩
theorem rv_ixLast {p : Addr} {xs : List V} (h : SqL K H p xs) (hl : xs.getLast? = some v) : RV (rIxL K) (.ref p) (.int (-1)) H v := by
  obtain ⟨l, rfl⟩ := List.getLast?_eq_some_iff.mp hl
  exact rv_ixL h (atI_last l v)
theorem inV_I {a : Nat} {l : List Nat} : inV (.int (a : Int)) (l.map fun m : Nat => V.int (m : Int)) = decide (a ∈ l) := by
  unfold inV
  induction l with
  | nil => simp
  | cons b l ih =>
    rw [List.map_cons, List.any_cons, ih]
    have e : eqV (.int (b : Int)) (.int (a : Int)) = ((b : Int) == (a : Int)) := rfl
    rw [e]
    by_cases h : b = a
    · subst h
      simp
    · have h1 : ¬ (b : Int) = (a : Int) := by omega
      have h2 : ¬ a = b := fun z => h z.symm
      simp [h1, h2]
theorem flatI (l : List Nat) : (l.map fun m : Nat => V.int (m : Int)).all flatV = true := by
  rw [List.all_map]
  exact List.all_eq_true.mpr fun _ _ => rfl
theorem mapNI (l : List Nat) : (l.map fun m : Nat => V.int (m : Int)) = (l.map fun m : Nat => (m : Int)).map V.int := by
  rw [List.map_map] <;> rfl
/-- xs == [], xs != [] of ints -/
theorem ev_eqNilI {p : Addr} {l : List Nat} (h : Ev ta σ H (.ref p)) (hp : H p = some (.lst (l.map fun m : Nat => V.int (m : Int)))) : Ev (tOp (rEqD K) ta (tLst tNil)) σ H (.bl l.isEmpty) :=
  ev_is (ev_eqNil (ds := dI (l.map fun m : Nat => (m : Int))) h hp (fun H => by rw [mapNI]; exact dp_I _) sh_I) (by
    unfold dI
    cases l <;> rfl)
theorem ev_neNilI {p : Addr} {l : List Nat} (h : Ev ta σ H (.ref p)) (hp : H p = some (.lst (l.map fun m : Nat => V.int (m : Int)))) : Ev (tOp (rNeD K) ta (tLst tNil)) σ H (.bl (!l.isEmpty)) :=
  ev_is (ev_neNil (ds := dI (l.map fun m : Nat => (m : Int))) h hp (fun H => by rw [mapNI]; exact dp_I _) sh_I) (by
    unfold dI
    cases l <;> rfl)
theorem ev_neNilS {p : Addr} {l : List (List Nat)} (h : Ev ta σ H (.ref p)) (hp : H p = some (.lst (l.map vS))) (ha : ∀ x ∈ l, ∀ c ∈ x, c < 1114112) : Ev (tOp (rNeD K) ta (tLst tNil)) σ H (.bl (!l.isEmpty)) :=
  ev_is (ev_neNil (ds := dS l) h hp (fun H => dp_S l) (sh_S ha)) (by
    unfold dS
    cases l <;> rfl)
end
/-! ### data -/
def lastS (rows : List (List Nat)) (k : Nat) : Nat := (((rows.filter fun r => !decide (r.getD k 46 = 46)).map fun r => r.getD k 46).getLast?).getD 46
def lstand (n : Nat) (rows : List (List Nat)) : List Nat := (List.range n).map (lastS rows)
def stepL (f0 : List Nat) (rows : List (List Nat)) (s : List Nat) : List (List Nat) := if ov f0 s ∈ rows then rows else rows ++ [ov f0 s]
def clo (sown : List (List Nat)) (cap : Nat) : Nat → Nat → List (List Nat) → Option (List (List Nat))
  | 0, _, fd => some fd
  | f + 1, k, fd => if k < fd.length then (if (sown.foldl (stepL (fd.getD k [])) fd).length > cap then none else clo sown cap f (k + 1) (sown.foldl (stepL (fd.getD k [])) fd)) else clo sown cap f (k + 1) fd
def spots (rows : List (List Nat)) (k : Nat) : List Nat := (List.range rows.length).filter fun i => !decide ((rows.getD i []).getD k 46 = 46)
def ltelStep (rows : List (List Nat)) (acc : List Nat) (k : Nat) : List Nat := match (spots rows k).getLast? with
  | none => acc
  | some i => if i + 1 ∈ acc then acc else acc ++ [i + 1]
def ltel (n : Nat) (rows : List (List Nat)) : List Nat := (List.range n).foldl (ltelStep rows) []
def later (rows : List (List Nat)) (m k : Nat) : List Nat := (List.range (rows.length - m)).filter fun i => !decide ((rows.getD (m + i) []).getD k 46 = 46)
def lendF (rows : List (List Nat)) (m : Nat) : List Nat → Nat → Option Nat
  | [], last => some last
  | k :: ks, last => if (rows.getD (m - 1) []).getD k 46 = 46 then lendF rows m ks last else match (later rows m k).head? with
    | none => none
    | some i => lendF rows m ks (max last (m + 1 + i))
def lend (n : Nat) (rows : List (List Nat)) (m : Nat) : Option Nat := lendF rows m (List.range n) m
def lunF (rows : List (List Nat)) : Nat → Nat → Nat → List Nat → List Nat → Nat
  | 0, _, f, _, _ => f
  | j + 1, b, f, wo, wi => if b ≤ rows.length then lunF rows j (b + 1) (if wo = wi then f else b) (ov (rows.getD (b - 1) []) wo) (ov (rows.getD (b - 1) []) wi) else lunF rows j (b + 1) (if wo = wi then f else b) wo wi
def luntil (n : Nat) (rows : List (List Nat)) (r : List Nat) (p : Nat) : Nat := lunF rows (rows.length + 1 - p) (p + 1) 0 (lstand n (rows.take p)) (ov r (lstand n (rows.take p)))
def Asc (rows : List (List Nat)) : Prop := ∀ x ∈ rows, ∀ c ∈ x, c < 1114112
theorem getD_asc {x : List Nat} (h : ∀ c ∈ x, c < 1114112) (k : Nat) : x.getD k 46 < 1114112 := by
  rw [List.getD_eq_getElem?_getD]
  cases e : x[k]? with
  | none => decide
  | some c => exact h c (List.mem_of_getElem? e)
theorem lstand_len (n : Nat) (rows : List (List Nat)) : (lstand n rows).length = n := by
  unfold lstand
  rw [List.length_map, List.length_range]
theorem stepL_len (r0 : List Nat) (rows : List (List Nat)) (s : List Nat) : (stepL r0 rows s).length ≤ rows.length + 1 := by
  unfold stepL
  split
  · omega
  · rw [List.length_append, List.length_singleton]
    exact Nat.le_refl _
section
variable {P : Program} {w : World} {K : PySem.W.Frag} {mg : Str → Option Value} {base : Heap} {A : Ad}
abbrev n_wover : List Str := ["_law_one", "_law_two", "_law_k"]
theorem sc_wover : FnScope n_wover ["_law_one", "_law_two"] (defScope s_wover) := ⟨rfl, rfl, rfl, by decide +kernel, rfl, by decide +kernel, by decide +kernel⟩
theorem ok_wover (T : Tx K mg A) : FnOk P w K mg base CX0 2 (A.f "_law_over") (A.fd "_law_over") ["_law_one", "_law_two"] spOver := by
  refine T.F_wover.ok sc_wover (fun vs H Q E h => ?_) (fun cdv A' outer s H vs Q E hr h => ?_)
  · obtain ⟨a, b, rfl, _⟩ := h
    rfl
  · obtain ⟨a, b, rfl, ha, hb, k⟩ := h
    refine ⟨_, PSs.nox (pss_one (ps_ret (pe_join pe_str (pe_lc (own := [("_law_k", 2)]) (g := (gName 2)) (by rfl) sc_wover.nd (pi_range1 (by rfl) T.n_range (pa_cons (pe_callB call_len_str (by rfl) T.n_len PySem.boot_len (pa_cons (pv 0) pa_nil)) pa_nil)) (blkOk_by (own := [("_law_k", 2)]) (N := n_wover) (sc := defScope s_wover) (by decide +kernel)) (fun _ _ _ _ _ => (pg_name (i := 2) sc_wover.nd rfl (Or.inl rfl) (Or.inr rfl))) (fun _ _ _ _ _ => pts_nil) (fun _ _ _ _ _ => (pe_ifExp (pt_cmpR op_ne (pe_ix ix_str (pv 0) (pv 2) (fun _ _ => rfl)) pe_str (nomark _)) (pe_ix ix_str (pv 0) (pv 2) (fun _ _ => rfl)) (pe_ix ix_str (pv 1) (pv 2) (fun _ _ => rfl)))))))) , ?_⟩
    refine s_ret (ev_join1 rfl (eA (el_lcA (ei_rng1 (n := (a.length : Int)) (m := a.length) (ea1 (ev_lenS (ev_var rfl) (by omega))) (by omega) (by omega)) (by omega) (fun i => vS [if a.getD i 0 = 46 then b.getD i 0 else a.getD i 0]) (fun i hi => rfl) (fun i hi => ?_)) ?_) ?_) k
    · refine ev_if (et_test (ev_op (ev_op (ev_var rfl) (ev_var rfl) (rv_ixSn (i := i) (by omega) (getD_some (d := 0) hi))) ev_c (rv_ne1 (b := 46)))) (fun h => ?_) (fun h => ?_)
      · have h' : ¬ a.getD i 0 = 46 := by simpa using h
        rw [if_neg h']
        exact ev_op (ev_var rfl) (ev_var rfl) (rv_ixSn (i := i) (by omega) (getD_some (d := 0) hi))
      · have h' : a.getD i 0 = 46 := by simpa using h
        rw [if_pos h']
        exact ev_op (ev_var rfl) (ev_var rfl) (rv_ixSn (i := i) (by omega) (getD_some (d := 0) (by omega)))
    · rw [range_zip (fun s t => vS [if s = 46 then t else s]) a b 0 0 ha]
      show _ = (ov a b).map _
      unfold ov
      rw [List.map_zipWith]
    · unfold ov
      rw [List.length_zipWith]
      omega
abbrev n_wstanding : List Str := ["_law_wide", "_law_part", "_law_found", "_law_k", "_law_signs", "_law_line_here"]
theorem sc_wstanding : FnScope n_wstanding ["_law_wide", "_law_part"] (defScope s_wstanding) := ⟨rfl, rfl, rfl, by decide +kernel, rfl, by decide +kernel, by decide +kernel⟩
def spLstand : Sp := fun vs H Q _ => ∃ (a : Addr) (rows : List (List Nat)) (n : Nat), vs = [.int (n : Int), .ref a] ∧ RowsAt H a rows n ∧ Asc rows ∧ RetV (vS (lstand n rows)) H Q
theorem ok_wstanding (T : Tx K mg A) : FnOk P w K mg base CX0 2 (A.f "_law_standing") (A.fd "_law_standing") ["_law_wide", "_law_part"] spLstand := by
  refine T.F_wstanding.ok sc_wstanding (fun vs H Q E h => ?_) (fun cdv A' outer s H vs Q E hr h => ?_)
  · obtain ⟨a, rows, n, rfl, _⟩ := h
    rfl
  · obtain ⟨a, rows, n, rfl, R, hasc, k⟩ := h
    have hn := R.nar
    have hf := R.few
    refine ⟨_, PSs.nox (pss_cons (ps_set (i := 2) sc_wstanding.nd rfl (Or.inl rfl) pe_str)
      (pss_cons (ps_for PassesOwn.never rfl (pi_range1 (by rfl) T.n_range (pa_cons (pv 0) pa_nil)) (pg_name (i := 3) sc_wstanding.nd rfl (Or.inr rfl) (Or.inl rfl))
      (pss_cons (ps_setLc (i := 4) (own := [("_law_line_here", 5)]) (g := (gName 5)) (by rfl) sc_wstanding.nd rfl rfl (sw_true rfl rfl rfl (by decide +kernel)) (pi_list (pv 1)) (blkOk_by (own := [("_law_line_here", 5)]) (N := n_wstanding) (sc := defScope s_wstanding) (by decide +kernel)) (fun _ _ _ _ _ => (pg_name (i := 5) sc_wstanding.nd rfl (Or.inl rfl) (Or.inr rfl))) (fun _ _ _ _ _ => (pts_one (pt_cmpR op_ne (pe_ix ix_str (pv 5) (pv 3) (fun _ _ => rfl)) pe_str (nomark _)))) (fun _ _ _ _ _ => (pe_ix ix_str (pv 5) (pv 3) (fun _ _ => rfl))))
      (pss_one (ps_set (i := 2) sc_wstanding.nd rfl (Or.inl rfl) (pe_op op_add_str (pv 2) (pe_ifExp (pt_cmpR (op_neD hr.units) (pv 4) (pe_lst pa_nil) (nomark _)) (pe_ix ix_list (pv 4) (pe_un un_neg pe_int) (fun _ _ => rfl)) pe_str))))))
      (pss_one (ps_ret (pv 2))))) , ?_⟩
    refine q_asg (ev_lit (l := []) rfl) fun H1 e1 => ?_
    refine q_forF (W := H1) (n := n) (ei_rng1 (ea1 (ev_var rfl)) (by omega) (by omega)) (Ex.refl H1)
      (fun W1 i σ' H' => Ex W1 H' ∧ ∃ o1 o2 o3, σ' = [some (.int (n : Int)), some (.ref a), some (vS (lstand i rows)), o1, o2, o3])
      (fun W1 H2 e2 eW ew hW => ⟨ew, none, none, none, rfl⟩) (fun W1 i σ' H' h => h.1) (fun W1 i σ' H' eW hi h H2 e2 => ?_) (fun W1 σ' H' eW h => ?_)
    · obtain ⟨g1, o1, o2, o3, rfl⟩ := h
      have eH := (e1.trans eW).trans (g1.trans e2)
      have R2 := R.ex eH
      refine q_asgL (xs := ((rows.filter fun r => !decide (r.getD i 46 = 46)).map fun r => [r.getD i 46]).map vS) (eA (el_lc (vs := [5]) (n := rows.length) (by
          have q := ei_list (K := K) (tl := tVar 1) (σ := [some (.int (n : Int)), some (.ref a), some (vS (lstand i rows)), some (.int (i : Int)), o2, o3]) (j := 5) (it := fun i => vS (rows.getD i [])) (ev_var rfl) (sq_of R2.at_) (fun i hi => R2.get (by rw [List.length_map] at hi; exact hi))
          rw [List.length_map] at q
          exact q) (by omega) (fun j => !decide ((rows.getD j []).getD i 46 = 46)) (fun j => vS [(rows.getD j []).getD i 46]) (fun j hj => rfl) (fun j hj => ?_) (fun j hj _ => ?_)) ((given_map rows [] (fun r => !decide (r.getD i 46 = 46)) (fun r => vS [r.getD i 46])).trans (by rw [List.map_map] <;> rfl))) fun l H3 nl e3 hl => ?_
      · have := R.len hj
        exact et_test (ev_op (ev_op (ev_var rfl) (ev_var rfl) (rv_ixSn (i := i) (by omega) (getD_some (by omega)))) ev_c (rv_ne1 (b := 46)))
      · have := R.len hj
        exact ev_op (ev_var rfl) (ev_var rfl) (rv_ixSn (i := i) (by omega) (getD_some (by omega)))
      · refine s_asg (ev_op (ev_var rfl) (y := vS [lastS rows i]) (ev_if (et_test (ev_neNilS (l := (rows.filter fun r => !decide (r.getD i 46 = 46)).map fun r => [r.getD i 46]) (ev_var rfl) hl (fun x hx c hc => ?_))) (fun h => ?_) (fun h => ?_)) (rv_catS (by rw [lstand_len]; show i + 1 ≤ _; omega))) fun H4 e4 => ⟨((g1.trans e2).trans e3).trans e4, some (.int (i : Int)), some (.ref l), o3, ?_⟩
        · obtain ⟨r, hr, rfl⟩ := List.mem_map.mp hx
          rw [List.mem_singleton.mp hc]
          exact getD_asc (hasc r (List.mem_filter.mp hr).1) i
        · have hne : (rows.filter fun r => !decide (r.getD i 46 = 46)) ≠ [] := fun z => by
            rw [z] at h
            cases h
          refine ev_op (ev_var rfl) ev_neg1 (rv_ixLast (sq_of hl) ?_)
          rw [List.map_map, List.getLast?_map]
          unfold lastS
          rw [List.getLast?_map, List.getLast?_eq_some_getLast hne]
          rfl
        · have he : (rows.filter fun r => !decide (r.getD i 46 = 46)) = [] := by
            cases hh : (rows.filter fun r => !decide (r.getD i 46 = 46)) with
            | nil => rfl
            | cons x xs =>
              rw [hh] at h
              cases h
          have : lastS rows i = 46 := by
            unfold lastS
            rw [he]
            rfl
          rw [this]
          exact ev_lit rfl
        · have : lstand (i + 1) rows = lstand i rows ++ [lastS rows i] := by
            unfold lstand
            rw [List.range_succ, List.map_append]
            rfl
          rw [this]
          rfl
    · obtain ⟨g1, o1, o2, o3, rfl⟩ := h
      exact s_ret (ev_var rfl) fun H3 e3 => k H3 ((e1.trans eW).trans (g1.trans e3))
abbrev n_wclosed : List Str := ["_law_sown", "_law_cap", "_law_found", "_law_k", "_law_line_here", "_law_laid"]
theorem sc_wclosed : FnScope n_wclosed ["_law_sown", "_law_cap"] (defScope s_wclosed) := ⟨rfl, rfl, rfl, by decide +kernel, rfl, by decide +kernel, by decide +kernel⟩
def spClosed : Sp := fun vs H Q _ => ∃ (a : Addr) (sown : List (List Nat)) (n cap : Nat), vs = [.ref a, .int (cap : Int)] ∧ RowsAt H a sown n ∧ 1 ≤ n ∧ sown ≠ [] ∧ sown.length ≤ 30 ∧ cap ≤ 100 ∧ (clo sown cap (cap + 1) 0 [List.replicate n 46] = none → RetV .non H Q) ∧
  (∀ fd, clo sown cap (cap + 1) 0 [List.replicate n 46] = some fd → RetL (fd.map vS) H Q)
theorem ok_wclosed (T : Tx K mg A) : FnOk P w K mg base CX0 4 (A.f "_law_closed") (A.fd "_law_closed") ["_law_sown", "_law_cap"] spClosed := by
  refine T.F_wclosed.ok sc_wclosed (fun vs H Q E h => ?_) (fun cdv A' outer s H vs Q E hr h => ?_)
  · obtain ⟨a, sown, n, cap, rfl, _⟩ := h
    rfl
  · obtain ⟨a, sown, n, cap, rfl, R, n1, hne, h30, hcap, k1, k2⟩ := h
    have hn := R.nar
    have hf := R.few
    have h0 : 0 < sown.length := List.length_pos_iff.mpr hne
    refine ⟨_, PSs.nox (pss_cons (ps_set (i := 2) sc_wclosed.nd rfl (Or.inl rfl) (pe_lst (pa_cons (pe_op Nr.op_mulS pe_str (pe_callB call_len_str (by rfl) T.n_len PySem.boot_len (pa_cons (pe_ix ix_list (pv 0) pe_int (fun _ _ => rfl)) pa_nil))) pa_nil)))
      (pss_cons (ps_for PassesOwn.never rfl (pi_range1 (by rfl) T.n_range (pa_cons (pe_op op_add (pv 1) pe_int) pa_nil)) (pg_name (i := 3) sc_wclosed.nd rfl (Or.inl rfl) (Or.inr rfl))
      (pss_one (ps_if (pt_cmpR op_lt (pv 3) (pe_callB call_len_seq (by rfl) T.n_len PySem.boot_len (pa_cons (pv 2) pa_nil)) (nomark _))
      (pss_cons (ps_for PassesOwn.never rfl (pi_list (pv 0)) (pg_name (i := 4) sc_wclosed.nd rfl (Or.inl rfl) (Or.inr rfl))
      (pss_cons (ps_set (i := 5) sc_wclosed.nd rfl (Or.inl rfl) (pe_call (ok_wover T) (hr.mono (by decide)) (by rfl) T.g_wover T.F_wover.kp T.b_wover .nil pass0 (pa_cons (pe_ix ix_list (pv 2) (pv 3) (fun _ _ => rfl)) (pa_cons (pv 4) pa_nil))))
      (pss_one (ps_if (pt_cmpR op_notIn_seq (pv 5) (pv 2) (by rfl))
      (pss_one (ps_expr (pe_bm PySem.F.plainAttrs_list PySem.F.slot_list_append PySem.F.type_list_append mt_append (pv 2) (pa_cons (pv 5) pa_nil))))
      pss_nil))))
      (pss_one (ps_if (pt_cmpR op_gt (pe_callB call_len_seq (by rfl) T.n_len PySem.boot_len (pa_cons (pv 2) pa_nil)) (pv 1) (nomark _))
      (pss_one (ps_ret pe_non))
      pss_nil)))
      pss_nil)))
      (pss_one (ps_ret (pv 2))))) , ?_⟩
    refine q_asgL (xs := [List.replicate n 46].map vS) (el_lst (ea1 (ev_op ev_c (ev_lenS (l := sown.getD 0 []) (ev_op (ev_var rfl) ev_c (rv_ixLn (i := 0) (sq_of R.at_) (R.get h0))) (by rw [R.len h0]; omega)) (fun H1 e Q q => ⟨46, (n : Int), rfl, by rw [R.len h0], by omega, by omega, q H1 (Ex.refl H1)⟩))) (by simp)) fun l H1 nl e1 hl => ?_
    refine q_forF (W := H) (n := cap + 1) (ei_rng1 (ea1 (ev_op (ev_var rfl) ev_c rv_add)) (by omega) (by omega)) e1
      (fun W1 i σ' H' => ∃ (fd : List (List Nat)) (o1 o2 o3 : Option V), σ' = [some (.ref a), some (.int (cap : Int)), some (.ref l), o1, o2, o3] ∧ W1 l = none ∧ Ex W1 H' ∧ H' l = some (.lst (fd.map vS)) ∧ (∀ r ∈ fd, r.length = n) ∧ fd.length ≤ cap + 1 ∧ clo sown cap (cap + 1 - i) i fd = clo sown cap (cap + 1) 0 [List.replicate n 46])
      (fun W1 H2 e2 eW ew hW => ⟨_, none, none, none, rfl, by rw [hW l _ hl]; exact nl, ew, e2 _ _ hl, by simp, by simp, rfl⟩)
      (fun W1 i σ' H' h => by
        obtain ⟨_, _, _, _, _, _, h, _⟩ := h
        exact h) (fun W1 i σ' H' eW hi h H2 e2 => ?_) (fun W1 σ' H' eW h => ?_)
    · obtain ⟨fd, o1, o2, o3, rfl, w1, q1, q2, q3, q4, q5⟩ := h
      have hx : cap + 1 - i = (cap + 1 - (i + 1)) + 1 := by omega
      rw [hx] at q5
      have q5' : (if i < fd.length then (if (sown.foldl (stepL (fd.getD i [])) fd).length > cap then none else clo sown cap (cap + 1 - (i + 1)) (i + 1) (sown.foldl (stepL (fd.getD i [])) fd)) else clo sown cap (cap + 1 - (i + 1)) (i + 1) fd) = clo sown cap (cap + 1) 0 [List.replicate n 46] := q5
      refine s_when (b := decide (i < fd.length)) (et_is (et_test (ev_op (ev_var rfl) (ev_lenL (ev_var rfl) (sq_of (e2 _ _ q2))) rv_lt)) (by
        rw [List.length_map]
        exact decide_eq_decide.mpr (by omega))) (fun hb H3 e3 => ?_) (fun hb H3 e3 => ?_)
      · have hif := of_decide_eq_true hb
        rw [if_pos hif] at q5'
        have e23 := e2.trans e3
        have hr0 : (fd.getD i []).length = n := q3 _ (by
          rw [List.getD_eq_getElem?_getD, List.getElem?_eq_getElem hif]
          exact List.getElem_mem hif)
        refine q_forF (W := W1) (n := sown.length) (by
            have q := ei_list (K := K) (tl := tVar 0) (σ := [some (.ref a), some (.int (cap : Int)), some (.ref l), some (.int (i : Int)), o2, o3]) (j := 4) (it := fun j => vS (sown.getD j [])) (ev_var rfl) (sq_of (eW _ _ R.at_)) (fun j hj => R.get (by rw [List.length_map] at hj; exact hj))
            rw [List.length_map] at q
            exact q) (q1.trans e23)
          (fun W2 j σ' H' => ∃ (fd' : List (List Nat)) (o2 o3 : Option V), σ' = [some (.ref a), some (.int (cap : Int)), some (.ref l), some (.int (i : Int)), o2, o3] ∧ W2 l = none ∧ Ex W1 W2 ∧ Ex W2 H' ∧ H' l = some (.lst (fd'.map vS)) ∧ (∀ r ∈ fd', r.length = n) ∧ fd'.length ≤ fd.length + j ∧ i < fd'.length ∧ fd'.getD i [] = fd.getD i [] ∧ fd' = (sown.take j).foldl (stepL (fd.getD i [])) fd)
          (fun W2 H4 e4 eW2 ew2 hW2 => ⟨fd, o2, o3, rfl, by rw [hW2 l _ (e23 _ _ q2)]; exact w1, eW2, ew2, e4 _ _ (e23 _ _ q2), q3, by omega, hif, rfl, rfl⟩)
          (fun W2 j σ' H' h => by
            obtain ⟨_, _, _, _, _, _, h, _⟩ := h
            exact h) (fun W2 j σ' H' eW2 hj h H4 e4 => ?_) (fun W2 σ' H' eW2 h => ?_)
        · obtain ⟨fd', o2, o3, rfl, v1, v2, v3, v4, v5, v6, v7, v8, v9⟩ := h
          have hsl := R.len hj
          have hstep : (sown.take (j + 1)).foldl (stepL (fd.getD i [])) fd = stepL (fd.getD i []) fd' (sown.getD j []) := by
            rw [foldl_take _ _ _ [] hj, ← v9]
          refine q_asg (v := vS (ov (fd.getD i []) (sown.getD j []))) (ev_call (dvs := []) (ea2 (ev_op (ev_var rfl) (ev_var rfl) (rv_ixLn (i := i) (sq_of (e4 _ _ v4)) (by rw [List.getElem?_map, getD_some (d := []) v7] <;> rfl))) (ev_var rfl)) (fun H6 e6 Q q E => ⟨fd'.getD i [], sown.getD j [], rfl, by rw [v8]; omega, by omega, fun H7 e7 => by rw [v8]; exact q H7 e7⟩)) fun H5 e5 => ?_
          have e45 := e4.trans e5
          refine s_when (b := !decide (ov (fd.getD i []) (sown.getD j []) ∈ fd')) (et_is (et_test (ev_op (ev_var rfl) (ev_var rfl) (rv_niL (sq_of (e45 _ _ v4)) rfl (flatS _)))) (by rw [inV_S])) (fun hb H6 e6 => ?_) (fun hb H6 e6 => ?_)
          · have hnm : ov (fd.getD i []) (sown.getD j []) ∉ fd' := by simpa using hb
            have eX : stepL (fd.getD i []) fd' (sown.getD j []) = fd' ++ [ov (fd.getD i []) (sown.getD j [])] := by
              unfold stepL
              rw [if_neg hnm]
            have e46 := e45.trans e6
            refine s_app (l := l) (xs := fd'.map vS) (e46 _ _ v4) (ev_var rfl) (ev_var rfl) (by rw [List.length_map]; omega) fun H7 e7 => ⟨fd' ++ [ov (fd.getD i []) (sown.getD j [])], _, _, rfl, v1, v2, Ex.mut (v3.trans (e46.trans e7)) v1, ?_, ?_, ?_, ?_, ?_, ?_⟩
            · rw [upd_same, List.map_append]
              rfl
            · intro r hr
              rcases List.mem_append.mp hr with hr | hr
              · exact v5 r hr
              · rw [List.mem_singleton.mp hr, ov_len (by omega), hsl]
            · rw [List.length_append, List.length_singleton]
              omega
            · rw [List.length_append]
              omega
            · rw [List.getD_eq_getElem?_getD, List.getElem?_append_left v7, ← List.getD_eq_getElem?_getD]
              exact v8
            · rw [hstep, eX]
          · have hmm : ov (fd.getD i []) (sown.getD j []) ∈ fd' := by simpa using hb
            have eX : stepL (fd.getD i []) fd' (sown.getD j []) = fd' := by
              unfold stepL
              rw [if_pos hmm]
            exact ⟨fd', _, _, rfl, v1, v2, (v3.trans e45).trans e6, e6 _ _ (e45 _ _ v4), v5, by omega, v7, v8, by rw [hstep, eX]⟩
        · obtain ⟨fd', o2, o3, rfl, v1, v2, v3, v4, v5, v6, v7, v8, v9⟩ := h
          rw [List.take_length] at v9
          rw [← v9] at q5'
          refine s_when (b := decide (fd'.length > cap)) (et_is (et_test (ev_op (ev_lenL (ev_var rfl) (sq_of v4)) (ev_var rfl) rv_gt)) (by
            rw [List.length_map]
            exact decide_eq_decide.mpr (by omega))) (fun hb H6 e6 => ?_) (fun hb H6 e6 => ?_)
          · rw [if_pos (of_decide_eq_true hb)] at q5'
            exact s_ret ev_c fun H7 e7 => k1 q5'.symm H7 (((eW.trans v2).trans v3).trans (e6.trans e7))
          · rw [if_neg (of_decide_eq_false hb)] at q5'
            have := of_decide_eq_false hb
            exact ⟨fd', _, _, _, rfl, w1, (v2.trans v3).trans e6, e6 _ _ v4, v5, by omega, q5'⟩
      · have hif := of_decide_eq_false hb
        rw [if_neg hif] at q5'
        exact ⟨fd, _, _, _, rfl, w1, (q1.trans e2).trans e3, e3 _ _ (e2 _ _ q2), q3, q4, q5'⟩
    · obtain ⟨fd, o1, o2, o3, rfl, w1, q1, q2, q3, q4, q5⟩ := h
      have hx : cap + 1 - (cap + 1) = 0 := by omega
      rw [hx] at q5
      have q5' : some fd = clo sown cap (cap + 1) 0 [List.replicate n 46] := q5
      exact s_ret (ev_var rfl) fun H7 e7 => k2 fd q5'.symm l H7 nl (eW.trans (q1.trans e7)) (e7 _ _ q2)
end
end Nt
end
section
set_option Elab.async false
set_option linter.all false
set_option maxRecDepth 100000
set_option maxHeartbeats 4000000
namespace Nt
open PySem PySem.Spec PyProof.Rows L2 Evl SX
section
variable {P : Program} {w : World} {K : PySem.W.Frag} {mg : Str → Option Value} {base : Heap} {A : Ad}
theorem spots_lt {rows : List (List Nat)} {k i : Nat} (h : i ∈ spots rows k) : i < rows.length := List.mem_range.mp (List.mem_filter.mp h).1
theorem spots_len (rows : List (List Nat)) (k : Nat) : (spots rows k).length ≤ rows.length := by
  have := List.length_filter_le (fun i => !decide ((rows.getD i []).getD k 46 = 46)) (List.range rows.length)
  rw [List.length_range] at this
  exact this
theorem given_eq {n : Nat} {f : Nat → Bool} {v : Nat → V} {g : Nat → Nat} (h : ∀ i, v i = .int ((g i : Nat) : Int)) : given n f v = (((List.range n).filter f).map g).map fun m : Nat => V.int (m : Int) := by
  unfold given
  rw [List.map_map]
  exact List.map_congr_left fun i _ => h i
abbrev n_wtellers : List Str := ["_law_wide", "_law_past_here", "_law_low", "_law_high", "_law_found", "_law_k", "_law_spots", "_law_n"]
theorem sc_wtellers : FnScope n_wtellers ["_law_wide", "_law_past_here", "_law_low", "_law_high"] (defScope s_wtellers) := ⟨rfl, rfl, rfl, by decide +kernel, rfl, by decide +kernel, by decide +kernel⟩
def spLtellers : Sp := fun vs H Q _ => ∃ (a : Addr) (rows : List (List Nat)) (n : Nat), vs = [.int (n : Int), .ref a, .int 1, .int (rows.length : Int)] ∧ RowsAt H a rows n ∧
  ∀ (ys : List Int) p H2, H p = none → Ex H H2 → ys.Perm ((ltel n rows).map fun m : Nat => (m : Int)) → ys.Pairwise (· ≥ ·) → H2 p = some (.lst (ys.map V.int)) → Q (.ref p) H2
theorem ltelStep_len (rows : List (List Nat)) (acc : List Nat) (k : Nat) : (ltelStep rows acc k).length ≤ acc.length + 1 := by
  unfold ltelStep
  split
  · exact Nat.le_succ _
  · split
    · exact Nat.le_succ _
    · rw [List.length_append, List.length_singleton]
      exact Nat.le_refl _
theorem ok_wtellers (T : Tx K mg A) : FnOk P w K mg base CX0 2 (A.f "_law_tellers") (A.fd "_law_tellers") ["_law_wide", "_law_past_here", "_law_low", "_law_high"] spLtellers := by
  refine T.F_wtellers.ok sc_wtellers (fun vs H Q E h => ?_) (fun cdv A' outer s H vs Q E hr h => ?_)
  · obtain ⟨a, rows, n, rfl, _⟩ := h
    rfl
  · obtain ⟨a, rows, n, rfl, R, k⟩ := h
    have hn := R.nar
    have hf := R.few
    refine ⟨_, PSs.nox (pss_cons (ps_set (i := 4) sc_wtellers.nd rfl (Or.inl rfl) (pe_lst pa_nil))
      (pss_cons (ps_for PassesOwn.never rfl (pi_range1 (by rfl) T.n_range (pa_cons (pv 0) pa_nil)) (pg_name (i := 5) sc_wtellers.nd rfl (Or.inr rfl) (Or.inl rfl))
      (pss_cons (ps_setLc (i := 6) (own := [("_law_n", 7)]) (g := (gName 7)) (tt := (tTest (tOp _ (tOp _ (tOp (rIxL K) _ _) _) _))) (by rfl) sc_wtellers.nd rfl rfl (sw_true rfl rfl rfl (by decide +kernel)) (pi_range2 (by rfl) T.n_range (pa_cons (pv 2) (pa_cons (pe_op op_add (pv 3) pe_int) pa_nil))) (blkOk_by (own := [("_law_n", 7)]) (N := n_wtellers) (sc := defScope s_wtellers) (by decide +kernel)) (fun _ _ _ _ _ => (pg_name (i := 7) sc_wtellers.nd rfl (Or.inl rfl) (Or.inr rfl))) (fun _ _ _ _ _ => (pts_one (pt_cmpR op_ne (pe_ix ix_str (pe_ix ix_list (pv 1) (pe_op op_sub (pv 7) pe_int) (fun _ _ => rfl)) (pv 5) (fun _ _ => rfl)) pe_str (nomark _)))) (fun _ _ _ _ _ => (pv 7)))
      (pss_one (ps_if (PW.pt (pw_and (pt_cmpR (op_neD hr.units) (pv 6) (pe_lst pa_nil) (nomark _)) (pw_and1 (pt_cmpR op_notIn_seq (pe_ix ix_list (pv 6) (pe_un un_neg pe_int) (fun _ _ => rfl)) (pv 4) (by rfl)))))
      (pss_one (ps_expr (pe_bm PySem.F.plainAttrs_list PySem.F.slot_list_append PySem.F.type_list_append mt_append (pv 4) (pa_cons (pe_ix ix_list (pv 6) (pe_un un_neg pe_int) (fun _ _ => rfl)) pa_nil))))
      pss_nil))))
      (pss_one (ps_ret (pe_callBK (cr_sortedRev (b := true)) (by rfl) T.n_sorted (by decide +kernel) (pa_cons (pv 4) pa_nil) (pk_cons pe_bl pk_nil)))))) , ?_⟩
    refine q_asgL (xs := ([] : List Nat).map fun m : Nat => V.int (m : Int)) (el_lst ea_nil (by decide)) fun l H1 nl e1 hl => ?_
    refine q_forF (W := H) (n := n) (ei_rng1 (ea1 (ev_var rfl)) (by omega) (by omega)) e1
      (fun W1 i σ' H' => ∃ (fd : List Nat) (o1 o2 o3 : Option V), σ' = [some (.int (n : Int)), some (.ref a), some (.int 1), some (.int (rows.length : Int)), some (.ref l), o1, o2, o3] ∧ W1 l = none ∧ Ex W1 H' ∧ H' l = some (.lst (fd.map fun m : Nat => V.int (m : Int))) ∧ fd.length ≤ i ∧ fd = (List.range i).foldl (ltelStep rows) [])
      (fun W1 H2 e2 eW ew hW => ⟨[], none, none, none, rfl, by rw [hW l _ hl]; exact nl, ew, e2 _ _ hl, Nat.le_refl _, rfl⟩)
      (fun W1 i σ' H' h => by
        obtain ⟨_, _, _, _, _, _, h, _⟩ := h
        exact h) (fun W1 i σ' H' eW hi h H2 e2 => ?_) (fun W1 σ' H' eW h => ?_)
    · obtain ⟨fd, o1, o2, o3, rfl, w1, q1, q2, q3, q4⟩ := h
      have eH := eW.trans (q1.trans e2)
      have R2 := R.ex eH
      have hstep : (List.range (i + 1)).foldl (ltelStep rows) [] = ltelStep rows fd i := by
        rw [List.range_succ, List.foldl_append, ← q4]
        rfl
      refine q_asgL (xs := ((spots rows i).map fun j => j + 1).map fun m : Nat => V.int (m : Int)) (eA (el_lc (vs := [7]) (n := rows.length) (ei_rng2 (lo := 1) (hi := (rows.length : Int) + 1) (j := 7) (ea2 (ev_var rfl) (ev_op (ev_var rfl) ev_c rv_add)) (by omega) (by omega)) (by omega) (fun j => !decide ((rows.getD j []).getD i 46 = 46)) (fun j => .int ((1 : Int) + (j : Int))) (fun j hj => rfl) (fun j hj => ?_) (fun j hj _ => ev_var rfl)) (given_eq fun j => by
          show V.int _ = V.int _
          congr 1
          omega)) fun l2 H3 nl2 e3 hl2 => ?_
      · refine et_test (ev_op (ev_rc (i := j) R2 (ev_var rfl) (ev_is (ev_op (ev_var rfl) ev_c rv_sub) (by
          show V.int _ = V.int _
          congr 1
          omega)) (ev_var rfl) hj hi) ev_c (rv_ne1 (b := 46)))
      · have e13 := e2.trans e3
        have hl3 := e13 _ _ q2
        have hne : ∀ h : ((spots rows i).map fun j => j + 1).isEmpty = false, ∃ m, (spots rows i).getLast? = some m ∧ (((spots rows i).map fun j => j + 1).map fun m : Nat => V.int (m : Int)).getLast? = some (.int ((m + 1 : Nat) : Int)) := fun h => by
          have h1 : spots rows i ≠ [] := fun z => by
            rw [z] at h
            cases h
          refine ⟨_, List.getLast?_eq_some_getLast h1, ?_⟩
          rw [List.getLast?_map, List.getLast?_map, List.getLast?_eq_some_getLast h1]
          rfl
        cases hs : (spots rows i).getLast? with
        | none =>
          have h1 : spots rows i = [] := List.getLast?_eq_none_iff.mp hs
          refine s_skip (et_is (et_and (a := false) (b := false) (et_is (et_test (ev_neNilI (ev_var rfl) hl2)) (by rw [h1] <;> rfl)) fun h => absurd h (by decide)) rfl) fun H4 e4 => ⟨fd, _, _, _, rfl, w1, q1.trans (e13.trans e4), e4 _ _ hl3, by omega, ?_⟩
          rw [hstep]
          unfold ltelStep
          rw [hs]
        | some m =>
          have h1 : ((spots rows i).map fun j => j + 1).isEmpty = false := by
            cases hh : spots rows i with
            | nil =>
              rw [hh] at hs
              cases hs
            | cons x xs => rfl
          obtain ⟨m', hm', hlast⟩ := hne h1
          rw [hs] at hm'
          cases hm'
          refine s_when (b := !decide (m + 1 ∈ fd)) (et_is (et_and (a := true) (et_is (et_test (ev_neNilI (ev_var rfl) hl2)) (by rw [h1] <;> rfl)) fun _ => et_test (ev_op (ev_op (ev_var rfl) ev_neg1 (rv_ixLast (sq_of hl2) hlast)) (ev_var rfl) (rv_niL (sq_of hl3) rfl (flatI _)))) (by rw [inV_I, Bool.true_and])) (fun hb H4 e4 => ?_) (fun hb H4 e4 => ?_)
          · have hnm : m + 1 ∉ fd := by simpa using hb
            refine s_app (l := l) (xs := fd.map fun m : Nat => V.int (m : Int)) (e4 _ _ hl3) (ev_var rfl) (ev_op (ev_var rfl) ev_neg1 (rv_ixLast (sq_of (e4 _ _ hl2)) hlast)) (by rw [List.length_map]; omega) fun H5 e5 => ⟨fd ++ [m + 1], _, _, _, rfl, w1, Ex.mut ((q1.trans e13).trans (e4.trans e5)) w1, by rw [upd_same, List.map_append] <;> rfl, by rw [List.length_append, List.length_singleton]; omega, ?_⟩
            rw [hstep]
            unfold ltelStep
            rw [hs]
            show _ = if m + 1 ∈ fd then fd else fd ++ [m + 1]
            rw [if_neg hnm]
          · have hmm : m + 1 ∈ fd := by simpa using hb
            refine ⟨fd, _, _, _, rfl, w1, (q1.trans e13).trans e4, e4 _ _ hl3, by omega, ?_⟩
            rw [hstep]
            unfold ltelStep
            rw [hs]
            show _ = if m + 1 ∈ fd then fd else fd ++ [m + 1]
            rw [if_pos hmm]
    · obtain ⟨fd, o1, o2, o3, rfl, w1, q1, q2, q3, q4⟩ := h
      have hcase : tCKw (rSortedKw K true [.bl true]) (tCons (tVar 4) tNil) (tCons (tC (.bl true)) tNil) [some (.int (n : Int)), some (.ref a), some (.int 1), some (.int (rows.length : Int)), some (.ref l), o1, o2, o3] H' Q := by
        refine ⟨_, rfl, l, fd.map fun m : Nat => (m : Int), rfl, rfl, by rw [← mapNI]; exact sq_of q2, fun ys p hp ho np => ?_⟩
        exact k ys p _ (fresh_back (eW.trans q1) np) ((eW.trans q1).trans (Ex.new np)) (by rw [q4] at hp; exact hp) ho upd_same
      exact hcase
abbrev n_wend : List Str := ["_law_wide", "_law_past_here", "_law_n", "_law_last", "_law_k", "_law_later", "_law_m"]
theorem sc_wend : FnScope n_wend ["_law_wide", "_law_past_here", "_law_n"] (defScope s_wend) := ⟨rfl, rfl, rfl, by decide +kernel, rfl, by decide +kernel, by decide +kernel⟩
def spLend : Sp := fun vs H Q _ => ∃ (a : Addr) (rows : List (List Nat)) (n m : Nat), vs = [.int (n : Int), .ref a, .int (m : Int)] ∧ RowsAt H a rows n ∧ 1 ≤ m ∧ m ≤ rows.length ∧ RetV (optI (lend n rows m)) H Q
theorem ok_wend (T : Tx K mg A) : FnOk P w K mg base CX0 2 (A.f "_law_end") (A.fd "_law_end") ["_law_wide", "_law_past_here", "_law_n"] spLend := by
  refine T.F_wend.ok sc_wend (fun vs H Q E h => ?_) (fun cdv A' outer s H vs Q E hr h => ?_)
  · obtain ⟨a, rows, n, m, rfl, _⟩ := h
    rfl
  · obtain ⟨a, rows, n, m, rfl, R, h1, h2, k⟩ := h
    have hn := R.nar
    have hf := R.few
    refine ⟨_, PSs.nox (pss_cons (ps_set (i := 3) sc_wend.nd rfl (Or.inl rfl) (pv 2))
      (pss_cons (ps_for PassesOwn.never rfl (pi_range1 (by rfl) T.n_range (pa_cons (pv 0) pa_nil)) (pg_name (i := 4) sc_wend.nd rfl (Or.inr rfl) (Or.inl rfl))
      (pss_one (ps_if (pt_cmpR op_ne (pe_ix ix_str (pe_ix ix_list (pv 1) (pe_op op_sub (pv 2) pe_int) (fun _ _ => rfl)) (pv 4) (fun _ _ => rfl)) pe_str (nomark _))
      (pss_cons (ps_setLc (i := 5) (own := [("_law_m", 6)]) (g := (gName 6)) (tt := (tTest (tOp _ (tOp _ (tOp (rIxL K) _ _) _) _))) (by rfl) sc_wend.nd rfl rfl (sw_true rfl rfl rfl (by decide +kernel)) (pi_range2 (by rfl) T.n_range (pa_cons (pe_op op_add (pv 2) pe_int) (pa_cons (pe_op op_add (pe_callB call_len_seq (by rfl) T.n_len PySem.boot_len (pa_cons (pv 1) pa_nil)) pe_int) pa_nil))) (blkOk_by (own := [("_law_m", 6)]) (N := n_wend) (sc := defScope s_wend) (by decide +kernel)) (fun _ _ _ _ _ => (pg_name (i := 6) sc_wend.nd rfl (Or.inl rfl) (Or.inr rfl))) (fun _ _ _ _ _ => (pts_one (pt_cmpR op_ne (pe_ix ix_str (pe_ix ix_list (pv 1) (pe_op op_sub (pv 6) pe_int) (fun _ _ => rfl)) (pv 4) (fun _ _ => rfl)) pe_str (nomark _)))) (fun _ _ _ _ _ => (pv 6)))
      (pss_cons (ps_if (pt_cmpR (op_eqD hr.units) (pv 5) (pe_lst pa_nil) (nomark _))
      (pss_one (ps_ret pe_non))
      pss_nil)
      (pss_one (ps_set (i := 3) sc_wend.nd rfl (Or.inl rfl) (pe_callB (call_max2 rfl) (by rfl) T.n_max (by decide +kernel) (pa_cons (pv 3) (pa_cons (pe_ix ix_list (pv 5) pe_int (fun _ _ => rfl)) pa_nil)))))))
      pss_nil)))
      (pss_one (ps_ret (pv 3))))) , ?_⟩
    refine q_asg (ev_var rfl) fun H1 e1 => ?_
    refine q_forF (W := H1) (n := n) (ei_rng1 (ea1 (ev_var rfl)) (by omega) (by omega)) (Ex.refl H1)
      (fun W1 i σ' H' => Ex W1 H' ∧ ∃ (last : Nat) (o1 o2 o3 : Option V), σ' = [some (.int (n : Int)), some (.ref a), some (.int (m : Int)), some (.int (last : Int)), o1, o2, o3] ∧ lendF rows m ((List.range n).drop i) last = lend n rows m)
      (fun W1 H2 e2 eW ew hW => ⟨ew, m, none, none, none, rfl, rfl⟩) (fun W1 i σ' H' h => h.1) (fun W1 i σ' H' eW hi h H2 e2 => ?_) (fun W1 σ' H' eW h => ?_)
    · obtain ⟨g1, last, o1, o2, o3, rfl, f⟩ := h
      have eH := (e1.trans eW).trans (g1.trans e2)
      have R2 := R.ex eH
      have hd : (List.range n).drop i = i :: (List.range n).drop (i + 1) := by
        have q := drop_get (l := List.range n) (i := i) (d := 0) (by rw [List.length_range]; exact hi)
        rw [q]
        congr 1
        rw [List.getD_eq_getElem?_getD, List.getElem?_range hi] <;> rfl
      rw [hd] at f
      have f' : (if (rows.getD (m - 1) []).getD i 46 = 46 then lendF rows m ((List.range n).drop (i + 1)) last else match (later rows m i).head? with
        | none => none
        | some j => lendF rows m ((List.range n).drop (i + 1)) (max last (m + 1 + j))) = lend n rows m := f
      refine s_when (b := !decide ((rows.getD (m - 1) []).getD i 46 = 46)) (et_test (ev_op (ev_rc (i := m - 1) R2 (ev_var rfl) (ev_is (ev_op (ev_var rfl) ev_c rv_sub) (by
          show V.int _ = V.int _
          congr 1
          omega)) (ev_var rfl) (by omega) hi) ev_c (rv_ne1 (b := 46)))) (fun hb H3 e3 => ?_) (fun hb H3 e3 => ?_)
      · have hb' : ¬ (rows.getD (m - 1) []).getD i 46 = 46 := by simpa using hb
        rw [if_neg hb'] at f'
        have R3 := R2.ex e3
        refine q_asgL (xs := ((later rows m i).map fun j => m + 1 + j).map fun m : Nat => V.int (m : Int)) (eA (el_lc (vs := [6]) (n := rows.length - m) (ei_rng2 (lo := (m : Int) + 1) (hi := (rows.length : Int) + 1) (j := 6) (ea2 (ev_op (ev_var rfl) ev_c rv_add) (ev_op (ev_is (ev_lenL (ev_var rfl) (sq_of R3.at_)) (by rw [List.length_map])) ev_c rv_add)) (by omega) (by omega)) (by omega) (fun j => !decide ((rows.getD (m + j) []).getD i 46 = 46)) (fun j => .int ((m : Int) + 1 + (j : Int))) (fun j hj => rfl) (fun j hj => ?_) (fun j hj _ => ev_var rfl)) (given_eq fun j => by
            show V.int _ = V.int _
            congr 1)) fun l2 H4 nl2 e4 hl2 => ?_
        · refine et_test (ev_op (ev_rc (i := m + j) R3 (ev_var rfl) (ev_is (ev_op (ev_var rfl) ev_c rv_sub) (by
            show V.int _ = V.int _
            congr 1
            omega)) (ev_var rfl) (by omega) hi) ev_c (rv_ne1 (b := 46)))
        · have e24 := (e2.trans e3).trans e4
          cases hs : (later rows m i).head? with
          | none =>
            have hz : later rows m i = [] := List.head?_eq_none_iff.mp hs
            rw [hs] at f'
            have f2 : none = lend n rows m := f'
            rw [← f2] at k
            refine q_when (b := true) (et_is (et_test (ev_eqNilI (ev_var rfl) hl2)) (by rw [hz] <;> rfl)) (fun _ H5 e5 => s_ret ev_c fun H6 e6 => k H6 (((e1.trans eW).trans g1).trans ((e24.trans e5).trans e6))) (fun h => absurd h (by decide))
          | some j =>
            rw [hs] at f'
            have hz : ∃ tl, later rows m i = j :: tl := by
              cases hh : later rows m i with
              | nil =>
                rw [hh] at hs
                cases hs
              | cons x xs =>
                rw [hh] at hs
                cases hs
                exact ⟨xs, rfl⟩
            obtain ⟨tl, hz⟩ := hz
            refine q_skip (et_is (et_test (ev_eqNilI (ev_var rfl) hl2)) (by rw [hz] <;> rfl)) fun H5 e5 => ?_
            refine s_asg (ev_is (ev_max2 (ev_var rfl) (ev_op (ev_var rfl) ev_c (rv_ixLn (i := 0) (v := .int ((m + 1 + j : Nat) : Int)) (sq_of (e5 _ _ hl2)) (by rw [hz] <;> rfl)))) (w := .int ((max last (m + 1 + j) : Nat) : Int)) (by
              show V.int _ = V.int _
              congr 1
              by_cases hlt : ((m + 1 + j : Nat) : Int) > (last : Int)
              · rw [if_pos hlt]
                omega
              · rw [if_neg hlt]
                omega)) fun H6 e6 => ⟨g1.trans ((e24.trans e5).trans e6), _, some (.int (i : Int)), some (.ref l2), o3, rfl, f'⟩
      · have hb' : (rows.getD (m - 1) []).getD i 46 = 46 := by simpa using hb
        rw [if_pos hb'] at f'
        exact ⟨g1.trans (e2.trans e3), last, _, o2, o3, rfl, f'⟩
    · obtain ⟨g1, last, o1, o2, o3, rfl, f⟩ := h
      have hdr : (List.range n).drop n = [] := List.drop_eq_nil_of_le (by rw [List.length_range]; exact Nat.le_refl _)
      rw [hdr] at f
      have f' : some last = lend n rows m := f
      rw [← f'] at k
      exact s_ret (ev_var rfl) fun H3 e3 => k H3 ((e1.trans eW).trans (g1.trans e3))
abbrev n_wuntil : List Str := ["_law_wide", "_law_past_here", "_law_line_here", "_law_p", "_law_found", "_law_without", "_law_withit", "_law_b"]
theorem sc_wuntil : FnScope n_wuntil ["_law_wide", "_law_past_here", "_law_line_here", "_law_p"] (defScope s_wuntil) := ⟨rfl, rfl, rfl, by decide +kernel, rfl, by decide +kernel, by decide +kernel⟩
def spLuntil : Sp := fun vs H Q _ => ∃ (a : Addr) (rows : List (List Nat)) (n p : Nat) (r : List Nat), vs = [.int (n : Int), .ref a, vS r, .int (p : Int)] ∧ RowsAt H a rows n ∧ Asc rows ∧ r.length = n ∧ p ≤ rows.length ∧ RetV (.int (luntil n rows r p : Int)) H Q
theorem ok_wuntil (T : Tx K mg A) : FnOk P w K mg base CX0 4 (A.f "_law_until") (A.fd "_law_until") ["_law_wide", "_law_past_here", "_law_line_here", "_law_p"] spLuntil := by
  refine T.F_wuntil.ok sc_wuntil (fun vs H Q E h => ?_) (fun cdv A' outer s H vs Q E hr h => ?_)
  · obtain ⟨a, rows, n, p, r, rfl, _⟩ := h
    rfl
  · obtain ⟨a, rows, n, p, r, rfl, R, hasc, hrl, hp, k⟩ := h
    have hn := R.nar
    have hf := R.few
    refine ⟨_, PSs.nox (pss_cons (ps_par3 (i := 4) (j := 5) (l := 6) (by rfl) sc_wuntil.nd rfl rfl rfl (by decide) (by decide) (by decide) rfl rfl rfl (pa_cons pe_int (pa_cons (pe_call (ok_wstanding T) (hr.mono (by decide)) (by rfl) T.g_wstanding T.F_wstanding.kp T.b_wstanding .nil pass0 (pa_cons (pv 0) (pa_cons (pe_slice sl_list (pv 1) po_none (po_some (pv 3))) pa_nil))) (pa_cons (pe_call (ok_wover T) (hr.mono (by decide)) (by rfl) T.g_wover T.F_wover.kp T.b_wover .nil pass0 (pa_cons (pv 2) (pa_cons (pe_call (ok_wstanding T) (hr.mono (by decide)) (by rfl) T.g_wstanding T.F_wstanding.kp T.b_wstanding .nil pass0 (pa_cons (pv 0) (pa_cons (pe_slice sl_list (pv 1) po_none (po_some (pv 3))) pa_nil))) pa_nil))) pa_nil))) (by rfl))
      (pss_cons (ps_for PassesOwn.never rfl (pi_range2 (by rfl) T.n_range (pa_cons (pe_op op_add (pv 3) pe_int) (pa_cons (pe_op op_add (pe_callB call_len_seq (by rfl) T.n_len PySem.boot_len (pa_cons (pv 1) pa_nil)) pe_int) pa_nil))) (pg_name (i := 7) sc_wuntil.nd rfl (Or.inl rfl) (Or.inr rfl))
      (pss_cons (ps_if (pt_cmpR op_ne (pv 5) (pv 6) (nomark _))
      (pss_one (ps_set (i := 4) sc_wuntil.nd rfl (Or.inl rfl) (pv 7)))
      pss_nil)
      (pss_one (ps_if (pt_cmpR op_le (pv 7) (pe_callB call_len_seq (by rfl) T.n_len PySem.boot_len (pa_cons (pv 1) pa_nil)) (nomark _))
      (pss_one (ps_par (i := 5) (j := 6) (by rfl) sc_wuntil.nd rfl rfl (by decide) rfl rfl (pa_cons (pe_call (ok_wover T) (hr.mono (by decide)) (by rfl) T.g_wover T.F_wover.kp T.b_wover .nil pass0 (pa_cons (pe_ix ix_list (pv 1) (pe_op op_sub (pv 7) pe_int) (fun _ _ => rfl)) (pa_cons (pv 5) pa_nil))) (pa_cons (pe_call (ok_wover T) (hr.mono (by decide)) (by rfl) T.g_wover T.F_wover.kp T.b_wover .nil pass0 (pa_cons (pe_ix ix_list (pv 1) (pe_op op_sub (pv 7) pe_int) (fun _ _ => rfl)) (pa_cons (pv 6) pa_nil))) pa_nil)) (by rfl)))
      pss_nil))))
      (pss_one (ps_ret (pv 4))))) , ?_⟩
    have hstd : Ev (tCall spLstand [] E0 (tCons (tVar 0) (tCons (tSl (rSlL K) (tVar 1) tNoPart (tPart (tVar 3))) tNil))) (L2.start n_wuntil [.int (n : Int), .ref a, vS r, .int (p : Int)]) H (vS (lstand n (rows.take p))) :=
      ev_call2L (dvs := []) (xs := (rows.map vS).take (p : Int).toNat) (ev_var rfl) (el_slTo (ev_var rfl) (ev_var rfl) (sq_of R.at_) (by omega)) fun l H1 e1 hl H6 e6 Q q E => ⟨l, rows.take p, n, rfl, ⟨by rw [List.map_take]; rw [Int.toNat_natCast] at hl; exact e6 _ _ hl, fun x hx => R.wid x (List.mem_of_mem_take hx), by rw [List.length_take]; omega, hn⟩, fun x hx => hasc x (List.mem_of_mem_take hx), fun H7 e7 => q H7 e7⟩
    refine q_par3 (x := .int 0) (ea3 ev_c hstd (ev_call (dvs := []) (ea2 (ev_var rfl) hstd) (fun H6 e6 Q q E => ⟨r, _, rfl, by rw [lstand_len]; exact hrl, by rw [lstand_len]; exact hn, fun H7 e7 => q H7 e7⟩))) fun H1 e1 => ?_
    refine q_forF (W := H1) (n := rows.length + 1 - p) (ei_rng2 (lo := (p : Int) + 1) (hi := (rows.length : Int) + 1 + 1) (ea2 (ev_op (ev_var rfl) ev_c rv_add) (ev_is (ev_op (ev_lenL (ev_var rfl) (sq_of (e1 _ _ R.at_))) ev_c rv_add) (by
        rw [List.length_map]
        show V.int _ = V.int _
        congr 1 <;> omega))) (by omega) (by omega)) (Ex.refl H1)
      (fun W1 i σ' H' => Ex W1 H' ∧ ∃ (f : Nat) (wo wi : List Nat) (o : Option V), σ' = [some (.int (n : Int)), some (.ref a), some (vS r), some (.int (p : Int)), some (.int (f : Int)), some (vS wo), some (vS wi), o] ∧ wo.length = n ∧ wi.length = n ∧ lunF rows (rows.length + 1 - p - i) (p + 1 + i) f wo wi = luntil n rows r p)
      (fun W1 H2 e2 eW ew hW => ⟨ew, 0, _, _, none, rfl, lstand_len n _, by rw [ov_len (by rw [lstand_len]; exact hrl), lstand_len], rfl⟩) (fun W1 i σ' H' h => h.1) (fun W1 i σ' H' eW hi h H2 e2 => ?_) (fun W1 σ' H' eW h => ?_)
    · obtain ⟨g1, f, wo, wi, o, rfl, l1, l2, hf'⟩ := h
      have eH := (e1.trans eW).trans (g1.trans e2)
      have hx : rows.length + 1 - p - i = (rows.length + 1 - p - (i + 1)) + 1 := by omega
      rw [hx] at hf'
      have hb : (p : Int) + 1 + (i : Int) = ((p + 1 + i : Nat) : Int) := by omega
      have f' : (if p + 1 + i ≤ rows.length then lunF rows (rows.length + 1 - p - (i + 1)) (p + 1 + i + 1) (if wo = wi then f else p + 1 + i) (ov (rows.getD (p + 1 + i - 1) []) wo) (ov (rows.getD (p + 1 + i - 1) []) wi) else lunF rows (rows.length + 1 - p - (i + 1)) (p + 1 + i + 1) (if wo = wi then f else p + 1 + i) wo wi) = luntil n rows r p := hf'
      show tSeq _ _ _ [some (.int (n : Int)), some (.ref a), some (vS r), some (.int (p : Int)), some (.int (f : Int)), some (vS wo), some (vS wi), some (.int ((p : Int) + 1 + (i : Int)))] H2
      rw [hb]
      refine q_ifAsg (v := .int ((if wo = wi then f else p + 1 + i : Nat) : Int)) (b := !decide (wo = wi)) (et_test (ev_op (ev_var rfl) (ev_var rfl) rv_neS)) (fun h => ?_) (fun h => ?_) fun H3 e3 => ?_
      · have h' : ¬ wo = wi := by simpa using h
        rw [if_neg h']
        exact ev_var rfl
      · have h' : wo = wi := by simpa using h
        rw [if_pos h']
        try rfl
      · have R3 := R.ex (eH.trans e3)
        refine s_when (b := decide (p + 1 + i ≤ rows.length)) (et_is (et_test (ev_op (ev_var rfl) (ev_lenL (ev_var rfl) (sq_of R3.at_)) rv_le)) (by
          rw [List.length_map]
          exact decide_eq_decide.mpr (by omega))) (fun hc H4 e4 => ?_) (fun hc H4 e4 => ?_)
        · have hc' := of_decide_eq_true hc
          rw [if_pos hc'] at f'
          have R4 := R3.ex e4
          have hgl := R.len (i := p + 1 + i - 1) (by omega)
          have hget : Ev (tOp (rIxL K) (tVar 1) (tOp (rI0 fun i j => .int (i - j)) (tVar 7) (tC (.int 1)))) [some (.int (n : Int)), some (.ref a), some (vS r), some (.int (p : Int)), some (.int ((if wo = wi then f else p + 1 + i : Nat) : Int)), some (vS wo), some (vS wi), some (.int ((p + 1 + i : Nat) : Int))] H4 (vS (rows.getD (p + 1 + i - 1) [])) :=
            ev_op (ev_var rfl) (ev_is (ev_op (ev_var rfl) ev_c rv_sub) (by
              show V.int _ = V.int ((p + 1 + i - 1 : Nat) : Int)
              congr 1
              omega)) (rv_ixLn (i := p + 1 + i - 1) (sq_of R4.at_) (R4.get (by omega)))
          refine s_par (ea2 (ev_call (dvs := []) (ea2 hget (ev_var rfl)) (fun H6 e6 Q q E => ⟨_, wo, rfl, by omega, by omega, fun H7 e7 => q H7 e7⟩)) (ev_call (dvs := []) (ea2 hget (ev_var rfl)) (fun H6 e6 Q q E => ⟨_, wi, rfl, by omega, by omega, fun H7 e7 => q H7 e7⟩))) fun H5 e5 => ⟨((g1.trans e2).trans e3).trans (e4.trans e5), _, _, _, _, rfl, by rw [ov_len (by omega)]; exact l1, by rw [ov_len (by omega)]; exact l2, f'⟩
        · have hc' := of_decide_eq_false hc
          rw [if_neg hc'] at f'
          exact ⟨((g1.trans e2).trans e3).trans e4, _, wo, wi, _, rfl, l1, l2, f'⟩
    · obtain ⟨g1, f, wo, wi, o, rfl, l1, l2, hf'⟩ := h
      have hx : rows.length + 1 - p - (rows.length + 1 - p) = 0 := by omega
      rw [hx] at hf'
      have f' : f = luntil n rows r p := hf'
      rw [← f'] at k
      exact s_ret (ev_var rfl) fun H3 e3 => k H3 ((e1.trans eW).trans (g1.trans e3))
abbrev n_wis : List Str := ["_law_v", "_law_least", "_law_greatest"]
theorem sc_wis : FnScope n_wis ["_law_v", "_law_least", "_law_greatest"] (defScope s_wis) := ⟨rfl, rfl, rfl, by decide +kernel, rfl, by decide +kernel, by decide +kernel⟩
theorem ok_wis (T : Tx K mg A) : FnOk P w K mg base CX0 2 (A.f "_law_is") (A.fd "_law_is") ["_law_v", "_law_least", "_law_greatest"] (spIsNumber K) := by
  refine T.F_wis.ok sc_wis (fun vs H Q E h => ?_) (fun cdv A' outer s H vs Q E hr h => ?_)
  · obtain ⟨v, t, l, m, rfl, _⟩ := h
    rfl
  · obtain ⟨v, t, l, m, rfl, p, k⟩ := h
    refine ⟨_, PSs.nox (pss_one (ps_ret (pe_and (pe_callB call_isi (by rfl) T.n_isinstance (by decide +kernel) (pa_cons (pv 0) (pa_cons (pe_bltn (v := .ty "int") (by rfl) T.n_int (by decide +kernel) rfl) pa_nil))) (pe_and (pe_not (pe_callB call_isi (by rfl) T.n_isinstance (by decide +kernel) (pa_cons (pv 0) (pa_cons (pe_bltn (v := .ty "bool") (by rfl) T.n_bool (by decide +kernel) rfl) pa_nil)))) (pe_one (pe_chain op_le op_le (pv 1) (pv 0) (pv 2))))))) , ?_⟩
    by_cases hv : ∃ i, v = .int i
    · obtain ⟨i, rfl⟩ := hv
      have et : t = "int" := by
        cases p
        rfl
      subst et
      exact s_ret (ev_is (ev_andV (ev_isP (ev_var rfl) p (by simp)) fun _ => ev_andV (ev_notV (ev_isP (ev_var rfl) p (by simp))) fun _ => ev_chain (ev_var rfl) (ev_var rfl) rv_le (fun _ => ev_var rfl) fun _ => rv_le) rfl) k
    · have e0 : isNum v l m = false := by
        cases v <;> first | rfl | exact absurd ⟨_, rfl⟩ hv
      rw [e0] at k
      by_cases hb : t = "bool"
      · subst hb
        exact s_ret (ev_is (w := .bl false) (ev_andV (b := false) (ev_isP (c := "int") (ev_var rfl) p (by simp)) fun _ => ev_andV (b := false) (ev_notV (ev_isP (c := "bool") (ev_var rfl) p (by simp))) fun h => absurd h (by decide)) rfl) k
      · have e1 : isB t "int" = false := by
          cases p <;> first | rfl | exact absurd rfl hb | exact absurd ⟨_, rfl⟩ hv | decide
        exact s_ret (ev_is (ev_andV (b := false) (ev_isP (ev_var rfl) p (by simp)) fun h => absurd (e1.symm.trans h) (by decide)) (by rw [e1] <;> rfl)) k
end
end Nt
end
section
set_option Elab.async false
set_option linter.all false
set_option maxRecDepth 100000
set_option maxHeartbeats 4000000
namespace Nt
open PySem PySem.Spec PyProof.Rows L2 Evl SX
/-! ### the same data -/
def Leaf (H : Hp) (x y : V) : Prop := (x = y ∧ ((∃ b, x = .bl b) ∨ (∃ i, x = .int i) ∨ (∃ z, x = .str z) ∨ x = .non)) ∨
  ∃ a kvs, x = .ref a ∧ y = .ref a ∧ H a = some (.dK kvs) ∧ (kvs.map (·.1)).Nodup ∧ ∀ p ∈ kvs, flatB p.2 = true
def SmN : Nat → Hp → V → V → Prop
  | 0, H, x, y => Leaf H x y
  | n + 1, H, x, y => Leaf H x y ∨ (∃ (a b : Addr) (xs ys : List V), x = .ref a ∧ y = .ref b ∧ ((H a = some (.lst xs) ∧ H b = some (.lst ys)) ∨ (H a = some (.tup xs) ∧ H b = some (.tup ys))) ∧ xs.length = ys.length ∧ xs.length ≤ 1000 ∧
      ∀ (i : Nat) (u v : V), xs[i]? = some u → ys[i]? = some v → SmN n H u v)
theorem Leaf.ex {H H' : Hp} {x y : V} (h : Leaf H x y) (e : Ex H H') : Leaf H' x y := by
  rcases h with h | ⟨a, kvs, h1, h2, h3, h4⟩
  · exact Or.inl h
  · exact Or.inr ⟨a, kvs, h1, h2, e _ _ h3, h4⟩
theorem SmN.ex : ∀ {n : Nat} {H H' : Hp} {x y : V}, SmN n H x y → Ex H H' → SmN n H' x y
  | 0, _, _, _, _, h, e => Leaf.ex h e
  | n + 1, H, H', x, y, h, e => by
    rcases h with h | ⟨a, b, xs, ys, h1, h2, h3, h4, h5, h6⟩
    · exact Or.inl (Leaf.ex h e)
    · refine Or.inr ⟨a, b, xs, ys, h1, h2, ?_, h4, h5, fun i u v hu hv => SmN.ex (h6 i u v hu hv) e⟩
      rcases h3 with ⟨p, q⟩ | ⟨p, q⟩
      · exact Or.inl ⟨e _ _ p, e _ _ q⟩
      · exact Or.inr ⟨e _ _ p, e _ _ q⟩
theorem SmN.up {n : Nat} {H : Hp} {x y : V} (h : SmN n H x y) : SmN (n + 1) H x y := by
  induction n generalizing x y with
  | zero => exact Or.inl h
  | succ n ih =>
    rcases h with h | ⟨a, b, xs, ys, h1, h2, h3, h4, h5, h6⟩
    · exact Or.inl h
    · exact Or.inr ⟨a, b, xs, ys, h1, h2, h3, h4, h5, fun i u v hu hv => ih (h6 i u v hu hv)⟩
section
variable {K : PySem.W.Frag} {σ : L2.St} {W H H' : Hp} {ta tb tc te tl td ty : TE} {t u : TT} {x y z v w' : V} {D : Ends} {tu tz : TS} {g : TG} {wi : TI}
theorem rv_eqX (h : scal x x = true) : RV rEq x x H (.bl true) := by
  have q := rv_eq (H := H) h
  rw [decide_eq_true rfl] at q
  exact q
theorem rv_neB {a b : Bool} : RV rNe (.bl a) (.bl b) H (.bl (!decide (a = b))) := by
  have q := rv_ne (x := .bl a) (y := .bl b) (H := H) rfl
  have e : decide (V.bl a = V.bl b) = decide (a = b) := by simp
  rw [e] at q
  exact q
theorem ev_lenV {p : Addr} {xs : List V} (h : Ev ta σ H (.ref p)) (hx : H p = some (.lst xs) ∨ H p = some (.tup xs)) : Ev (tCB (fun xs H Q => ∃ x n, xs = [x] ∧ LenV K x H n ∧ Q (.int n) H) (tCons ta tNil)) σ H (.int (xs.length : Int)) := fun H1 e Q q =>
  h H1 e _ fun H2 e2 => ⟨.ref p, _, rfl, by
    rcases hx with hx | hx
    · exact Or.inl ⟨xs, sq_of ((e.trans e2) _ _ hx), rfl⟩
    · exact Or.inr ⟨xs, st_of ((e.trans e2) _ _ hx), rfl⟩, q H2 e2⟩
theorem rv_eqDict {a : Addr} {kvs : List (Key × V)} (h : H a = some (.dK kvs)) (hn : (kvs.map (·.1)).Nodup) (hf : ∀ p ∈ kvs, flatB p.2 = true) :
    RV (fun x y H Q => ∃ a b kvs, x = .ref a ∧ y = .ref b ∧ H a = some (.dK kvs) ∧ H b = some (.dK kvs) ∧ (kvs.map (·.1)).Nodup ∧ (∀ p ∈ kvs, flatB p.2 = true) ∧ Q (.bl true) H) (.ref a) (.ref a) H (.bl true) := fun H1 e Q q =>
  ⟨a, a, kvs, rfl, rfl, e _ _ h, e _ _ h, hn, hf, q H1 (Ex.refl H1)⟩
theorem rv_isN0 (h : x ≠ .non) : RV (fun x y H Q => y = .non ∧ Q (.bl (decide (x = .non))) H) x .non H (.bl false) := by
  have q := rv_isN (x := x) (H := H)
  rw [decide_eq_false h] at q
  exact q
theorem rv_isN1 : RV (fun x y H Q => y = .non ∧ Q (.bl (decide (x = .non))) H) .non .non H (.bl true) := by
  have q := rv_isN (x := .non) (H := H)
  rw [decide_eq_true rfl] at q
  exact q
end
section
variable {P : Program} {w : World} {K : PySem.W.Frag} {mg : Str → Option Value} {base : Heap} {A : Ad}
abbrev n_wsame : List Str := ["_law_found", "_law_due", "_law_p", "_law_q"]
theorem sc_wsame : FnScope n_wsame ["_law_found", "_law_due"] (defScope s_wsame) := ⟨rfl, rfl, rfl, by decide +kernel, rfl, by decide +kernel, by decide +kernel⟩
def spSame (n : Nat) : Sp := fun vs H Q _ => ∃ x y, vs = [x, y] ∧ SmN n H x y ∧ RetV (.bl true) H Q
theorem ok_wsame_of (T : Tx K mg A) (m : Nat) (sp' : Sp) (ok_wsame : ∀ _ : Tx K mg A, FnOk P w K mg base CX0 m (A.f "_law_same") (A.fd "_law_same") ["_law_found", "_law_due"] sp') (Sub : Hp → V → V → Prop) (hex : ∀ {H H' x y}, Sub H x y → Ex H H' → Sub H' x y) (hsp : ∀ (H : Hp) (u v : V), Sub H u v → SpV sp' [u, v] H (.bl true)) :
    FnOk P w K mg base CX0 (m + 4) (A.f "_law_same") (A.fd "_law_same") ["_law_found", "_law_due"] (fun vs H Q _ => ∃ x y, vs = [x, y] ∧ (Leaf H x y ∨ (∃ (a b : Addr) (xs ys : List V), x = .ref a ∧ y = .ref b ∧ ((H a = some (.lst xs) ∧ H b = some (.lst ys)) ∨ (H a = some (.tup xs) ∧ H b = some (.tup ys))) ∧ xs.length = ys.length ∧ xs.length ≤ 1000 ∧
      ∀ (i : Nat) (u v : V), xs[i]? = some u → ys[i]? = some v → Sub H u v)) ∧ RetV (.bl true) H Q) := by
  refine T.F_wsame.ok sc_wsame (fun vs H Q E h => ?_) (fun cdv A' outer s H vs Q E hr h => ?_)
  · obtain ⟨x, y, rfl, _⟩ := h
    rfl
  · obtain ⟨x, y, rfl, hxy, k⟩ := h
    refine ⟨_, PSs.nox (pss_cons (ps_if (pt_val (pe_callB call_isiT (by rfl) T.n_isinstance (by decide +kernel) (pa_cons (pv 1) (pa_cons (pe_tup (pa_cons (pe_bltn (v := .ty "list") (by rfl) T.n_list (by decide +kernel) rfl) (pa_cons (pe_bltn (v := .ty "tuple") (by rfl) T.n_tuple (by decide +kernel) rfl) pa_nil))) pa_nil))))
      (pss_cons (ps_if (PW.pt (pw_or (pt_cmpR op_ne (pe_callB call_isi (by rfl) T.n_isinstance (by decide +kernel) (pa_cons (pv 0) (pa_cons (pe_bltn (v := .ty "list") (by rfl) T.n_list (by decide +kernel) rfl) pa_nil))) (pe_callB call_isi (by rfl) T.n_isinstance (by decide +kernel) (pa_cons (pv 1) (pa_cons (pe_bltn (v := .ty "list") (by rfl) T.n_list (by decide +kernel) rfl) pa_nil))) (nomark _)) (pw_or1 (pt_cmpR op_ne (pe_callB call_isi (by rfl) T.n_isinstance (by decide +kernel) (pa_cons (pv 0) (pa_cons (pe_bltn (v := .ty "tuple") (by rfl) T.n_tuple (by decide +kernel) rfl) pa_nil))) (pe_callB call_isi (by rfl) T.n_isinstance (by decide +kernel) (pa_cons (pv 1) (pa_cons (pe_bltn (v := .ty "tuple") (by rfl) T.n_tuple (by decide +kernel) rfl) pa_nil))) (nomark _)))))
      (pss_one (ps_ret pe_bl))
      pss_nil)
      (pss_one (ps_ret (pe_and (pe_cmpR op_eq (pe_callB call_len (by rfl) T.n_len PySem.boot_len (pa_cons (pv 0) pa_nil)) (pe_callB call_len (by rfl) T.n_len PySem.boot_len (pa_cons (pv 1) pa_nil)) (nomark _)) (pe_one (pe_callB (cr_all rfl) (by rfl) T.n_all (by decide +kernel) (pa_cons (pe_lc (own := [("_law_p", 2), ("_law_q", 3)]) (g := (gTup K 2 (gCons (gName 2) (gCons (gName 3) gNil)))) (by rfl) sc_wsame.nd (Nr.pi_zipS (by rfl) T.n_zip (pa_cons (pv 0) (pa_cons (pv 1) pa_nil))) (blkOk_by (own := [("_law_p", 2), ("_law_q", 3)]) (N := n_wsame) (sc := defScope s_wsame) (by decide +kernel)) (fun _ _ _ _ _ => (pg_tup rfl (pgs_cons (pg_name (i := 2) sc_wsame.nd rfl (Or.inl rfl) (Or.inr rfl)) (pgs_cons (pg_name (i := 3) sc_wsame.nd rfl (Or.inl rfl) (Or.inr rfl)) pgs_nil)))) (fun _ _ _ _ _ => pts_nil) (fun _ _ _ _ _ => (pe_call (ok_wsame T) (hr.mono (by omega)) (by rfl) T.g_wsame T.F_wsame.kp T.b_wsame .nil pass0 (pa_cons (pv 2) (pa_cons (pv 3) pa_nil))))) pa_nil)))))))
      pss_nil)
      (pss_cons (ps_if (pt_val (pe_callB call_isiT (by rfl) T.n_isinstance (by decide +kernel) (pa_cons (pv 0) (pa_cons (pe_tup (pa_cons (pe_bltn (v := .ty "list") (by rfl) T.n_list (by decide +kernel) rfl) (pa_cons (pe_bltn (v := .ty "tuple") (by rfl) T.n_tuple (by decide +kernel) rfl) pa_nil))) pa_nil))))
      (pss_one (ps_ret pe_bl))
      pss_nil)
      (pss_cons (ps_if (PW.pt (pw_or (pt_cmpR op_isN (pv 1) pe_non (nomark _)) (pw_or1 (pt_cmpR op_isN (pv 0) pe_non (nomark _)))))
      (pss_one (ps_ret (pe_and (pe_cmpR op_isN (pv 1) pe_non (nomark _)) (pe_one (pe_cmpR op_isN (pv 0) pe_non (nomark _))))))
      pss_nil)
      (pss_cons (ps_if (PW.pt (pw_or (pt_val (pe_callB call_isi (by rfl) T.n_isinstance (by decide +kernel) (pa_cons (pv 1) (pa_cons (pe_bltn (v := .ty "bool") (by rfl) T.n_bool (by decide +kernel) rfl) pa_nil)))) (pw_or1 (pt_val (pe_callB call_isi (by rfl) T.n_isinstance (by decide +kernel) (pa_cons (pv 0) (pa_cons (pe_bltn (v := .ty "bool") (by rfl) T.n_bool (by decide +kernel) rfl) pa_nil)))))))
      (pss_one (ps_ret (pe_and (pe_callB call_isi (by rfl) T.n_isinstance (by decide +kernel) (pa_cons (pv 1) (pa_cons (pe_bltn (v := .ty "bool") (by rfl) T.n_bool (by decide +kernel) rfl) pa_nil))) (pe_and (pe_callB call_isi (by rfl) T.n_isinstance (by decide +kernel) (pa_cons (pv 0) (pa_cons (pe_bltn (v := .ty "bool") (by rfl) T.n_bool (by decide +kernel) rfl) pa_nil))) (pe_one (pe_cmpR op_eq (pv 0) (pv 1) (nomark _)))))))
      pss_nil)
      (pss_cons (ps_if (PW.pt (pw_or (pt_val (pe_callB call_isi (by rfl) T.n_isinstance (by decide +kernel) (pa_cons (pv 1) (pa_cons (pe_bltn (v := .ty "int") (by rfl) T.n_int (by decide +kernel) rfl) pa_nil)))) (pw_or1 (pt_val (pe_callB call_isi (by rfl) T.n_isinstance (by decide +kernel) (pa_cons (pv 0) (pa_cons (pe_bltn (v := .ty "int") (by rfl) T.n_int (by decide +kernel) rfl) pa_nil)))))))
      (pss_one (ps_ret (pe_and (pe_callB call_isi (by rfl) T.n_isinstance (by decide +kernel) (pa_cons (pv 1) (pa_cons (pe_bltn (v := .ty "int") (by rfl) T.n_int (by decide +kernel) rfl) pa_nil))) (pe_and (pe_callB call_isi (by rfl) T.n_isinstance (by decide +kernel) (pa_cons (pv 0) (pa_cons (pe_bltn (v := .ty "int") (by rfl) T.n_int (by decide +kernel) rfl) pa_nil))) (pe_one (pe_cmpR op_eq (pv 0) (pv 1) (nomark _)))))))
      pss_nil)
      (pss_cons (ps_if (PW.pt (pw_or (pt_val (pe_callB call_isi (by rfl) T.n_isinstance (by decide +kernel) (pa_cons (pv 1) (pa_cons (pe_bltn (v := .ty "str") (by rfl) T.n_str (by decide +kernel) rfl) pa_nil)))) (pw_or1 (pt_val (pe_callB call_isi (by rfl) T.n_isinstance (by decide +kernel) (pa_cons (pv 0) (pa_cons (pe_bltn (v := .ty "str") (by rfl) T.n_str (by decide +kernel) rfl) pa_nil)))))))
      (pss_one (ps_ret (pe_and (pe_callB call_isi (by rfl) T.n_isinstance (by decide +kernel) (pa_cons (pv 1) (pa_cons (pe_bltn (v := .ty "str") (by rfl) T.n_str (by decide +kernel) rfl) pa_nil))) (pe_and (pe_callB call_isi (by rfl) T.n_isinstance (by decide +kernel) (pa_cons (pv 0) (pa_cons (pe_bltn (v := .ty "str") (by rfl) T.n_str (by decide +kernel) rfl) pa_nil))) (pe_one (pe_cmpR op_eq (pv 0) (pv 1) (nomark _)))))))
      pss_nil)
      (pss_one (ps_ret (pe_and (pe_callB call_isi (by rfl) T.n_isinstance (by decide +kernel) (pa_cons (pv 0) (pa_cons (pe_bltn (v := .ty "dict") (by rfl) T.n_dict (by decide +kernel) rfl) pa_nil))) (pe_and (pe_callB call_isi (by rfl) T.n_isinstance (by decide +kernel) (pa_cons (pv 1) (pa_cons (pe_bltn (v := .ty "dict") (by rfl) T.n_dict (by decide +kernel) rfl) pa_nil))) (pe_one (pe_cmpR (op_eq_dict hr.units0) (pv 0) (pv 1) (nomark _))))))))))))) , ?_⟩
    rcases hxy with (⟨rfl, hx⟩ | ⟨a, kvs, rfl, rfl, h1, h2, h3⟩) | ⟨a, b, xs, ys, rfl, rfl, hab, hl, hk, hs⟩
    · -- a plain value
      have hp : ∃ t, Pl H x t ∧ (t = "bool" ∨ t = "int" ∨ t = "str" ∨ t = "NoneType") := by
        rcases hx with ⟨b, rfl⟩ | ⟨i, rfl⟩ | ⟨z, rfl⟩ | rfl
        · exact ⟨_, .bl b, by simp⟩
        · exact ⟨_, .int i, by simp⟩
        · exact ⟨_, .str z, by simp⟩
        · exact ⟨_, .non, by simp⟩
      obtain ⟨t, p, ht⟩ := hp
      have hlt : (isB t "list" || isB t "tuple") = false := by
        rcases ht with rfl | rfl | rfl | rfl <;> decide
      refine q_skip (et_is (et_B (ev_isLT (ev_var rfl) p)) hlt) fun H1 e1 => ?_
      refine q_skip (et_is (et_B (ev_isLT (ev_var rfl) (p.ex e1))) hlt) fun H2 e2 => ?_
      have e02 := e1.trans e2
      have p2 := p.ex e02
      by_cases hn : x = .non
      · subst hn
        refine q_when (b := true) (et_is (et_or (a := true) (b := false) (et_test (ev_op (ev_var rfl) ev_c rv_isN1)) fun h => absurd h (by decide)) rfl) (fun _ H3 e3 => s_ret (ev_is (ev_andV (a := true) (ev_op (ev_var rfl) ev_c rv_isN1) fun _ => ev_op (ev_var rfl) ev_c rv_isN1) rfl) fun H4 e4 => k H4 (e02.trans (e3.trans e4))) (fun h => absurd h (by decide))
      · refine q_skip (et_is (et_or (a := false) (b := false) (et_test (ev_op (ev_var rfl) ev_c (rv_isN0 hn))) fun _ => et_test (ev_op (ev_var rfl) ev_c (rv_isN0 hn))) rfl) fun H3 e3 => ?_
        have e03 := e02.trans e3
        have p3 := p.ex e03
        rcases hx with ⟨b, rfl⟩ | ⟨i, rfl⟩ | ⟨z, rfl⟩ | rfl
        · have et : t = "bool" := by cases p; rfl
          subst et
          refine q_when (b := true) (et_is (et_or (a := true) (b := false) (et_B (ev_isP (c := "bool") (ev_var rfl) p3 (by simp))) fun h => absurd h (by decide)) rfl) (fun _ H4 e4 => s_ret (ev_is (ev_andV (a := true) (ev_isP (c := "bool") (ev_var rfl) (p3.ex e4) (by simp)) fun _ => ev_andV (a := true) (ev_isP (c := "bool") (ev_var rfl) (p3.ex e4) (by simp)) fun _ => ev_op (ev_var rfl) (ev_var rfl) (rv_eqX rfl)) rfl) fun H5 e5 => k H5 (e03.trans (e4.trans e5))) (fun h => absurd h (by decide))
        · have et : t = "int" := by cases p; rfl
          subst et
          refine q_skip (et_is (et_or (a := false) (b := false) (et_B (ev_isP (c := "bool") (ev_var rfl) p3 (by simp))) fun _ => et_B (ev_isP (c := "bool") (ev_var rfl) p3 (by simp))) rfl) fun H4 e4 => ?_
          have p4 := p3.ex e4
          refine q_when (b := true) (et_is (et_or (a := true) (b := false) (et_B (ev_isP (c := "int") (ev_var rfl) p4 (by simp))) fun h => absurd h (by decide)) rfl) (fun _ H5 e5 => s_ret (ev_is (ev_andV (a := true) (ev_isP (c := "int") (ev_var rfl) (p4.ex e5) (by simp)) fun _ => ev_andV (a := true) (ev_isP (c := "int") (ev_var rfl) (p4.ex e5) (by simp)) fun _ => ev_op (ev_var rfl) (ev_var rfl) (rv_eqX rfl)) rfl) fun H6 e6 => k H6 ((e03.trans e4).trans (e5.trans e6))) (fun h => absurd h (by decide))
        · have et : t = "str" := by cases p; rfl
          subst et
          refine q_skip (et_is (et_or (a := false) (b := false) (et_B (ev_isP (c := "bool") (ev_var rfl) p3 (by simp))) fun _ => et_B (ev_isP (c := "bool") (ev_var rfl) p3 (by simp))) rfl) fun H4 e4 => ?_
          have p4 := p3.ex e4
          refine q_skip (et_is (et_or (a := false) (b := false) (et_B (ev_isP (c := "int") (ev_var rfl) p4 (by simp))) fun _ => et_B (ev_isP (c := "int") (ev_var rfl) p4 (by simp))) rfl) fun H5 e5 => ?_
          have p5 := p4.ex e5
          refine q_when (b := true) (et_is (et_or (a := true) (b := false) (et_B (ev_isP (c := "str") (ev_var rfl) p5 (by simp))) fun h => absurd h (by decide)) rfl) (fun _ H6 e6 => s_ret (ev_is (ev_andV (a := true) (ev_isP (c := "str") (ev_var rfl) (p5.ex e6) (by simp)) fun _ => ev_andV (a := true) (ev_isP (c := "str") (ev_var rfl) (p5.ex e6) (by simp)) fun _ => ev_op (ev_var rfl) (ev_var rfl) (rv_eqX rfl)) rfl) fun H7 e7 => k H7 ((e03.trans e4).trans (e5.trans (e6.trans e7)))) (fun h => absurd h (by decide))
        · exact absurd rfl hn
    · -- a dict
      have p : Pl H (.ref a) "dict" := .dK h1
      have hn : V.ref a ≠ .non := fun z => by cases z
      refine q_skip (et_is (et_B (ev_isLT (ev_var rfl) p)) (by decide)) fun H1 e1 => ?_
      refine q_skip (et_is (et_B (ev_isLT (ev_var rfl) (p.ex e1))) (by decide)) fun H2 e2 => ?_
      refine q_skip (et_is (et_or (a := false) (b := false) (et_test (ev_op (ev_var rfl) ev_c (rv_isN0 hn))) fun _ => et_test (ev_op (ev_var rfl) ev_c (rv_isN0 hn))) rfl) fun H3 e3 => ?_
      have e03 := (e1.trans e2).trans e3
      have p3 := p.ex e03
      refine q_skip (et_is (et_or (a := false) (b := false) (et_B (ev_isP (c := "bool") (ev_var rfl) p3 (by simp))) fun _ => et_B (ev_isP (c := "bool") (ev_var rfl) p3 (by simp))) rfl) fun H4 e4 => ?_
      have p4 := p3.ex e4
      refine q_skip (et_is (et_or (a := false) (b := false) (et_B (ev_isP (c := "int") (ev_var rfl) p4 (by simp))) fun _ => et_B (ev_isP (c := "int") (ev_var rfl) p4 (by simp))) rfl) fun H5 e5 => ?_
      have p5 := p4.ex e5
      refine q_skip (et_is (et_or (a := false) (b := false) (et_B (ev_isP (c := "str") (ev_var rfl) p5 (by simp))) fun _ => et_B (ev_isP (c := "str") (ev_var rfl) p5 (by simp))) rfl) fun H6 e6 => ?_
      have p6 := p5.ex e6
      have e06 := (e03.trans e4).trans (e5.trans e6)
      exact s_ret (ev_is (ev_andV (a := true) (ev_isP (c := "dict") (ev_var rfl) p6 (by simp)) fun _ => ev_andV (a := true) (ev_isP (c := "dict") (ev_var rfl) p6 (by simp)) fun _ => ev_op (ev_var rfl) (ev_var rfl) (rv_eqDict (e06 _ _ h1) h2 h3)) rfl) fun H7 e7 => k H7 (e06.trans e7)
    · -- lists, tuples
      have hit : ∀ i, i < xs.length → xs[i]? = some (xs.getD i .non) := fun i hi => getD_some hi
      have hit2 : ∀ i, i < xs.length → ys[i]? = some (ys.getD i .non) := fun i hi => getD_some (by omega)
      have fin : ∀ H1, Ex H H1 → EvI (Nr.iZipS K (tCons (tVar 0) (tCons (tVar 1) tNil))) (gTup K 2 (gCons (gName 2) (gCons (gName 3) gNil))) (L2.start n_wsame [.ref a, .ref b]) H1 xs.length (fun i σ => (σ.set 2 (some (xs.getD i .non))).set 3 (some (ys.getD i .non))) → (H1 a = some (.lst xs) ∨ H1 a = some (.tup xs)) → (H1 b = some (.lst ys) ∨ H1 b = some (.tup ys)) →
          tRet (tAndV (tOp rEq (tCB (fun xs H Q => ∃ x n, xs = [x] ∧ LenV K x H n ∧ Q (.int n) H) (tCons (tVar 0) tNil)) (tCB (fun xs H Q => ∃ x n, xs = [x] ∧ LenV K x H n ∧ Q (.int n) H) (tCons (tVar 1) tNil))) (tCB (rAll K) (tCons (tLc (Nr.iZipS K (tCons (tVar 0) (tCons (tVar 1) tNil))) (gTup K 2 (gCons (gName 2) (gCons (gName 3) gNil))) tYes (tCall sp' [] E0 (tCons (tVar 2) (tCons (tVar 3) tNil))) [2, 3]) tNil))) { nx := fun x H' => Q V.non H', rt := Q } (L2.start n_wsame [.ref a, .ref b]) H1 := fun H1 e1 hI ha hb => by
        refine s_ret (ev_is (ev_andV (a := true) (b := true) (ev_is (ev_op (ev_lenV (ev_var rfl) ha) (ev_lenV (ev_var rfl) hb) rv_eqI) (by rw [hl, decide_eq_true rfl])) fun _ => ev_is (ev_all (bs := List.replicate xs.length true) (eA (el_lcA hI (by omega) (fun i => .bl true) (fun i hi => rfl) (fun i hi => ?_)) ?_)) ?_) rfl) fun H2 e2 => k H2 (e1.trans e2)
        · exact ev_call (dvs := []) (ea2 (ev_var rfl) (ev_var rfl)) (hsp H1 _ _ (hex (hs i _ _ (hit i hi) (hit2 i hi)) e1))
        · rw [List.map_replicate, List.map_const', List.length_range]
        · simp
      rcases hab with ⟨ha, hb⟩ | ⟨ha, hb⟩
      · refine q_when (b := true) (et_is (et_B (ev_isLT (ev_var rfl) (.lst hb))) (by decide)) (fun _ H1 e1 => ?_) (fun h => absurd h (by decide))
        refine q_skip (et_is (et_or (a := false) (b := false) (et_is (et_test (ev_op (ev_isP (c := "list") (ev_var rfl) (.lst (e1 _ _ ha)) (by simp)) (ev_isP (c := "list") (ev_var rfl) (.lst (e1 _ _ hb)) (by simp)) rv_neB)) (by decide)) fun _ => et_is (et_test (ev_op (ev_isP (c := "tuple") (ev_var rfl) (.lst (e1 _ _ ha)) (by simp)) (ev_isP (c := "tuple") (ev_var rfl) (.lst (e1 _ _ hb)) (by simp)) rv_neB)) (by decide)) rfl) fun H2 e2 => ?_
        have e02 := e1.trans e2
        exact fin H2 e02 (ei_zipLL (ea2 (ev_var rfl) (ev_var rfl)) (sq_of (e02 _ _ ha)) (sq_of (e02 _ _ hb)) rfl hl.symm hit hit2) (Or.inl (e02 _ _ ha)) (Or.inl (e02 _ _ hb))
      · refine q_when (b := true) (et_is (et_B (ev_isLT (ev_var rfl) (.tup hb))) (by decide)) (fun _ H1 e1 => ?_) (fun h => absurd h (by decide))
        refine q_skip (et_is (et_or (a := false) (b := false) (et_is (et_test (ev_op (ev_isP (c := "list") (ev_var rfl) (.tup (e1 _ _ ha)) (by simp)) (ev_isP (c := "list") (ev_var rfl) (.tup (e1 _ _ hb)) (by simp)) rv_neB)) (by decide)) fun _ => et_is (et_test (ev_op (ev_isP (c := "tuple") (ev_var rfl) (.tup (e1 _ _ ha)) (by simp)) (ev_isP (c := "tuple") (ev_var rfl) (.tup (e1 _ _ hb)) (by simp)) rv_neB)) (by decide)) rfl) fun H2 e2 => ?_
        have e02 := e1.trans e2
        exact fin H2 e02 (ei_zipTT (ea2 (ev_var rfl) (ev_var rfl)) (e02 _ _ ha) (e02 _ _ hb) rfl hl.symm hit hit2) (Or.inr (e02 _ _ ha)) (Or.inr (e02 _ _ hb))
theorem ok_wsame (T : Tx K mg A) : ∀ n : Nat, FnOk P w K mg base CX0 (4 * n + 6) (A.f "_law_same") (A.fd "_law_same") ["_law_found", "_law_due"] (spSame n)
  | 0 => by
    have F : FnOk P w K mg base CX0 2 (A.f "_law_same") (A.fd "_law_same") ["_law_found", "_law_due"] (fun _ _ _ _ => False) := ⟨fun _ _ _ _ h => h.elim, fun _ _ _ _ _ _ _ _ _ _ _ _ _ h => h.elim⟩
    exact (ok_wsame_of T 2 _ (fun _ => F) (fun _ _ _ => False) (fun h _ => h) (fun _ _ _ h => h.elim)).imp fun vs H Q E h => by
      obtain ⟨x, y, rfl, h1, k⟩ := h
      exact ⟨x, y, rfl, Or.inl h1, k⟩
  | n + 1 => by
    exact (ok_wsame_of T (4 * n + 6) _ (fun _ => ok_wsame T n) (SmN n) (fun h e => h.ex e) (fun H u v h H1 e Q q E => ⟨u, v, rfl, h.ex e, q⟩)).imp fun vs H Q E h => by
      obtain ⟨x, y, rfl, h1, k⟩ := h
      exact ⟨x, y, rfl, h1, k⟩
abbrev n_wwrong : List Str := ["_law_frame_here", "_law_kept", "_law_v", "_law_k"]
theorem sc_wwrong : FnScope n_wwrong ["_law_frame_here", "_law_kept", "_law_v"] (defScope s_wwrong) := ⟨rfl, rfl, rfl, by decide +kernel, rfl, by decide +kernel, by decide +kernel⟩
def spWrong : Sp := fun vs H Q _ => ∃ (cl kp : Addr) (cs : Cells) (kept : List (List Nat)) (v : V) (t : String), vs = [.ref cl, .ref kp, v] ∧ CellsAt H cl cs ∧ cs.length ≤ 100 ∧ H kp = some (.lst (kept.map vS)) ∧ Pl H v t ∧ (∀ z, v = .str z → z.cps.toList.length ≤ 1000) ∧
  (isRow cs v = false → ∀ p H2, H p = none → Ex H H2 → H2 p = some (.tup [.str "BadRow", v]) → Q (.ref p) H2) ∧ (isRow cs v = true → (∃ r ∈ kept, v = vS r) → RetV .non H Q) ∧
  (isRow cs v = true → (¬ ∃ r ∈ kept, v = vS r) → ∀ p H2, H p = none → Ex H H2 → H2 p = some (.tup [.str "NotInBand", v]) → Q (.ref p) H2)
theorem ok_wwrong (T : Tx K mg A) : FnOk P w K mg base CX0 2 (A.f "_law_wrong") (A.fd "_law_wrong") ["_law_frame_here", "_law_kept", "_law_v"] spWrong := by
  refine T.F_wwrong.ok sc_wwrong (fun vs H Q E h => ?_) (fun cdv A' outer s H vs Q E hr h => ?_)
  · obtain ⟨cl, kp, cs, kept, v, t, rfl, _⟩ := h
    rfl
  · obtain ⟨cl, kp, cs, kept, v, t, rfl, ⟨ts, h1, h2⟩, hc, hkp, p, hz, k1, k2, k3⟩ := h
    refine ⟨_, PSs.nox (pss_cons (ps_if (PW.pt (pw_or (pt_not (pt_val (pe_callB call_isi (by rfl) T.n_isinstance (by decide +kernel) (pa_cons (pv 2) (pa_cons (pe_bltn (v := .ty "str") (by rfl) T.n_str (by decide +kernel) rfl) pa_nil))))) (pw_or1 (pt_cmpR op_ne (pe_callB call_len_str (by rfl) T.n_len PySem.boot_len (pa_cons (pv 2) pa_nil)) (pe_callB call_len_seq (by rfl) T.n_len PySem.boot_len (pa_cons (pv 0) pa_nil)) (nomark _)))))
      (pss_one (ps_ret (pe_tup (pa_cons pe_str (pa_cons (pv 2) pa_nil)))))
      pss_nil)
      (pss_cons (ps_for PassesOwn.never rfl (pi_range1 (by rfl) T.n_range (pa_cons (pe_callB call_len_seq (by rfl) T.n_len PySem.boot_len (pa_cons (pv 0) pa_nil)) pa_nil)) (pg_name (i := 3) sc_wwrong.nd rfl (Or.inl rfl) (Or.inr rfl))
      (pss_one (ps_if (pt_cmpR op_notIn_sign (pe_ix ix_str (pv 2) (pv 3) (fun _ _ => rfl)) (pe_op op_add_str pe_str (pe_slice sl_str pe_str po_none (po_some (pe_ix ix_tup (pe_ix ix_list (pv 0) (pv 3) (fun _ _ => rfl)) pe_int (fun _ _ => rfl))))) (by rfl))
      (pss_one (ps_ret (pe_tup (pa_cons pe_str (pa_cons (pv 2) pa_nil)))))
      pss_nil)))
      (pss_one (ps_ret (pe_ifExp (pt_cmpR op_in_seq (pv 2) (pv 1) (by rfl)) pe_non (pe_tup (pa_cons pe_str (pa_cons (pv 2) pa_nil)))))))) , ?_⟩
    have hbad : ∀ H1, Ex H H1 → isRow cs v = false → ∀ σ : L2.St, σ[2]? = some (some v) → tRet (tTup (tCons (tC (.str "BadRow")) (tCons (tVar 2) tNil))) { nx := fun x H' => Q V.non H', rt := Q } σ H1 := fun H1 e1 h σ hσ => s_retU (eu_tup (ea2 ev_c (ev_var hσ)) (by simp)) fun q H2 nq e2 hq => k1 h q H2 (fresh_back e1 nq) (e1.trans e2) hq
    by_cases hv : ∃ z, v = .str z
    · obtain ⟨z, rfl⟩ := hv
      have hz := hz z rfl
      have ez : z = S z.cps.toList := (S_tl z).symm
      generalize z.cps.toList = l at ez hz
      subst ez
      have et : t = "str" := by
        cases p
        rfl
      subst et
      have ek : isRow cs (vS l) = (decide (l.length = cs.length) && rowB cs l) := rfl
      have hlen : ∀ (σ : L2.St) (H1 : Hp), Ex H H1 → σ[0]? = some (some (.ref cl)) → Ev (tCB (fun xs H Q => ∃ p ys, xs = [.ref p] ∧ (SqL K H p ys ∨ SqT K H p ys) ∧ Q (.int ys.length) H) (tCons (tVar 0) tNil)) σ H1 (.int (cs.length : Int)) := fun σ H1 e1 hσ => by
        have q := ev_lenL (K := K) (ta := tVar 0) (σ := σ) (ev_var hσ) (sq_of (e1 _ _ h1))
        rw [List.length_map, List.length_range] at q
        exact q
      refine q_when (b := !decide (l.length = cs.length)) (et_is (et_or (a := false) (et_not (a := true) (et_B (ev_isP (c := "str") (ev_var rfl) (.str _) (by simp)))) fun _ => et_test (ev_op (ev_lenS (ev_var rfl) (by omega)) (hlen _ H (Ex.refl H) rfl) rv_neI)) (by
        show (false || !decide ((l.length : Int) = (cs.length : Int))) = _
        by_cases e : l.length = cs.length
        · rw [e]
          simp
        · rw [decide_eq_false e, decide_eq_false (by omega)] <;> rfl)) (fun hb H1 e1 => ?_) (fun hb H1 e1 => ?_)
      · have hne : decide (l.length = cs.length) = false := by simpa using hb
        exact hbad H1 e1 (by rw [ek, hne] <;> rfl) _ rfl
      · have hne : l.length = cs.length := by simpa using hb
        refine q_forF (W := H1) (n := cs.length) (ei_rng1 (ea1 (hlen _ H1 e1 rfl)) (by omega) (by omega)) (Ex.refl H1)
          (fun W1 i σ' H' => Ex W1 H' ∧ (∃ o, σ' = [some (.ref cl), some (.ref kp), some (vS l), o]) ∧ ∀ j, j < i → l.getD j 0 ∈ sg.take ((cellD cs j).2 + 1))
          (fun W1 H2 e2 eW ew hW => ⟨ew, ⟨none, rfl⟩, fun j hj => absurd hj (Nat.not_lt_zero _)⟩) (fun W1 i σ' H' h => h.1) (fun W1 i σ' H' eW hi h H2 e2 => ?_) (fun W1 σ' H' eW h => ?_)
        · obtain ⟨g1, ⟨o, rfl⟩, g2⟩ := h
          have eH := (e1.trans eW).trans (g1.trans e2)
          have hsgk : [46] ++ ([48, 49, 50, 51] : List Nat).take (((cellD cs i).2 : Nat) : Int).toNat = sg.take ((cellD cs i).2 + 1) := by
            rw [Int.toNat_natCast]
            rfl
          refine s_when (b := !decide (l.getD i 0 ∈ sg.take ((cellD cs i).2 + 1))) (et_is (et_test (ev_op (ev_op (ev_var rfl) (ev_var rfl) (rv_ixSn (i := i) (by omega) (getD_some (d := 0) (by omega)))) (ev_op (ev_lit (l := [46]) rfl) (ev_slTo (l := [48, 49, 50, 51]) (k := (((cellD cs i).2 : Nat) : Int)) (ev_lit rfl) (ev_op (ev_op (ev_var rfl) (ev_var rfl) (rv_ixLn (i := i) (sq_of (eH _ _ h1)) (range_get hi))) ev_c (rv_ixTn (i := 1) (st_of (eH _ _ (h2 i hi))) rfl)) (by decide) (by omega)) (rv_catS (by
              rw [List.length_take]
              simp
              omega))) rv_niS)) (by rw [hsgk])) (fun hb H3 e3 => ?_) (fun hb H3 e3 => ?_)
          · have hm : l.getD i 0 ∉ sg.take ((cellD cs i).2 + 1) := by simpa using hb
            refine hbad H3 (eH.trans e3) ?_ _ rfl
            have : rowB cs l = false := by
              rw [Bool.eq_false_iff]
              intro hall
              exact hm (of_decide_eq_true (List.all_eq_true.mp hall i (List.mem_range.mpr hi)))
            rw [ek, this, Bool.and_false]
          · have hm : l.getD i 0 ∈ sg.take ((cellD cs i).2 + 1) := by simpa using hb
            refine ⟨(g1.trans e2).trans e3, ⟨_, rfl⟩, fun j hj => ?_⟩
            by_cases hji : j = i
            · subst hji
              exact hm
            · exact g2 j (by omega)
        · obtain ⟨g1, ⟨o, rfl⟩, g2⟩ := h
          have eH := (e1.trans eW).trans g1
          have hrow : isRow cs (vS l) = true := by
            rw [ek, decide_eq_true hne, Bool.true_and]
            exact List.all_eq_true.mpr fun j hj => decide_eq_true (g2 j (List.mem_range.mp hj))
          have hin : EvT (tTest (tOp (rIn K false) (tVar 2) (tVar 1))) [some (.ref cl), some (.ref kp), some (vS l), o] H' (decide (l ∈ kept)) := et_is (et_test (ev_op (ev_var rfl) (ev_var rfl) (rv_isL (sq_of (eH _ _ hkp)) rfl (flatS _)))) (by rw [inV_S])
          have em : (∃ r ∈ kept, vS l = vS r) ↔ l ∈ kept := ⟨fun ⟨r, hr, e⟩ => by rw [vS_inj e]; exact hr, fun hr => ⟨l, hr, rfl⟩⟩
          by_cases hlk : l ∈ kept
          · have hin' := et_is hin (decide_eq_true hlk)
            exact s_ret (ev_if hin' (fun _ => ev_c) fun h => absurd h (by decide)) fun H5 e5 => k2 hrow (em.mpr hlk) H5 (eH.trans e5)
          · have hin' := et_is hin (decide_eq_false hlk)
            refine hin' H' (Ex.refl H') _ fun H5 e5 => ?_
            rw [if_neg Bool.false_ne_true]
            exact eu_tup (ea2 ev_c (ev_var rfl)) (by simp) H5 e5 _ fun q H6 nq e6 hq => k3 hrow (fun h => hlk (em.mp h)) q H6 (fresh_back (eH.trans e5) nq) ((eH.trans e5).trans e6) hq
    · have e0 : isRow cs v = false := by
        cases v <;> first | rfl | exact absurd ⟨_, rfl⟩ hv
      have e1 : isB t "str" = false := by
        cases p <;> first | exact absurd ⟨_, rfl⟩ hv | decide
      refine q_when (b := true) (et_is (et_or (a := true) (b := false) (et_is (et_not (et_B (ev_isP (c := "str") (ev_var rfl) p (by simp)))) (by rw [e1] <;> rfl)) fun h => absurd h (by decide)) rfl) (fun hb H1 e1 => ?_) (fun h => absurd h (by decide))
      exact hbad H1 e1 e0 _ rfl
end
end Nt
end
section
set_option Elab.async false
set_option linter.all false
set_option maxRecDepth 100000
set_option maxHeartbeats 4000000
namespace Nt
open PySem PySem.Spec PyProof.Rows L2 Evl SX
/-! ### the bag that the draws come from: only its shape matters -/
structure BagOk (ns : List Int) (pos rest mixed : Int) : Prop where
  len : ns.length ≤ 63
  p0 : 0 ≤ pos
  p1 : pos ≤ ns.length
  r0 : 0 ≤ rest
  m0 : 0 ≤ mixed
  m1 : mixed < 2147483648
def bagL (l : Addr) (pos rest mixed cnt : Int) : List V := [.ref l, .int pos, .int rest, .int mixed, .int cnt]
def BagAt (H : Hp) (b l : Addr) : Prop := ∃ (ns : List Int) (pos rest mixed cnt : Int), H b = some (.lst (bagL l pos rest mixed cnt)) ∧ H l = some (.lst (ns.map V.int)) ∧ BagOk ns pos rest mixed
theorem bagL_lt {l : Addr} {pos rest mixed cnt : Int} {j : Nat} (h : j < 5) : j < (bagL l pos rest mixed cnt).length := h
theorem BagAt.ex {H H' : Hp} {b l : Addr} (h : BagAt H b l) (e : Ex H H') : BagAt H' b l := by
  obtain ⟨ns, pos, rest, mixed, cnt, h1, h2, h3⟩ := h
  exact ⟨ns, pos, rest, mixed, cnt, e _ _ h1, e _ _ h2, h3⟩
theorem to_hid {W H : Hp} {b : Addr} (e : Ex W H) (h : W b = none) : Ex W (hid b H) := fun a o ha => by
  unfold hid
  by_cases hab : a = b
  · subst hab
    rw [h] at ha
    cases ha
  · rw [if_neg hab]
    exact e a o ha
section
variable {K : PySem.W.Frag} {σ : L2.St} {W H H' : Hp} {ta tb tc te tl td ty : TE} {t u : TT} {x y z v w' : V} {D : Ends} {tu tz : TS} {g : TG} {wi : TI}
theorem rv_mulR {i j : Int} (h : -(2 ^ 64) < j ∧ j < 2 ^ 64) : RV (rI CMul fun i j => .int (i * j)) (.int i) (.int j) H (.int (i * j)) := rv_I (Or.inr h)
theorem rv_mod {i j : Int} (h : j ≠ 0) : RV (rI (fun _ j => j ≠ 0) fun i j => .int (i.fmod j)) (.int i) (.int j) H (.int (i.fmod j)) := rv_I h
theorem rv_div {i j : Int} (h : j ≠ 0 ∧ j.natAbs < 1073741824) : RV (rI CDivN fun i j => .int (i.fdiv j)) (.int i) (.int j) H (.int (i.fdiv j)) := rv_I h
theorem rv_pow {i j : Int} (h : 0 ≤ j ∧ j ≤ 1000000 ∧ i.natAbs < 2 ^ 64) : RV (rI CPow fun i j => .int (i ^ j.toNat)) (.int i) (.int j) H (.int (i ^ j.toNat)) := rv_I h
/-- bag[i] -/
theorem ev_bag {b : Addr} {xs : List V} {i : Nat} (h : Ev ta σ H (.ref b)) (hb : H b = some (.lst xs)) (hi : xs[i]? = some v) : Ev (tOp (rIxL K) ta (tC (.int (i : Int)))) σ H v := ev_op h ev_c (rv_ixLn (sq_of hb) hi)
end
section
variable {P : Program} {w : World} {K : PySem.W.Frag} {mg : Str → Option Value} {base : Heap} {A : Ad}
abbrev n_wbag : List Str := ["_law_script", "_law_mixed", "_law_cell"]
theorem sc_wbag : FnScope n_wbag ["_law_script"] (defScope s_wbag) := ⟨rfl, rfl, rfl, by decide +kernel, rfl, by decide +kernel, by decide +kernel⟩
def spBag (K : PySem.W.Frag) : Sp := fun vs H Q _ => ∃ (a : Addr) (ns : List Int), vs = [.ref a] ∧ SqL K H a (ns.map V.int) ∧ ns.length ≤ 63 ∧ ∀ b l0 H2, H b = none → Ex H H2 → BagAt H2 b l0 → Q (.ref b) H2
theorem ok_wbag (T : Tx K mg A) : FnOk P w K mg base CX0 2 (A.f "_law_bag") (A.fd "_law_bag") ["_law_script"] (spBag K) := by
  refine T.F_wbag.ok sc_wbag (fun vs H Q E h => ?_) (fun cdv A' outer s H vs Q E hr h => ?_)
  · obtain ⟨a, ns, rfl, _⟩ := h
    rfl
  · obtain ⟨a, ns, rfl, hS, h63, k⟩ := h
    refine ⟨_, PSs.nox (pss_cons (ps_set (i := 1) sc_wbag.nd rfl (Or.inl rfl) pe_int)
      (pss_cons (ps_for PassesOwn.never rfl (pi_list (pe_slice sl_list (pv 0) po_none (po_some pe_int))) (pg_name (i := 2) sc_wbag.nd rfl (Or.inl rfl) (Or.inr rfl))
      (pss_one (ps_set (i := 1) sc_wbag.nd rfl (Or.inl rfl) (pe_op op_modN (pe_callTy call_int1 (by rfl) T.n_int (by decide +kernel) (pa_cons (pe_op op_add (pe_op op_add (pe_op op_mul (pv 1) pe_int) (pe_op op_mul (pe_op op_modN (pe_callTy call_int1 (by rfl) T.n_int (by decide +kernel) (pa_cons (pv 2) pa_nil)) pe_int) pe_int)) pe_int) pa_nil)) pe_int))))
      (pss_one (ps_ret (pe_lst (pa_cons (pe_callTy call_list_of (by rfl) T.n_list (by decide +kernel) (pa_cons (pe_slice sl_list (pv 0) po_none (po_some pe_int)) pa_nil)) (pa_cons pe_int (pa_cons pe_int (pa_cons (pv 1) (pa_cons pe_int pa_nil)))))))))) , ?_⟩
    have htk : (ns.map V.int).take (63 : Int).toNat = ns.map V.int := List.take_of_length_le (by rw [List.length_map]; exact h63)
    refine q_asg ev_c fun H1 e1 => ?_
    refine q_forF (W := H1) (n := ns.length) (by
        have q := ei_listN (K := K) (W := H1) (tl := tSl (rSlL K) (tVar 0) tNoPart (tPart (tC (.int 63)))) (σ := [some (.ref a), some (.int 42042), none]) (j := 2) (it := fun i => .int (ns.getD i 0)) (eA (el_slTo (k := 63) (ev_var rfl) ev_c (ex_l e1 hS) (by decide)) htk) (fun i hi => by
          rw [List.length_map] at hi
          rw [List.getElem?_map, getD_some (d := 0) hi] <;> rfl)
        rw [List.length_map] at q
        exact q) (Ex.refl H1)
      (fun W1 i σ' H' => Ex W1 H' ∧ ∃ (m : Int) (o : Option V), σ' = [some (.ref a), some (.int m), o] ∧ 0 ≤ m ∧ m < 2147483648)
      (fun W1 H2 e2 eW ew hW => ⟨ew, 42042, none, rfl, by decide, by decide⟩) (fun W1 i σ' H' h => h.1) (fun W1 i σ' H' eW hi h H2 e2 => ?_) (fun W1 σ' H' eW h => ?_)
    · obtain ⟨g1, m, o, rfl, m0, m1⟩ := h
      refine s_asg (ev_op (ev_int1 (ev_op (ev_op (ev_op (ev_var rfl) ev_c (rv_mulR (by decide))) (ev_op (ev_op (ev_int1 (ev_var rfl)) ev_c (rv_mod (by decide))) ev_c (rv_mulR (by decide))) rv_add) ev_c rv_add)) ev_c (rv_mod (by decide))) fun H3 e3 => ⟨(g1.trans e2).trans e3, _, _, rfl, Int.fmod_nonneg_of_pos _ (by decide), Int.lt_of_lt_of_le (Int.fmod_lt_of_pos _ (by decide)) (by decide)⟩
    · obtain ⟨g1, m, o, rfl, m0, m1⟩ := h
      have eH := (e1.trans eW).trans g1
      refine (el_slTo (K := K) (te := tVar 0) (th := tC (.int 63)) (σ := [some (.ref a), some (.int m), o]) (k := 63) (ev_var rfl) ev_c (ex_l eH hS) (by decide)) H' (Ex.refl H') _ fun l1 H2 nl1 e2 hl1 => ?_
      refine ⟨l1, _, rfl, Or.inl (sq_of hl1), fun l hl => ?_⟩
      rw [htk]
      refine ea_cons (tr := tCons (tC (.int 0)) (tCons (tVar 1) (tCons (tC (.int 0)) tNil))) (σ := [some (.ref a), some (.int m), o]) ev_c (ea3 ev_c (ev_var rfl) ev_c) _ (Ex.refl _) _ fun H3 e3 => ⟨(by show 5 ≤ sizeLine; decide), fun b hb => ?_⟩
      have e4 : Ex H (upd H3 b (.lst (bagL l 0 0 m 0))) := ((eH.trans e2).trans ((Ex.new hl).trans e3)).trans (Ex.new hb)
      refine k b l _ (fresh_back ((eH.trans e2).trans ((Ex.new hl).trans e3)) hb) e4 ⟨ns, 0, 0, m, 0, upd_same, ?_, ⟨h63, by decide, by omega, by decide, m0, m1⟩⟩
      have hlb : l ≠ b := ne_of_none (e3 _ _ upd_same) hb
      rw [upd_ne hlb]
      exact e3 _ _ upd_same
abbrev n_wdraw : List Str := ["_law_bag_here", "_law_top", "_law_cell", "_law_digit", "_law_grain"]
theorem sc_wdraw : FnScope n_wdraw ["_law_bag_here", "_law_top"] (defScope s_wdraw) := ⟨rfl, rfl, rfl, by decide +kernel, rfl, by decide +kernel, by decide +kernel⟩
def spDraw : Sp := fun vs H Q _ => ∃ (b l0 : Addr) (top : Int), vs = [.ref b, .int top] ∧ BagAt H b l0 ∧ 1 ≤ top ∧ top < 1073741824 ∧ ∀ (d : Nat) H2, (d : Int) < top → Ex (hid b H) H2 → BagAt H2 b l0 → Q (.int (d : Int)) H2
theorem fmod_nat {i j : Int} (h : 0 < j) : ∃ d : Nat, i.fmod j = (d : Int) ∧ (d : Int) < j := by
  have h1 := Int.fmod_nonneg_of_pos i h
  have h2 := Int.fmod_lt_of_pos i h
  exact ⟨(i.fmod j).toNat, by omega, by omega⟩
theorem ok_wdraw (T : Tx K mg A) : FnOk P w K mg base CX0 2 (A.f "_law_draw") (A.fd "_law_draw") ["_law_bag_here", "_law_top"] spDraw := by
  refine T.F_wdraw.ok sc_wdraw (fun vs H Q E h => ?_) (fun cdv A' outer s H vs Q E hr h => ?_)
  · obtain ⟨b, l0, top, rfl, _⟩ := h
    rfl
  · obtain ⟨b, l, top, rfl, ⟨ns, pos, rest, mixed, cnt, hb, hl, ok⟩, t1, t2, k⟩ := h
    have hlb : l ≠ b := fun e => by
      rw [e, hb] at hl
      have q := HO.lst.inj (Option.some.inj hl)
      cases ns with
      | nil => cases q
      | cons x xs =>
        have q2 := (List.cons.inj q).1
        cases q2
    refine ⟨_, PSs.nox (pss_cons (ps_asg (pe_op op_add (pe_ix ix_list (pv 0) pe_int (fun _ _ => rfl)) pe_int) (pg_sub (pv 0) pe_int set_list))
      (pss_cons (ps_if (PW.pt (pw_and (pt_cmpR op_eq (pe_ix ix_list (pv 0) pe_int (fun _ _ => rfl)) pe_int (nomark _)) (pw_and1 (pt_cmpR op_lt (pe_ix ix_list (pv 0) pe_int (fun _ _ => rfl)) (pe_callB call_len_seq (by rfl) T.n_len PySem.boot_len (pa_cons (pe_ix ix_list (pv 0) pe_int (fun _ _ => rfl)) pa_nil)) (nomark _)))))
      (pss_cons (ps_set (i := 2) sc_wdraw.nd rfl (Or.inl rfl) (pe_callTy call_int1 (by rfl) T.n_int (by decide +kernel) (pa_cons (pe_ix ix_list (pe_ix ix_list (pv 0) pe_int (fun _ _ => rfl)) (pe_ix ix_list (pv 0) pe_int (fun _ _ => rfl)) (fun _ _ => rfl)) pa_nil)))
      (pss_cons (ps_asg (pe_op op_add (pe_ix ix_list (pv 0) pe_int (fun _ _ => rfl)) pe_int) (pg_sub (pv 0) pe_int set_list))
      (pss_one (ps_if (pt_cmpR op_ge (pe_callB call_abs (by rfl) T.n_abs (by decide +kernel) (pa_cons (pv 2) pa_nil)) (pe_op op_pow pe_int pe_int) (nomark _))
      (pss_one (ps_asg (pe_callB call_abs (by rfl) T.n_abs (by decide +kernel) (pa_cons (pv 2) pa_nil)) (pg_sub (pv 0) pe_int set_list)))
      (pss_one (ps_asg (pe_op op_modN (pe_callTy call_int1 (by rfl) T.n_int (by decide +kernel) (pa_cons (pe_op op_add (pe_op op_add (pe_op op_mul (pe_ix ix_list (pv 0) pe_int (fun _ _ => rfl)) pe_int) (pe_op op_mul (pe_op op_modN (pe_callTy call_int1 (by rfl) T.n_int (by decide +kernel) (pa_cons (pv 2) pa_nil)) pe_int) pe_int)) pe_int) pa_nil)) pe_int) (pg_sub (pv 0) pe_int set_list)))))))
      pss_nil)
      (pss_cons (ps_if (pt_cmpR op_gt (pe_ix ix_list (pv 0) pe_int (fun _ _ => rfl)) pe_int (nomark _))
      (pss_cons (ps_set (i := 3) sc_wdraw.nd rfl (Or.inl rfl) (pe_op op_modN (pe_callTy call_int1 (by rfl) T.n_int (by decide +kernel) (pa_cons (pe_ix ix_list (pv 0) pe_int (fun _ _ => rfl)) pa_nil)) (pv 1)))
      (pss_cons (ps_asg (pe_op op_fdivN (pe_ix ix_list (pv 0) pe_int (fun _ _ => rfl)) (pv 1)) (pg_sub (pv 0) pe_int set_list))
      (pss_one (ps_ret (pv 3)))))
      pss_nil)
      (pss_cons (ps_set (i := 4) sc_wdraw.nd rfl (Or.inl rfl) (pe_callTy call_int1 (by rfl) T.n_int (by decide +kernel) (pa_cons (pe_ix ix_list (pv 0) pe_int (fun _ _ => rfl)) pa_nil)))
      (pss_cons (ps_asg (pe_op op_modN (pe_callTy call_int1 (by rfl) T.n_int (by decide +kernel) (pa_cons (pe_op op_add (pe_op op_add (pe_op op_add (pe_op op_pow (pv 4) pe_int) (pe_op op_mul (pv 4) pe_int)) (pe_op op_mul (pe_ix ix_list (pv 0) pe_int (fun _ _ => rfl)) pe_int)) pe_int) pa_nil)) pe_int) (pg_sub (pv 0) pe_int set_list))
      (pss_one (ps_ret (pe_op op_modN (pe_callTy call_int1 (by rfl) T.n_int (by decide +kernel) (pa_cons (pe_op op_add (pe_op op_fdivN (pe_ix ix_list (pv 0) pe_int (fun _ _ => rfl)) pe_int) (pe_op op_mul (pe_op op_modN (pe_callTy call_int1 (by rfl) T.n_int (by decide +kernel) (pa_cons (pe_ix ix_list (pv 0) pe_int (fun _ _ => rfl)) pa_nil)) pe_int) pe_int)) pa_nil)) (pv 1))))))))) , ?_⟩
    -- behind any stores: the bag b stands, the rest of the heap too
    have kk : ∀ (d : Nat) H2 pos rest mixed cnt, (d : Int) < top → Ex (hid b H) H2 → H2 b = some (.lst (bagL l pos rest mixed cnt)) → BagOk ns pos rest mixed → Q (.int (d : Int)) H2 := fun d H2 pos rest mixed cnt hd e h1 h2 => k d H2 hd e ⟨ns, pos, rest, mixed, cnt, h1, e _ _ (hid_at hl hlb), h2⟩
    have lW : ∀ H2, Ex (hid b H) H2 → H2 l = some (.lst (ns.map V.int)) := fun H2 e => e _ _ (hid_at hl hlb)
    refine s_setL (D := { nx := _, rt := Q }) (l := b) (j := 4) (xs := bagL l pos rest mixed cnt) hb (ev_op (ev_bag (i := 4) (ev_var rfl) hb rfl) ev_c rv_add) (ev_var rfl) ev_c (bagL_lt (by decide)) fun H1 e1 => ?_
    have e1' : Ex (hid b H) (upd H1 b (.lst ((bagL l pos rest mixed cnt).set 4 (.int (cnt + 1))))) := Ex.mut ((hid_ex b H).trans e1) (hid_none b H)
    generalize hH2 : upd H1 b (.lst ((bagL l pos rest mixed cnt).set 4 (.int (cnt + 1)))) = H2 at e1'
    have b2 : H2 b = some (.lst (bagL l pos rest mixed (cnt + 1))) := by
      rw [← hH2, upd_same]
      rfl
    clear hH2
    -- behind the if
    have rest_ : ∀ (σ' : L2.St) (H' : Hp) (pos rest mixed : Int) (o : Option V), σ' = [some (.ref b), some (.int top), o, none, none] → Ex (hid b H) H' → H' b = some (.lst (bagL l pos rest mixed (cnt + 1))) → BagOk ns pos rest mixed →
        tSeq (tIfS (tTest (tOp (rI0 fun i j => .bl (decide (j < i))) (tOp (rIxL K) (tVar 0) (tC (.int 2))) (tC (.int 0)))) (tSeq (tAsg (tOp (rI (fun _ j => j ≠ 0) fun i j => .int (i.fmod j)) (tCB (fun xs H Q => (∃ i, xs = [.int i] ∧ Q (.int i) H) ∨ ∃ k, xs = [.bl k] ∧ Q (.int (if k then 1 else 0)) H) (tCons (tOp (rIxL K) (tVar 0) (tC (.int 2))) tNil)) (tVar 1)) (gName 3))
            (tSeq (tAsg (tOp (rI CDivN fun i j => .int (i.fdiv j)) (tOp (rIxL K) (tVar 0) (tC (.int 2))) (tVar 1)) (gSub (tVar 0) (tC (.int 2)) rSetL)) (tRet (tVar 3)))) tNext)
          (tSeq (tAsg (tCB (fun xs H Q => (∃ i, xs = [.int i] ∧ Q (.int i) H) ∨ ∃ k, xs = [.bl k] ∧ Q (.int (if k then 1 else 0)) H) (tCons (tOp (rIxL K) (tVar 0) (tC (.int 3))) tNil)) (gName 4))
            (tSeq (tAsg (tOp (rI (fun _ j => j ≠ 0) fun i j => .int (i.fmod j)) (tCB (fun xs H Q => (∃ i, xs = [.int i] ∧ Q (.int i) H) ∨ ∃ k, xs = [.bl k] ∧ Q (.int (if k then 1 else 0)) H) (tCons (tOp (rI0 fun i j => .int (i + j)) (tOp (rI0 fun i j => .int (i + j)) (tOp (rI0 fun i j => .int (i + j)) (tOp (rI CPow fun i j => .int (i ^ j.toNat)) (tVar 4) (tC (.int 3))) (tOp (rI CMul fun i j => .int (i * j)) (tVar 4) (tC (.int 46687)))) (tOp (rI CMul fun i j => .int (i * j)) (tOp (rIxL K) (tVar 0) (tC (.int 4))) (tC (.int 110977)))) (tC (.int 60101))) tNil)) (tC (.int 2147483549))) (gSub (tVar 0) (tC (.int 3)) rSetL))
              (tRet (tOp (rI (fun _ j => j ≠ 0) fun i j => .int (i.fmod j)) (tCB (fun xs H Q => (∃ i, xs = [.int i] ∧ Q (.int i) H) ∨ ∃ k, xs = [.bl k] ∧ Q (.int (if k then 1 else 0)) H) (tCons (tOp (rI0 fun i j => .int (i + j)) (tOp (rI CDivN fun i j => .int (i.fdiv j)) (tOp (rIxL K) (tVar 0) (tC (.int 3))) (tC (.int 73))) (tOp (rI CMul fun i j => .int (i * j)) (tOp (rI (fun _ j => j ≠ 0) fun i j => .int (i.fmod j)) (tCB (fun xs H Q => (∃ i, xs = [.int i] ∧ Q (.int i) H) ∨ ∃ k, xs = [.bl k] ∧ Q (.int (if k then 1 else 0)) H) (tCons (tOp (rIxL K) (tVar 0) (tC (.int 3))) tNil)) (tC (.int 8011))) (tC (.int 61)))) tNil)) (tVar 1))))) { nx := fun x H' => Q V.non H', rt := Q } σ' H' := fun σ' H' pos rest mixed o hσ eH hB okB => by
      subst hσ
      have r0 := okB.r0
      have tne : top ≠ 0 := by omega
      refine q_when (b := decide (0 < rest)) (et_test (ev_op (ev_bag (i := 2) (ev_var rfl) hB rfl) ev_c rv_gt)) (fun hb' H3 e3 => ?_) (fun hb' H3 e3 => ?_)
      · have hB3 := e3 _ _ hB
        refine q_asg (ev_op (ev_int1 (ev_bag (i := 2) (ev_var rfl) hB3 rfl)) (ev_var rfl) (rv_mod tne)) fun H4 e4 => ?_
        have hB4 := e4 _ _ hB3
        refine q_setL (l := b) (j := 2) (xs := bagL l pos rest mixed (cnt + 1)) hB4 (ev_op (ev_bag (i := 2) (ev_var rfl) hB4 rfl) (ev_var rfl) (rv_div ⟨tne, by omega⟩)) (ev_var rfl) ev_c (bagL_lt (by decide)) fun H5 e5 => ?_
        obtain ⟨d, hd, hdt⟩ := fmod_nat (i := rest) (show 0 < top by omega)
        refine s_ret (ev_var rfl) fun H6 e6 => ?_
        rw [hd]
        have g5 : Ex (hid b H) (upd H5 b (.lst ((bagL l pos rest mixed (cnt + 1)).set 2 (.int (rest.fdiv top))))) := Ex.mut (((eH.trans e3).trans e4).trans e5) (hid_none b H)
        exact kk d H6 pos (rest.fdiv top) mixed (cnt + 1) hdt (g5.trans e6) (e6 _ _ upd_same) ⟨okB.len, okB.p0, okB.p1, Int.fdiv_nonneg r0 (by omega), okB.m0, okB.m1⟩
      · have hB3 := e3 _ _ hB
        have m0 := okB.m0
        have m1 := okB.m1
        refine q_asg (ev_int1 (ev_bag (i := 3) (ev_var rfl) hB3 rfl)) fun H4 e4 => ?_
        have hB4 := e4 _ _ hB3
        refine q_setL (l := b) (j := 3) (xs := bagL l pos rest mixed (cnt + 1)) hB4 (ev_op (ev_int1 (ev_op (ev_op (ev_op (ev_op (ev_var rfl) ev_c (rv_pow ⟨by decide, by decide, by omega⟩)) (ev_op (ev_var rfl) ev_c (rv_mulR (by decide))) rv_add) (ev_op (ev_bag (i := 4) (ev_var rfl) hB4 rfl) ev_c (rv_mulR (by decide))) rv_add) ev_c rv_add)) ev_c (rv_mod (by decide))) (ev_var rfl) ev_c (bagL_lt (by decide)) fun H5 e5 => ?_
        generalize hm : Int.fmod (mixed ^ (3 : Int).toNat + mixed * 46687 + (cnt + 1) * 110977 + 60101) 2147483549 = m2
        have hm0 : 0 ≤ m2 := by rw [← hm]; exact Int.fmod_nonneg_of_pos _ (by decide)
        have hm1 : m2 < 2147483648 := by rw [← hm]; exact Int.lt_of_lt_of_le (Int.fmod_lt_of_pos _ (by decide)) (by decide)
        have g5 : Ex (hid b H) (upd H5 b (.lst ((bagL l pos rest mixed (cnt + 1)).set 3 (.int m2)))) := Ex.mut (((eH.trans e3).trans e4).trans e5) (hid_none b H)
        generalize hH6 : upd H5 b (.lst ((bagL l pos rest mixed (cnt + 1)).set 3 (.int m2))) = H6 at g5
        have b6 : H6 b = some (.lst (bagL l pos rest m2 (cnt + 1))) := by
          rw [← hH6, upd_same]
          rfl
        have s6 : Ev (tOp (rI (fun _ j => j ≠ 0) fun i j => .int (i.fmod j)) (tCB (fun xs H Q => (∃ i, xs = [.int i] ∧ Q (.int i) H) ∨ ∃ k, xs = [.bl k] ∧ Q (.int (if k then 1 else 0)) H) (tCons (tOp (rI0 fun i j => .int (i + j)) (tOp (rI CDivN fun i j => .int (i.fdiv j)) (tOp (rIxL K) (tVar 0) (tC (.int 3))) (tC (.int 73))) (tOp (rI CMul fun i j => .int (i * j)) (tOp (rI (fun _ j => j ≠ 0) fun i j => .int (i.fmod j)) (tCB (fun xs H Q => (∃ i, xs = [.int i] ∧ Q (.int i) H) ∨ ∃ k, xs = [.bl k] ∧ Q (.int (if k then 1 else 0)) H) (tCons (tOp (rIxL K) (tVar 0) (tC (.int 3))) tNil)) (tC (.int 8011))) (tC (.int 61)))) tNil)) (tVar 1))
            [some (.ref b), some (.int top), o, none, some (.int mixed)] H6 (.int (Int.fmod (m2.fdiv 73 + m2.fmod 8011 * 61) top)) :=
          ev_op (ev_int1 (ev_op (ev_op (ev_bag (i := 3) (ev_var rfl) b6 rfl) ev_c (rv_div (by decide))) (ev_op (ev_op (ev_int1 (ev_bag (i := 3) (ev_var rfl) b6 rfl)) ev_c (rv_mod (by decide))) ev_c (rv_mulR (by decide))) rv_add)) (ev_var rfl) (rv_mod tne)
        obtain ⟨d, hd, hdt⟩ := fmod_nat (i := m2.fdiv 73 + m2.fmod 8011 * 61) (show 0 < top by omega)
        rw [hd] at s6
        exact s_ret s6 fun H7 e7 => kk d H7 pos rest m2 (cnt + 1) hdt (g5.trans e7) (e7 _ _ b6) ⟨okB.len, okB.p0, okB.p1, r0, hm0, hm1⟩
    refine q_when (b := decide (rest = 0) && decide (pos < (ns.length : Int))) (et_and (et_test (ev_op (ev_bag (i := 2) (ev_var rfl) b2 rfl) ev_c rv_eqI)) fun _ => et_is (et_test (ev_op (ev_bag (i := 1) (ev_var rfl) b2 rfl) (ev_lenL (ev_bag (i := 0) (ev_var rfl) b2 rfl) (sq_of (lW H2 e1'))) rv_lt)) (by rw [List.length_map])) (fun hb' H3 e3 => ?_) (fun hb' H3 e3 => ?_)
    · rw [Bool.and_eq_true] at hb'
      have hr0 := of_decide_eq_true hb'.1
      have hp1 := of_decide_eq_true hb'.2
      have p0 := ok.p0
      have b3 := e3 _ _ b2
      have e03 := e1'.trans e3
      obtain ⟨i, hi⟩ : ∃ i : Nat, pos = (i : Int) := ⟨pos.toNat, by omega⟩
      subst hi
      refine q_asg (ev_int1 (ev_op (ev_bag (i := 0) (ev_var rfl) b3 rfl) (ev_bag (i := 1) (ev_var rfl) b3 rfl) (rv_ixLn (i := i) (v := .int (ns.getD i 0)) (sq_of (lW H3 e03)) (by rw [List.getElem?_map, getD_some (d := 0) (by omega)] <;> rfl)))) fun H4 e4 => ?_
      have b4 := e4 _ _ b3
      generalize ns.getD i 0 = cell
      refine q_setL (l := b) (j := 1) (xs := bagL l (i : Int) rest mixed (cnt + 1)) b4 (ev_op (ev_bag (i := 1) (ev_var rfl) b4 rfl) ev_c rv_add) (ev_var rfl) ev_c (bagL_lt (by decide)) fun H5 e5 => ?_
      have g5 : Ex (hid b H) (upd H5 b (.lst ((bagL l (i : Int) rest mixed (cnt + 1)).set 1 (.int ((i : Int) + 1))))) := Ex.mut ((e03.trans e4).trans e5) (hid_none b H)
      generalize hH6 : upd H5 b (.lst ((bagL l (i : Int) rest mixed (cnt + 1)).set 1 (.int ((i : Int) + 1)))) = H6 at g5
      have b6 : H6 b = some (.lst (bagL l ((i : Int) + 1) rest mixed (cnt + 1))) := by
        rw [← hH6, upd_same]
        rfl
      clear hH6
      refine s_if (b := decide ((10 : Int) ^ (18 : Int).toNat ≤ (if cell < 0 then -cell else cell))) (et_test (ev_op (ev_abs (ev_var rfl)) (ev_op ev_c ev_c (rv_pow (by decide))) rv_ge)) (fun _ H7 e7 => ?_) (fun _ H7 e7 => ?_)
      · have b7 := e7 _ _ b6
        refine s_setL (l := b) (j := 2) (xs := bagL l ((i : Int) + 1) rest mixed (cnt + 1)) b7 (ev_abs (ev_var rfl)) (ev_var rfl) ev_c (bagL_lt (by decide)) fun H8 e8 => ?_
        exact rest_ _ _ ((i : Int) + 1) (if cell < 0 then -cell else cell) mixed _ rfl (Ex.mut ((g5.trans e7).trans e8) (hid_none b H)) (by rw [upd_same] <;> rfl) ⟨ok.len, by omega, by omega, by split <;> omega, ok.m0, ok.m1⟩
      · have b7 := e7 _ _ b6
        refine s_setL (l := b) (j := 3) (xs := bagL l ((i : Int) + 1) rest mixed (cnt + 1)) b7 (ev_op (ev_int1 (ev_op (ev_op (ev_op (ev_bag (i := 3) (ev_var rfl) b7 rfl) ev_c (rv_mulR (by decide))) (ev_op (ev_op (ev_int1 (ev_var rfl)) ev_c (rv_mod (by decide))) ev_c (rv_mulR (by decide))) rv_add) ev_c rv_add)) ev_c (rv_mod (by decide))) (ev_var rfl) ev_c (bagL_lt (by decide)) fun H8 e8 => ?_
        exact rest_ _ _ ((i : Int) + 1) rest _ _ rfl (Ex.mut ((g5.trans e7).trans e8) (hid_none b H)) (by rw [upd_same] <;> rfl) ⟨ok.len, by omega, by omega, ok.r0, Int.fmod_nonneg_of_pos _ (by decide), Int.lt_of_lt_of_le (Int.fmod_lt_of_pos _ (by decide)) (by decide)⟩
    · exact rest_ _ _ pos rest mixed none rfl (e1'.trans e3) (e3 _ _ b2) ok
/-! ### a draw within an expression -/
theorem c_draw {σ : L2.St} {W H : Hp} {ta tb : TE} {b l0 : Addr} {top : Int} {E : XK} {Q : VK} (ha : Ev ta σ H (.ref b)) (hb : Ev tb σ H (.int top)) (hW : Ex W H) (wb : W b = none) (B : BagAt H b l0) (t1 : 1 ≤ top) (t2 : top < 1073741824)
    (k : ∀ (d : Nat) H2, (d : Int) < top → Ex W H2 → BagAt H2 b l0 → Q (.int (d : Int)) H2) : tCall spDraw [] E (tCons ta (tCons tb tNil)) σ H Q :=
  ha H (Ex.refl H) _ fun H1 e1 => hb H1 e1 _ fun H2 e2 => ⟨b, l0, top, rfl, B.ex (e1.trans e2), t1, t2, fun d H3 hd e3 B3 => k d H3 hd ((to_hid (hW.trans (e1.trans e2)) wb).trans e3) B3⟩
abbrev n_wof : List Str := ["_law_bag_here", "_law_some"]
theorem sc_wof : FnScope n_wof ["_law_bag_here", "_law_some"] (defScope s_wof) := ⟨rfl, rfl, rfl, by decide +kernel, rfl, by decide +kernel, by decide +kernel⟩
def SrcOf (W : Hp) (sv : V) (items : List V) : Prop := (∃ p, sv = .ref p ∧ W p = some (.lst items)) ∨ ∃ l : List Nat, sv = vS l ∧ items = l.map fun c => vS [c]
def spOf : Sp := fun vs H Q _ => ∃ (b l0 : Addr) (sv : V) (items : List V), vs = [.ref b, sv] ∧ BagAt H b l0 ∧ SrcOf (hid b H) sv items ∧ 1 ≤ items.length ∧ items.length ≤ 1000 ∧ ∀ v H2, v ∈ items → Ex (hid b H) H2 → BagAt H2 b l0 → Q v H2
theorem ok_wof (T : Tx K mg A) : FnOk P w K mg base CX0 4 (A.f "_law_of") (A.fd "_law_of") ["_law_bag_here", "_law_some"] spOf := by
  refine T.F_wof.ok sc_wof (fun vs H Q E h => ?_) (fun cdv A' outer s H vs Q E hr h => ?_)
  · obtain ⟨b, l0, sv, items, rfl, _⟩ := h
    rfl
  · obtain ⟨b, l0, sv, items, rfl, B, hS, i1, i2, k⟩ := h
    refine ⟨_, PSs.nox (pss_one (ps_ret (pe_ix ix_seq (pv 1) (pe_call (ok_wdraw T) (hr.mono (by decide)) (by rfl) T.g_wdraw T.F_wdraw.kp T.b_wdraw .nil pass0 (pa_cons (pv 0) (pa_cons (pe_callB call_len (by rfl) T.n_len PySem.boot_len (pa_cons (pv 1) pa_nil)) pa_nil))) (fun _ _ => rfl)))) , ?_⟩
    have hlen : Ev (tCB (fun xs H Q => ∃ x n, xs = [x] ∧ LenV K x H n ∧ Q (.int n) H) (tCons (tVar 1) tNil)) (L2.start n_wof [.ref b, sv]) H (.int (items.length : Int)) := fun H1 e Q q => by
      refine ⟨sv, rfl, sv, _, rfl, ?_, q H1 (Ex.refl H1)⟩
      rcases hS with ⟨p, rfl, hp⟩ | ⟨l, rfl, rfl⟩
      · exact Or.inl ⟨items, sq_of (e _ _ (hid_ex b H _ _ hp)), rfl⟩
      · refine ⟨by rw [S_len]; rw [List.length_map] at i2; exact sz_of (by omega), ?_⟩
        rw [List.length_map, S_len]
    show tOp (rIx K) (tVar 1) (tCall spDraw [] E0 (tCons (tVar 0) (tCons _ tNil))) (L2.start n_wof [.ref b, sv]) H Q
    refine ⟨sv, rfl, ?_⟩
    refine c_draw (W := hid b H) (ev_var rfl) hlen (hid_ex b H) (hid_none b H) B (by omega) (by omega) fun d H2 hd e2 B2 => ?_
    have hget : items[d]? = some (items.getD d .non) := getD_some (by omega)
    have hm : items.getD d .non ∈ items := List.mem_of_getElem? hget
    rcases hS with ⟨p, rfl, hp⟩ | ⟨l, rfl, rfl⟩
    · exact Or.inl ⟨p, items, _, _, rfl, rfl, sq_of (e2 _ _ hp), atI_n hget, k _ H2 hm e2 B2⟩
    · rw [List.length_map] at hd i2
      have hg : l[d]? = some (l.getD d 0) := getD_some (by omega)
      have e3 : (l.map fun c => vS [c]).getD d .non = vS [l.getD d 0] := by
        rw [List.getD_eq_getElem?_getD, List.getElem?_map, hg]
        rfl
      rw [e3] at hm
      exact Or.inr (Or.inr ⟨S l, _, _, rfl, rfl, by rw [S_len]; exact sz_of (by omega), atI_n hg, k _ H2 hm e2 B2⟩)
end
end Nt
end
section
set_option Elab.async false
set_option linter.all false
set_option maxRecDepth 100000
set_option maxHeartbeats 4000000
namespace Nt
open PySem PySem.Spec PyProof.Rows L2 Evl SX
/-! ### readings whose value is told by a word -/
section
variable {K : PySem.W.Frag} {σ : L2.St} {W H H' : Hp} {ta tb tc te tl td ty : TE} {t u : TT} {x y z v w' : V} {D : Ends} {tu tw tz : TS} {g : TG} {wi : TI}
/-- te gives a value of which P -/
def EvP (te : TE) (σ : L2.St) (H : Hp) (P : V → Hp → Prop) : Prop := ∀ Q : VK, (∀ v H1, P v H1 → Q v H1) → te σ H Q
def EvTP (t : TT) (σ : L2.St) (H : Hp) (P : Bool → Hp → Prop) : Prop := ∀ Q : Bool → Hp → Prop, (∀ b H1, P b H1 → Q b H1) → t σ H Q
theorem q_asgP {i : Nat} {P : V → Hp → Prop} (h : EvP te σ H P) (k : ∀ v H1, P v H1 → tz D (σ.set i (some v)) H1) : tSeq (tAsg te (gName i)) tz D σ H := h _ k
theorem s_asgP {i : Nat} {P : V → Hp → Prop} (h : EvP te σ H P) (k : ∀ v H1, P v H1 → D.nx (σ.set i (some v)) H1) : tAsg te (gName i) D σ H := h _ k
theorem s_retP {P : V → Hp → Prop} (h : EvP te σ H P) (k : ∀ v H1, P v H1 → D.rt v H1) : tRet te D σ H := h _ k
theorem q_ifP {P : Bool → Hp → Prop} (h : EvTP t σ H P) (h1 : ∀ H1, P true H1 → tu { D with nx := tz D } σ H1) (h2 : ∀ H1, P false H1 → tw { D with nx := tz D } σ H1) : tSeq (tIfS t tu tw) tz D σ H := h _ fun b H1 p => by
  cases b with
  | true => exact h1 H1 p
  | false => exact h2 H1 p
theorem s_ifP {P : Bool → Hp → Prop} (h : EvTP t σ H P) (h1 : ∀ H1, P true H1 → tu D σ H1) (h2 : ∀ H1, P false H1 → tw D σ H1) : tIfS t tu tw D σ H := h _ fun b H1 p => by
  cases b with
  | true => exact h1 H1 p
  | false => exact h2 H1 p
theorem q_dropP {P : V → Hp → Prop} (h : EvP te σ H P) (k : ∀ v H1, P v H1 → tz D σ H1) : tSeq (tDrop te) tz D σ H := h _ k
theorem EvP.of {P : V → Hp → Prop} (h : Ev te σ H v) (k : ∀ H1, Ex H H1 → P v H1) : EvP te σ H P := fun Q q => h H (Ex.refl H) Q fun H1 e => q v H1 (k H1 e)
theorem EvP.imp {P P' : V → Hp → Prop} (h : EvP te σ H P) (k : ∀ v H1, P v H1 → P' v H1) : EvP te σ H P' := fun Q q => h Q fun v H1 p => q v H1 (k v H1 p)
theorem q_par3P {ta : TA} {i j l : Nat} {P : V → V → V → Hp → Prop} (h : ∀ Q : List V → Hp → Prop, (∀ x y z H1, P x y z H1 → Q [x, y, z] H1) → ta σ H Q) (k : ∀ x y z H1, P x y z H1 → tz D (((σ.set i (some x)).set j (some y)).set l (some z)) H1) : tSeq (tPar3 i j l ta) tz D σ H :=
  h _ fun x y z H1 p => ⟨x, y, z, rfl, k x y z H1 p⟩
theorem q_parP {ta : TA} {i j : Nat} {P : V → V → Hp → Prop} (h : ∀ Q : List V → Hp → Prop, (∀ x y H1, P x y H1 → Q [x, y] H1) → ta σ H Q) (k : ∀ x y H1, P x y H1 → tz D ((σ.set i (some x)).set j (some y)) H1) : tSeq (tPar i j ta) tz D σ H :=
  h _ fun x y H1 p => ⟨x, y, rfl, k x y H1 p⟩
/-- a, b = e1, [..] (the pair is made and taken apart) -/
theorem q_tup2P {i j : Nat} {P : V → Hp → Prop} {xs : Hp → V → List V} (h1 : EvP ta σ H P) (h2 : ∀ v H1, P v H1 → EvL tb σ H1 (xs H1 v)) (k : ∀ v H1 p H2, P v H1 → H1 p = none → Ex H1 H2 → H2 p = some (.lst (xs H1 v)) → tz D ((σ.set i (some v)).set j (some (.ref p))) H2) :
    tSeq (tAsg (tTup (tCons ta (tCons tb tNil))) (gTup K 2 (gCons (gName i) (gCons (gName j) gNil)))) tz D σ H :=
  h1 _ fun v H1 hp => h2 v H1 hp H1 (Ex.refl H1) _ fun p H2 np e2 hl => ⟨by show 2 ≤ sizeLine; decide, fun T hT => ⟨T, [v, .ref p], rfl, st_of upd_same, rfl, v, _, rfl, .ref p, _, rfl, rfl, k v H1 p _ hp np (e2.trans (Ex.new hT)) (Ex.new hT _ _ hl)⟩⟩
/-- xs.append(e) -/
theorem s_appP {l : Addr} {xs : List V} {P : V → Hp → Prop} (hl : H l = some (.lst xs)) (ha : Ev ta σ H (.ref l)) (h : ∀ H1, Ex H H1 → EvP te σ H1 P) (hP : ∀ v H2, P v H2 → H2 l = some (.lst xs)) (hz : xs.length < 100000) (k : ∀ v H2, P v H2 → D.nx σ (upd H2 l (.lst (xs ++ [v])))) :
    tDrop (tBM K "list" rAppend ta (tCons te tNil)) D σ H := ha H (Ex.refl H) _ fun H1 e1 => ⟨Or.inl ⟨rfl, xs, sq_of (e1 l _ hl)⟩, h H1 e1 _ fun v H2 p => ⟨l, xs, v, rfl, rfl, hP v H2 p, sz_lt hz, k v H2 p⟩⟩
end
/-- behind a draw -/
def DrawP (W : Hp) (b l0 : Addr) (top : Int) : V → Hp → Prop := fun v H1 => (∃ d : Nat, v = .int (d : Int) ∧ (d : Int) < top) ∧ Ex W H1 ∧ BagAt H1 b l0
def OfP (W : Hp) (b l0 : Addr) (items : List V) : V → Hp → Prop := fun v H1 => v ∈ items ∧ Ex W H1 ∧ BagAt H1 b l0
section
variable {K : PySem.W.Frag} {σ : L2.St} {W H : Hp} {ta tb tl : TE} {b l0 : Addr} {top : Int} {E : XK}
theorem p_draw (ha : Ev ta σ H (.ref b)) (hb : Ev tb σ H (.int top)) (hW : Ex W H) (wb : W b = none) (B : BagAt H b l0) (t1 : 1 ≤ top) (t2 : top < 1073741824) : EvP (tCall spDraw [] E (tCons ta (tCons tb tNil))) σ H (DrawP W b l0 top) :=
  fun Q q => c_draw ha hb hW wb B t1 t2 fun d H2 hd e2 B2 => q _ H2 ⟨⟨d, rfl, hd⟩, e2, B2⟩
/-- of a list made on the way -/
theorem p_of {items : List V} (ha : Ev ta σ H (.ref b)) (hl : EvL tl σ H items) (hW : Ex W H) (wb : W b = none) (B : BagAt H b l0) (i1 : 1 ≤ items.length) (i2 : items.length ≤ 1000) : EvP (tCall spOf [] E (tCons ta (tCons tl tNil))) σ H (OfP W b l0 items) := fun Q q =>
  ha H (Ex.refl H) _ fun H1 e1 => hl H1 e1 _ fun p H2 np e2 hp => by
    have B2 := B.ex (e1.trans e2)
    have hpb : p ≠ b := by
      obtain ⟨_, _, _, _, _, h1, _⟩ := B.ex e1
      exact (ne_of_none h1 np).symm
    exact ⟨b, l0, .ref p, items, rfl, B2, Or.inl ⟨p, rfl, hid_at hp hpb⟩, i1, i2, fun v H3 hv e3 B3 => q v H3 ⟨hv, (to_hid (hW.trans (e1.trans e2)) wb).trans e3, B3⟩⟩
/-- of a list that stands -/
theorem p_ofE {items : List V} {p : Addr} (ha : Ev ta σ H (.ref b)) (hl : Ev tl σ H (.ref p)) (hp : W p = some (.lst items)) (hW : Ex W H) (wb : W b = none) (B : BagAt H b l0) (i1 : 1 ≤ items.length) (i2 : items.length ≤ 1000) : EvP (tCall spOf [] E (tCons ta (tCons tl tNil))) σ H (OfP W b l0 items) := fun Q q =>
  ha H (Ex.refl H) _ fun H1 e1 => hl H1 e1 _ fun H2 e2 => ⟨b, l0, .ref p, items, rfl, B.ex (e1.trans e2), Or.inl ⟨p, rfl, to_hid (hW.trans (e1.trans e2)) wb _ _ hp⟩, i1, i2, fun v H3 hv e3 B3 => q v H3 ⟨hv, (to_hid (hW.trans (e1.trans e2)) wb).trans e3, B3⟩⟩
/-- a sign of a text -/
theorem p_ofS {l : List Nat} (ha : Ev ta σ H (.ref b)) (hl : Ev tl σ H (vS l)) (hW : Ex W H) (wb : W b = none) (B : BagAt H b l0) (i1 : 1 ≤ l.length) (i2 : l.length ≤ 1000) : EvP (tCall spOf [] E (tCons ta (tCons tl tNil))) σ H (OfP W b l0 (l.map fun c => vS [c])) := fun Q q =>
  ha H (Ex.refl H) _ fun H1 e1 => hl H1 e1 _ fun H2 e2 => ⟨b, l0, vS l, _, rfl, B.ex (e1.trans e2), Or.inr ⟨l, rfl, rfl⟩, by rw [List.length_map]; exact i1, by rw [List.length_map]; exact i2, fun v H3 hv e3 B3 => q v H3 ⟨hv, (to_hid (hW.trans (e1.trans e2)) wb).trans e3, B3⟩⟩
end
/-! ### names -/
def nameB (l : List Nat) : Bool := decide (1 ≤ l.length) && decide (l.length ≤ 6) && l.all fun c => decide (97 ≤ c) && decide (c ≤ 122)
theorem nameOk_of {l : List Nat} (h : nameB l = true) : nameOk l := by
  unfold nameB at h
  rw [Bool.and_eq_true, Bool.and_eq_true] at h
  refine ⟨of_decide_eq_true h.1.1, of_decide_eq_true h.1.2, fun c hc => ?_⟩
  have := List.all_eq_true.mp h.2 c hc
  rw [Bool.and_eq_true] at this
  exact ⟨of_decide_eq_true this.1, of_decide_eq_true this.2⟩
def wordsL : List (List Nat) := [[115, 101, 108, 102], [98], [97], [114, 111, 119], [101, 110, 100], [97, 108, 108], [98, 97, 110, 100], [105, 110], [122], [110, 111, 117, 103, 104, 116], [122, 122], [108, 111, 116], [110, 111, 110, 101]]
def abc : List Nat := (List.range 26).map (· + 97)
def tbl6 : List Int := [26, 676, 17576, 456976, 11881376, 308915776]
theorem tbl6_ok : ∀ i, i < 6 → 1 ≤ tbl6.getD i 0 ∧ tbl6.getD i 0 < 1073741824 := by decide
section
variable {P : Program} {w : World} {K : PySem.W.Frag} {mg : Str → Option Value} {base : Heap} {A : Ad}
abbrev n_wword : List Str := ["_law_bag_here", "_law_size", "_law_number", "_law_found", "_law_k"]
theorem sc_wword : FnScope n_wword ["_law_bag_here"] (defScope s_wword) := ⟨rfl, rfl, rfl, by decide +kernel, rfl, by decide +kernel, by decide +kernel⟩
def spWord : Sp := fun vs H Q _ => ∃ b l0 : Addr, vs = [.ref b] ∧ BagAt H b l0 ∧ ∀ (a : List Nat) H2, nameOk a → Ex (hid b H) H2 → BagAt H2 b l0 → Q (vS a) H2
theorem ok_wword (T : Tx K mg A) : FnOk P w K mg base CX0 6 (A.f "_law_word") (A.fd "_law_word") ["_law_bag_here"] spWord := by
  refine T.F_wword.ok sc_wword (fun vs H Q E h => ?_) (fun cdv A' outer s H vs Q E hr h => ?_)
  · obtain ⟨b, l0, rfl, _⟩ := h
    rfl
  · obtain ⟨b, l0, rfl, B, k⟩ := h
    refine ⟨_, PSs.nox (pss_cons (ps_if (pt_cmpR op_eq (pe_call (ok_wdraw T) (hr.mono (by decide)) (by rfl) T.g_wdraw T.F_wdraw.kp T.b_wdraw .nil pass0 (pa_cons (pv 0) (pa_cons pe_int pa_nil))) pe_int (nomark _))
      (pss_one (ps_ret (pe_call (ok_wof T) (hr.mono (by decide)) (by rfl) T.g_wof T.F_wof.kp T.b_wof .nil pass0 (pa_cons (pv 0) (pa_cons (pe_lst (pa_cons pe_str (pa_cons pe_str (pa_cons pe_str (pa_cons pe_str (pa_cons pe_str (pa_cons pe_str (pa_cons pe_str (pa_cons pe_str (pa_cons pe_str (pa_cons pe_str (pa_cons pe_str (pa_cons pe_str (pa_cons pe_str pa_nil)))))))))))))) pa_nil)))))
      pss_nil)
      (pss_cons (ps_set (i := 1) sc_wword.nd rfl (Or.inl rfl) (pe_call (ok_wdraw T) (hr.mono (by decide)) (by rfl) T.g_wdraw T.F_wdraw.kp T.b_wdraw .nil pass0 (pa_cons (pv 0) (pa_cons pe_int pa_nil))))
      (pss_cons (ps_set (i := 2) sc_wword.nd rfl (Or.inl rfl) (pe_call (ok_wdraw T) (hr.mono (by decide)) (by rfl) T.g_wdraw T.F_wdraw.kp T.b_wdraw .nil pass0 (pa_cons (pv 0) (pa_cons (pe_ix ix_list (pe_lst (pa_cons pe_int (pa_cons pe_int (pa_cons pe_int (pa_cons pe_int (pa_cons pe_int (pa_cons pe_int pa_nil))))))) (pv 1) (fun _ _ => rfl)) pa_nil))))
      (pss_cons (ps_set (i := 3) sc_wword.nd rfl (Or.inl rfl) pe_str)
      (pss_cons (ps_for PassesOwn.never rfl (pi_range1 (by rfl) T.n_range (pa_cons (pe_op op_add (pv 1) pe_int) pa_nil)) (pg_name (i := 4) sc_wword.nd rfl (Or.inl rfl) (Or.inr rfl))
      (pss_cons (ps_set (i := 3) sc_wword.nd rfl (Or.inl rfl) (pe_op op_add_str (pv 3) (pe_ix ix_str pe_str (pe_op op_modN (pe_callTy call_int1 (by rfl) T.n_int (by decide +kernel) (pa_cons (pv 2) pa_nil)) pe_int) (fun _ _ => rfl))))
      (pss_one (ps_set (i := 2) sc_wword.nd rfl (Or.inl rfl) (pe_op op_fdivN (pv 2) pe_int)))))
      (pss_one (ps_ret (pv 3)))))))) , ?_⟩
    have hb0 := hid_none b H
    refine q_ifP (P := fun _ H1 => Ex (hid b H) H1 ∧ BagAt H1 b l0) (fun Q q => p_draw (W := hid b H) (ev_var rfl) ev_c (hid_ex b H) hb0 B (by decide) (by decide) _ fun v H1 hp => ?_) (fun H1 hp => ?_) (fun H1 hp => ?_)
    · obtain ⟨⟨d, rfl, _⟩, e1, B1⟩ := hp
      exact ⟨rfl, _, rfl, q _ H1 ⟨e1, B1⟩⟩
    · obtain ⟨e1, B1⟩ := hp
      refine s_retP (p_of (W := hid b H) (items := wordsL.map vS) (ev_var rfl) (eA (el_lst (ea_cons ev_c (ea_cons ev_c (ea_cons ev_c (ea_cons ev_c (ea_cons ev_c (ea_cons ev_c (ea_cons ev_c (ea_cons ev_c (ea_cons ev_c (ea_cons ev_c (ea_cons ev_c (ea_cons ev_c (ea_cons ev_c ea_nil))))))))))))) (by simp)) (by decide +kernel)) e1 hb0 B1 (by decide) (by decide)) fun v H2 hv => ?_
      obtain ⟨hm, e2, B2⟩ := hv
      obtain ⟨a, ha, rfl⟩ := List.mem_map.mp hm
      have hall : wordsL.all nameB = true := by decide
      exact k a H2 (nameOk_of (List.all_eq_true.mp hall a ha)) e2 B2
    · obtain ⟨e1, B1⟩ := hp
      show tSeq _ _ _ _ _
      refine q_asgP (p_draw (W := hid b H) (ev_var rfl) ev_c e1 hb0 B1 (by decide) (by decide)) fun v H2 hv => ?_
      obtain ⟨⟨sz, rfl, hsz⟩, e2, B2⟩ := hv
      have hsz6 : sz < 6 := by omega
      obtain ⟨t1, t2⟩ := tbl6_ok sz hsz6
      refine q_asgP (p_draw (W := hid b H) (top := tbl6.getD sz 0) (ev_var rfl) (ev_opL1 (xs := tbl6.map V.int) (eA (el_lst (ea_cons ev_c (ea_cons ev_c (ea_cons ev_c (ea_cons ev_c (ea_cons ev_c (ea_cons ev_c ea_nil)))))) (by simp)) rfl) (fun H1 e => ev_var rfl) (fun p H1 hp e => rv_ixLn (i := sz) (sq_of hp) (by
        rw [List.getElem?_map, getD_some (d := 0) (show sz < tbl6.length from hsz6)] <;> rfl))) e2 hb0 B2 t1 t2) fun v H3 hv => ?_
      obtain ⟨⟨num, rfl, _⟩, e3, B3⟩ := hv
      refine q_asg (ev_lit (l := []) rfl) fun H4 e4 => ?_
      refine q_forF (W := H4) (n := sz + 1) (ei_rng1 (ea1 (ev_op (ev_var rfl) ev_c rv_add)) (by omega) (by omega)) (Ex.refl H4)
        (fun W1 i σ' H' => Ex W1 H' ∧ ∃ (m : Int) (fd : List Nat) (o : Option V), σ' = [some (.ref b), some (.int (sz : Int)), some (.int m), some (vS fd), o] ∧ fd.length = i ∧ ∀ c ∈ fd, 97 ≤ c ∧ c ≤ 122)
        (fun W1 H5 e5 eW ew hW => ⟨ew, _, [], none, rfl, rfl, fun c hc => absurd hc (List.not_mem_nil)⟩) (fun W1 i σ' H' h => h.1) (fun W1 i σ' H' eW hi h H5 e5 => ?_) (fun W1 σ' H' eW h => ?_)
      · obtain ⟨g1, m, fd, o, rfl, hl, hc⟩ := h
        obtain ⟨d, hd, hdl⟩ := fmod_nat (i := m) (show (0 : Int) < 26 by decide)
        have hget : abc[d]? = some (d + 97) := by
          unfold abc
          rw [List.getElem?_map, List.getElem?_range (by omega)] <;> rfl
        refine q_asg (ev_op (ev_var rfl) (ev_op (ev_lit (l := abc) rfl) (ev_op (ev_int1 (ev_var rfl)) ev_c (rv_mod (by decide))) (by rw [hd]; exact rv_ixSn (by decide) hget)) (rv_catS (by show fd.length + 1 ≤ _; omega))) fun H6 e6 => ?_
        refine s_asg (ev_op (ev_var rfl) ev_c (rv_div (by decide))) fun H7 e7 => ⟨(g1.trans e5).trans (e6.trans e7), _, fd ++ [d + 97], _, rfl, by rw [List.length_append, hl] <;> rfl, fun c hm => ?_⟩
        rcases List.mem_append.mp hm with hm | hm
        · exact hc c hm
        · rw [List.mem_singleton.mp hm]
          omega
      · obtain ⟨g1, m, fd, o, rfl, hl, hc⟩ := h
        refine s_ret (ev_var rfl) fun H6 e6 => ?_
        have e46 := e4.trans ((eW.trans g1).trans e6)
        exact k fd H6 ⟨by omega, by omega, hc⟩ (e3.trans e46) (B3.ex e46)
end
end Nt
end
section
set_option Elab.async false
set_option linter.all false
set_option maxRecDepth 100000
set_option maxHeartbeats 4000000
namespace Nt
open PySem PySem.Spec PyProof.Rows L2 Evl SX
def l13 : List Nat := [109, 122, 97, 107, 121, 98, 116, 100, 119, 111, 120, 103, 99]
theorem nodup_sub_len : ∀ (l : List (List Nat)) (m : List (List Nat)), l.Nodup → (∀ x ∈ l, x ∈ m) → l.length ≤ m.length
  | [], m, _, _ => Nat.zero_le _
  | x :: l, m, hn, hs => by
    have hx := hs x (List.mem_cons_self ..)
    have hn' := List.nodup_cons.mp hn
    have ih := nodup_sub_len l (m.erase x) hn'.2 fun y hy => by
      have hyx : y ≠ x := fun e => hn'.1 (e ▸ hy)
      exact (List.mem_erase_of_ne hyx).mpr (hs y (List.mem_cons_of_mem _ hy))
    rw [List.length_erase_of_mem hx] at ih
    have := List.length_pos_of_mem hx
    rw [List.length_cons]
    omega
theorem fresh13 {names : List (List Nat)} (h : names.length < 13) : (l13.filter fun c => !decide ([c, 113] ∈ names)) ≠ [] := fun hnil => by
  have hall : ∀ c ∈ l13, [c, 113] ∈ names := fun c hc => by
    have := List.filter_eq_nil_iff.mp hnil c hc
    simpa using this
  have := nodup_sub_len (l13.map fun c => [c, 113]) names (by decide) fun x hx => by
    obtain ⟨c, hc, rfl⟩ := List.mem_map.mp hx
    exact hall c hc
  rw [List.length_map] at this
  have e : l13.length = 13 := rfl
  omega
def vals8 : List Int := [2, 1, 3, 2, 4, 2, 3, 1]
/-- cells told one by one -/
def CellsIn (H : Hp) (acc : List Addr) (cs : Cells) : Prop := acc.length = cs.length ∧ ∀ j, j < cs.length → H (acc.getD j 0) = some (.tup [vS (cellD cs j).1, .int ((cellD cs j).2 : Int)])
theorem CellsIn.ex {H H' : Hp} {acc : List Addr} {cs : Cells} (h : CellsIn H acc cs) (e : Ex H H') : CellsIn H' acc cs := ⟨h.1, fun j hj => e _ _ (h.2 j hj)⟩
structure CellsPre (cs : Cells) : Prop where
  val : ∀ i, i < cs.length → 1 ≤ (cellD cs i).2 ∧ (cellD cs i).2 ≤ 4
  nam : ∀ i, i < cs.length → nameOk (cellD cs i).1
  nod : ∀ i j, i < cs.length → j < i → (cellD cs j).1 ≠ (cellD cs i).1
theorem cellD_l {cs : Cells} {c : List Nat × Nat} {j : Nat} (h : j < cs.length) : cellD (cs ++ [c]) j = cellD cs j := by
  unfold cellD
  rw [List.getD_eq_getElem?_getD, List.getElem?_append_left h, ← List.getD_eq_getElem?_getD]
theorem cellD_r {cs : Cells} {c : List Nat × Nat} : cellD (cs ++ [c]) cs.length = c := by
  unfold cellD
  rw [List.getD_eq_getElem?_getD, List.getElem?_append_right (Nat.le_refl _)]
  simp
theorem CellsPre.snoc {cs : Cells} {c : List Nat × Nat} (h : CellsPre cs) (h1 : 1 ≤ c.2 ∧ c.2 ≤ 4) (h2 : nameOk c.1) (h3 : c.1 ∉ cs.map (·.1)) : CellsPre (cs ++ [c]) := by
  have hlen : (cs ++ [c]).length = cs.length + 1 := by rw [List.length_append, List.length_singleton]
  refine ⟨fun i hi => ?_, fun i hi => ?_, fun i j hi hj => ?_⟩
  · by_cases hc : i < cs.length
    · rw [cellD_l hc]
      exact h.val i hc
    · have : i = cs.length := by omega
      subst this
      rw [cellD_r]
      exact h1
  · by_cases hc : i < cs.length
    · rw [cellD_l hc]
      exact h.nam i hc
    · have : i = cs.length := by omega
      subst this
      rw [cellD_r]
      exact h2
  · by_cases hc : i < cs.length
    · rw [cellD_l hc, cellD_l (by omega)]
      exact h.nod i j hc hj
    · have : i = cs.length := by omega
      subst this
      rw [cellD_r, cellD_l hj]
      intro e
      refine h3 (List.mem_map.mpr ⟨cellD cs j, ?_, e⟩)
      unfold cellD
      rw [List.getD_eq_getElem?_getD, List.getElem?_eq_getElem hj]
      exact List.getElem_mem hj
theorem acc_map {acc : List Addr} {cs : Cells} (h : acc.length = cs.length) : acc.map V.ref = (List.range cs.length).map fun i => V.ref (acc.getD i 0) := by
  rw [← h, range_map (fun a => V.ref a) acc 0]
section
variable {P : Program} {w : World} {K : PySem.W.Frag} {mg : Str → Option Value} {base : Heap} {A : Ad}
abbrev n_wframe : List Str := ["_law_bag_here", "_law_count", "_law_found", "_law_k", "_law_word_here", "_law_taken", "_law_pair", "_law_c"]
theorem sc_wframe : FnScope n_wframe ["_law_bag_here", "_law_count"] (defScope s_wframe) := ⟨rfl, rfl, rfl, by decide +kernel, rfl, by decide +kernel, by decide +kernel⟩
def spFrame : Sp := fun vs H Q _ => ∃ (b l0 : Addr) (n : Nat), vs = [.ref b, .int (n : Int)] ∧ 1 ≤ n ∧ n ≤ 12 ∧ BagAt H b l0 ∧ ∀ p H2 cs, H p = none → Ex (hid b H) H2 → BagAt H2 b l0 → CellsAt H2 p cs → CellsOk cs → cs.length = n → Q (.ref p) H2
theorem ok_wframe (T : Tx K mg A) : FnOk P w K mg base CX0 8 (A.f "_law_frame") (A.fd "_law_frame") ["_law_bag_here", "_law_count"] spFrame := by
  refine T.F_wframe.ok sc_wframe (fun vs H Q E h => ?_) (fun cdv A' outer s H vs Q E hr h => ?_)
  · obtain ⟨b, l0, n, rfl, _⟩ := h
    rfl
  · obtain ⟨b, l0, n, rfl, n1, n12, B, k⟩ := h
    refine ⟨_, PSs.nox (pss_cons (ps_set (i := 2) sc_wframe.nd rfl (Or.inl rfl) (pe_lst pa_nil))
      (pss_cons (ps_for PassesOwn.never rfl (pi_range1 (by rfl) T.n_range (pa_cons (pv 1) pa_nil)) (pg_name (i := 3) sc_wframe.nd rfl (Or.inl rfl) (Or.inr rfl))
      (pss_cons (ps_asg (pe_tup (pa_cons (pe_call (ok_wword T) (hr.mono (by decide)) (by rfl) T.g_wword T.F_wword.kp T.b_wword .nil pass0 (pa_cons (pv 0) pa_nil)) (pa_cons (pe_lc (own := [("_law_pair", 6)]) (g := (gName 6)) (te := (tOp (rIxT K) _ _)) (by rfl) sc_wframe.nd (pi_list (pv 2)) (blkOk_by (own := [("_law_pair", 6)]) (N := n_wframe) (sc := defScope s_wframe) (by decide +kernel)) (fun _ _ _ _ _ => (pg_name (i := 6) sc_wframe.nd rfl (Or.inl rfl) (Or.inr rfl))) (fun _ _ _ _ _ => pts_nil) (fun _ _ _ _ _ => (pe_ix ix_tup (pv 6) pe_int (fun _ _ => rfl)))) pa_nil))) (pg_tup rfl (pgs_cons (pg_name (i := 4) sc_wframe.nd rfl (Or.inl rfl) (Or.inr rfl)) (pgs_cons (pg_name (i := 5) sc_wframe.nd rfl (Or.inr rfl) (Or.inl rfl)) pgs_nil))))
      (pss_cons (ps_if (pt_cmpR op_in_seq (pv 4) (pv 5) (by rfl))
      (pss_one (ps_set (i := 4) sc_wframe.nd rfl (Or.inl rfl) (pe_ix ix_list (pe_lc (own := [("_law_c", 7)]) (g := (gName 7)) (tt := (tTest (tOp (rIn K true) _ _))) (by rfl) sc_wframe.nd (pi_str pe_str) (blkOk_by (own := [("_law_c", 7)]) (N := n_wframe) (sc := defScope s_wframe) (by decide +kernel)) (fun _ _ _ _ _ => (pg_name (i := 7) sc_wframe.nd rfl (Or.inl rfl) (Or.inr rfl))) (fun _ _ _ _ _ => (pts_one (pt_cmpR op_notIn_seq (pe_op op_add_str (pv 7) pe_str) (pv 5) (by rfl)))) (fun _ _ _ _ _ => (pe_op op_add_str (pv 7) pe_str))) pe_int (fun _ _ => rfl))))
      pss_nil)
      (pss_one (ps_expr (pe_bm PySem.F.plainAttrs_list PySem.F.slot_list_append PySem.F.type_list_append mt_append (pv 2) (pa_cons (pe_tup (pa_cons (pv 4) (pa_cons (pe_call (ok_wof T) (hr.mono (by decide)) (by rfl) T.g_wof T.F_wof.kp T.b_wof .nil pass0 (pa_cons (pv 0) (pa_cons (pe_lst (pa_cons pe_int (pa_cons pe_int (pa_cons pe_int (pa_cons pe_int (pa_cons pe_int (pa_cons pe_int (pa_cons pe_int (pa_cons pe_int pa_nil))))))))) pa_nil))) pa_nil))) pa_nil)))))))
      (pss_one (ps_ret (pv 2))))) , ?_⟩
    refine q_asgL (el_lst ea_nil (by decide)) fun l H1 nl e1 hl => ?_
    have hb0 := hid_none b H
    have hbl : b ≠ l := by
      obtain ⟨_, _, _, _, _, h1, _⟩ := B
      exact ne_of_none h1 nl
    have hl0 : l0 ≠ l := by
      obtain ⟨_, _, _, _, _, _, h2, _⟩ := B
      exact ne_of_none h2 nl
    have hWl : hid b H l = none := by
      unfold hid
      rw [if_neg hbl.symm]
      exact nl
    have hW1 : Ex (hid b H) H1 := (hid_ex b H).trans e1
    refine q_forF (W := hid b H) (n := n) (ei_rng1 (ea1 (ev_var rfl)) (by omega) (by omega)) hW1
      (fun W1 i σ' H' => ∃ (acc : List Addr) (cs : Cells) (o1 o2 o3 o4 o5 : Option V), σ' = [some (.ref b), some (.int (n : Int)), some (.ref l), o1, o2, o3, o4, o5] ∧ W1 b = none ∧ W1 l = none ∧ Ex W1 H' ∧ BagAt H' b l0 ∧ H' l = some (.lst (acc.map V.ref)) ∧ CellsIn H' acc cs ∧ CellsPre cs ∧ cs.length = i)
      (fun W1 H2 e2 eW ew hW => ⟨[], [], none, none, none, none, none, rfl, by
          obtain ⟨_, _, _, _, _, h1, _⟩ := B.ex e1
          rw [hW b _ h1]
          exact hb0, by rw [hW l _ hl]; exact hWl, ew, B.ex (e1.trans e2), e2 _ _ hl, ⟨rfl, fun j hj => absurd hj (Nat.not_lt_zero _)⟩, ⟨fun i hi => absurd hi (Nat.not_lt_zero _), fun i hi => absurd hi (Nat.not_lt_zero _), fun i j hi => absurd hi (Nat.not_lt_zero _)⟩, rfl⟩)
      (fun W1 i σ' H' h => by
        obtain ⟨_, _, _, _, _, _, _, _, _, _, h, _⟩ := h
        exact h) (fun W1 i σ' H' eW hi h H2 e2 => ?_) (fun W1 σ' H' eW h => ?_)
    · obtain ⟨acc, cs, o1, o2, o3, o4, o5, rfl, wb, wl, q1, qB, ql, qc, qp, qi⟩ := h
      have e12 := q1.trans e2
      have ql2 := e2 _ _ ql
      have qc2 := qc.ex e2
      have qB2 := qB.ex e2
      -- the word, the names taken
      refine q_tup2P (P := fun v H3 => (∃ a, v = vS a ∧ nameOk a) ∧ Ex W1 H3 ∧ BagAt H3 b l0 ∧ H3 l = some (.lst (acc.map V.ref)) ∧ CellsIn H3 acc cs) (xs := fun _ _ => (cs.map (fun c : List Nat × Nat => c.1)).map vS)
        (fun Q q => ?_) (fun v H3 hv => ?_) fun v H3 p H4 hv np e4 hp => ?_
      · refine ⟨_, rfl, ?_⟩
        refine ⟨b, l0, rfl, qB2, fun a H3 ha e3 B3 => q _ H3 ⟨⟨a, rfl, ha⟩, (to_hid e12 wb).trans e3, B3, e3 _ _ (hid_at ql2 hbl.symm), qc2.1, fun j hj => e3 _ _ (hid_at (qc2.2 j hj) fun e => ?_)⟩⟩
        obtain ⟨_, _, _, _, _, h1, _⟩ := qB2
        have h2 := qc2.2 j hj
        rw [e, h1] at h2
        cases h2
      · obtain ⟨_, g1, gB, gl, gc⟩ := hv
        refine eA (el_lcA (by
            have q := ei_list (K := K) (W := H3) (tl := tVar 2) (σ := [some (.ref b), some (.int (n : Int)), some (.ref l), some (.int (i : Int)), o2, o3, o4, o5]) (j := 6) (it := fun i => .ref (acc.getD i 0)) (ev_var rfl) (sq_of gl) (fun i hi => by
              rw [List.length_map] at hi
              rw [List.getElem?_map, getD_some (d := 0) hi] <;> rfl)
            rw [List.length_map, gc.1] at q
            exact q) (by omega) (fun i => vS (cellD cs i).1) (fun i hi => rfl) (fun i hi => ev_op (ev_var rfl) ev_c (rv_ixTn (i := 0) (st_of (gc.2 i hi)) rfl))) ?_
        exact (range_map (fun c : List Nat × Nat => vS c.1) cs ([], 0)).trans (by rw [List.map_map] <;> rfl)
      · obtain ⟨⟨a, rfl, ha⟩, g1, gB, gl, gc⟩ := hv
        have hWp : ∀ H5, Ex H4 H5 → H5 p = some (.lst ((cs.map (fun c : List Nat × Nat => c.1)).map vS)) := fun H5 e => e _ _ hp
        have hB4 := gB.ex e4
        have hl4 := e4 _ _ gl
        have hc4 := gc.ex e4
        have g14 := g1.trans e4
        -- what follows the mending of the word
        have fin : ∀ (a : List Nat) (H5 : Hp) (σ' : L2.St), σ' = [some (.ref b), some (.int (n : Int)), some (.ref l), some (.int (i : Int)), some (vS a), some (.ref p), o4, o5] → Ex H4 H5 → nameOk a → a ∉ cs.map (fun c : List Nat × Nat => c.1) →
            tDrop (tBM K "list" rAppend (tVar 2) (tCons (tTup (tCons (tVar 4) (tCons (tCall spOf [] E0 (tCons (tVar 0) (tCons (tLst (tCons (tC (.int 2)) (tCons (tC (.int 1)) (tCons (tC (.int 3)) (tCons (tC (.int 2)) (tCons (tC (.int 4)) (tCons (tC (.int 2)) (tCons (tC (.int 3)) (tCons (tC (.int 1)) tNil))))))))) tNil))) tNil))) tNil))
              { nx := fun σ' H' => ∃ (acc : List Addr) (cs : Cells) (o1 o2 o3 o4 o5 : Option V), σ' = [some (.ref b), some (.int (n : Int)), some (.ref l), o1, o2, o3, o4, o5] ∧ W1 b = none ∧ W1 l = none ∧ Ex W1 H' ∧ BagAt H' b l0 ∧ H' l = some (.lst (acc.map V.ref)) ∧ CellsIn H' acc cs ∧ CellsPre cs ∧ cs.length = i + 1,
                ct := fun σ' H' => ∃ (acc : List Addr) (cs : Cells) (o1 o2 o3 o4 o5 : Option V), σ' = [some (.ref b), some (.int (n : Int)), some (.ref l), o1, o2, o3, o4, o5] ∧ W1 b = none ∧ W1 l = none ∧ Ex W1 H' ∧ BagAt H' b l0 ∧ H' l = some (.lst (acc.map V.ref)) ∧ CellsIn H' acc cs ∧ CellsPre cs ∧ cs.length = i + 1, bk := tRet (tVar 2) { nx := fun x H' => Q V.non H', rt := Q }, rt := Q } σ' H5 := fun a H5 σ' hσ e5 ha hna => by
          subst hσ
          have hB5 := hB4.ex e5
          have hl5 := e5 _ _ hl4
          have hc5 := hc4.ex e5
          have g15 := g14.trans e5
          refine s_appP (l := l) (xs := acc.map V.ref) (P := fun v H6 => ∃ (T : Addr) (m : Nat), v = .ref T ∧ 1 ≤ m ∧ m ≤ 4 ∧ H6 T = some (.tup [vS a, .int (m : Int)]) ∧ T ≠ l ∧ Ex W1 H6 ∧ BagAt H6 b l0 ∧ H6 l = some (.lst (acc.map V.ref)) ∧ CellsIn H6 acc cs) hl5 (ev_var rfl) (fun H6 e6 Q q => ?_) (fun v H6 hv => ?_) (by rw [List.length_map, hc5.1]; omega) (fun v H6 hv => ?_)
          · refine ⟨_, rfl, ?_⟩
            have hB6 := hB5.ex e6
            refine p_of (W := hid b H6) (items := vals8.map V.int) (ev_var rfl) (eA (el_lst (ea_cons ev_c (ea_cons ev_c (ea_cons ev_c (ea_cons ev_c (ea_cons ev_c (ea_cons ev_c (ea_cons ev_c (ea_cons ev_c ea_nil)))))))) (by simp)) rfl) (hid_ex b H6) (hid_none b H6) hB6 (by decide) (by decide) _ fun v H7 hv => ?_
            obtain ⟨hm, e7, B7⟩ := hv
            obtain ⟨m, hm8, rfl⟩ := List.mem_map.mp hm
            have hm4 : 1 ≤ m ∧ m ≤ 4 := by
              have hall : ∀ x ∈ vals8, 1 ≤ x ∧ x ≤ 4 := by decide
              exact hall m hm8
            have l7 : H7 l = some (.lst (acc.map V.ref)) := e7 _ _ (hid_at (e6 _ _ hl5) hbl.symm)
            have c7 : CellsIn H7 acc cs := ⟨hc5.1, fun j hj => e7 _ _ (hid_at (e6 _ _ (hc5.2 j hj)) fun e => by
              obtain ⟨_, _, _, _, _, h1, _⟩ := hB6
              have h2 := e6 _ _ (hc5.2 j hj)
              rw [e, h1] at h2
              cases h2)⟩
            have w7 : Ex W1 H7 := (to_hid (g15.trans e6) wb).trans e7
            obtain ⟨m', hm'⟩ : ∃ m' : Nat, m = (m' : Int) := ⟨m.toNat, by omega⟩
            subst hm'
            refine ⟨(by show 2 ≤ sizeLine; decide), fun T hT => q _ _ ⟨T, m', rfl, by omega, by omega, upd_same, (ne_of_none l7 hT).symm, w7.trans (Ex.new hT), B7.ex (Ex.new hT), Ex.new hT _ _ l7, c7.ex (Ex.new hT)⟩⟩
          · obtain ⟨T, m, rfl, _, _, _, _, _, _, h, _⟩ := hv
            exact h
          · obtain ⟨T, m, rfl, m1, m4, hT, hTl, w6, B6, l6, c6⟩ := hv
            have neq : ∀ {q : Addr} {x y : V}, H6 q = some (.tup [x, y]) → q ≠ l := fun h => ne_of h l6 (by intro z; cases z)
            refine ⟨acc ++ [T], cs ++ [(a, m)], some (.int (i : Int)), some (vS a), some (.ref p), o4, o5, rfl, wb, wl, Ex.mut w6 wl, ?_, by rw [upd_same, List.map_append] <;> rfl, ⟨by rw [List.length_append, List.length_append, c6.1] <;> rfl, fun j hj => ?_⟩, qp.snoc ⟨m1, m4⟩ ha hna, by rw [List.length_append, qi] <;> rfl⟩
            · obtain ⟨ns, a1, a2, a3, a4, h1, h2, h3⟩ := B6
              exact ⟨ns, a1, a2, a3, a4, by rw [upd_ne hbl]; exact h1, by rw [upd_ne hl0]; exact h2, h3⟩
            · rw [List.length_append, List.length_singleton] at hj
              by_cases hj2 : j < cs.length
              · have x1 : (acc ++ [T]).getD j 0 = acc.getD j 0 := by
                  rw [List.getD_eq_getElem?_getD, List.getElem?_append_left (by rw [c6.1]; exact hj2), ← List.getD_eq_getElem?_getD]
                rw [x1, cellD_l hj2, upd_ne (neq (c6.2 j hj2))]
                exact c6.2 j hj2
              · have hj3 : j = cs.length := by omega
                subst hj3
                have x1 : (acc ++ [T]).getD cs.length 0 = T := by
                  rw [← c6.1, List.getD_eq_getElem?_getD, List.getElem?_append_right (Nat.le_refl _)]
                  simp
                rw [x1, cellD_r, upd_ne hTl]
                exact hT
        refine q_when (b := decide (a ∈ cs.map (fun c : List Nat × Nat => c.1))) (et_is (et_test (ev_op (ev_var rfl) (ev_var rfl) (rv_isL (sq_of hp) rfl (flatS _)))) (by rw [inV_S])) (fun hb' H5 e5 => ?_) (fun hb' H5 e5 => ?_)
        · have hne := fresh13 (names := cs.map (fun c : List Nat × Nat => c.1)) (by rw [List.length_map]; omega)
          generalize hfl : (l13.filter fun c => !decide ([c, 113] ∈ cs.map (fun c : List Nat × Nat => c.1))) = fl at hne
          obtain ⟨c, tl, rfl⟩ : ∃ c tl, fl = c :: tl := by
            cases fl with
            | nil => exact absurd rfl hne
            | cons c tl => exact ⟨c, tl, rfl⟩
          have hcm : c ∈ l13.filter fun c => !decide ([c, 113] ∈ cs.map (fun c : List Nat × Nat => c.1)) := by
            rw [hfl]
            exact List.mem_cons_self ..
          have hc1 := (List.mem_filter.mp hcm).1
          have hc2 : [c, 113] ∉ cs.map (fun c : List Nat × Nat => c.1) := by simpa using (List.mem_filter.mp hcm).2
          refine s_asg (D := { nx := _, rt := Q, bk := _, ct := _ }) (v := vS [c, 113]) (ev_opL1 (xs := (c :: tl).map fun c => vS [c, 113]) (eA (el_lc (vs := [7]) (n := l13.length) (ei_text (l := l13) (c := fun i => l13.getD i 0) (ev_lit rfl) (fun i hi => getD_some hi)) (by decide) (fun i => !decide ([l13.getD i 0, 113] ∈ cs.map (fun c : List Nat × Nat => c.1))) (fun i => vS [l13.getD i 0, 113]) (fun i hi => rfl) (fun i hi => ?_) (fun i hi _ => ?_)) ((given_map l13 0 (fun c => !decide ([c, 113] ∈ cs.map (fun c : List Nat × Nat => c.1))) (fun c => vS [c, 113])).trans (by rw [hfl]))) (fun H1 e => ev_c) (fun q H1 hq e => rv_ixLn (i := 0) (sq_of hq) rfl)) fun H6 e6 => ?_
          · exact et_is (et_test (ev_op (ev_op (ev_var rfl) (ev_lit (l := [113]) rfl) (rv_catS (by simp))) (ev_var rfl) (rv_niL (sq_of (hWp H5 e5)) rfl (flatS _)))) (by rw [inV_S] <;> rfl)
          · exact ev_op (ev_var rfl) (ev_lit (l := [113]) rfl) (rv_catS (by simp))
          · refine fin [c, 113] H6 _ rfl (e5.trans e6) (nameOk_of ?_) hc2
            have hall : l13.all (fun c => nameB [c, 113]) = true := by decide
            exact List.all_eq_true.mp hall c hc1
        · exact fin a H5 _ rfl e5 ha (of_decide_eq_false hb')
    · obtain ⟨acc, cs, o1, o2, o3, o4, o5, rfl, wb, wl, q1, qB, ql, qc, qp, qi⟩ := h
      refine s_ret (ev_var rfl) fun H3 e3 => k l H3 cs nl (eW.trans (q1.trans e3)) (qB.ex e3) ⟨fun j => acc.getD j 0, ?_, fun j hj => e3 _ _ (qc.2 j hj)⟩ ⟨by omega, by omega, qp.val, qp.nam, qp.nod⟩ qi
      rw [← acc_map qc.1]
      exact e3 _ _ ql
end
end Nt
end
section
set_option Elab.async false
set_option linter.all false
set_option maxRecDepth 100000
set_option maxHeartbeats 4000000
namespace Nt
open PySem PySem.Spec PyProof.Rows L2 Evl SX
def dig (v : Nat) : Nat := 47 + v
def mendF (cs : Cells) (sown : List (List Nat)) : List Nat → List Nat → List Nat
  | [], last => last
  | k :: ks, last => mendF cs sown ks (if (sown.all fun s => decide (s.getD k 46 = 46)) = true then last.take k ++ [dig (cellD cs k).2] ++ last.drop (k + 1) else last)
def mended (cs : Cells) (sown : List (List Nat)) : List (List Nat) := sown.dropLast ++ [mendF cs sown (List.range cs.length) (sown.getLast?.getD [])]
theorem dig_get : ∀ v, 1 ≤ v → v ≤ 4 → ([48, 49, 50, 51] : List Nat)[v - 1]? = some (dig v) := fun v h1 h2 => by
  match v, h1, h2 with
  | 1, _, _ => rfl
  | 2, _, _ => rfl
  | 3, _, _ => rfl
  | 4, _, _ => rfl
theorem dig_sg : ∀ v d, 1 ≤ v → v ≤ 4 → d < v → ([48, 49, 50, 51] : List Nat).getD d 0 ∈ sg.take (v + 1) ∧ ([48, 49, 50, 51] : List Nat).getD d 0 ≠ 46 := fun v d h1 h2 h3 => by
  match v, h1, h2 with
  | 1, _, _ =>
    match d, h3 with
    | 0, _ => decide
  | 2, _, _ =>
    match d, h3 with
    | 0, _ => decide
    | 1, _ => decide
  | 3, _, _ =>
    match d, h3 with
    | 0, _ => decide
    | 1, _ => decide
    | 2, _ => decide
  | 4, _, _ =>
    match d, h3 with
    | 0, _ => decide
    | 1, _ => decide
    | 2, _ => decide
    | 3, _ => decide
theorem mendF_len (cs : Cells) (sown : List (List Nat)) (n : Nat) : ∀ (ks last : List Nat), (∀ k ∈ ks, k < n) → last.length = n → (mendF cs sown ks last).length = n
  | [], last, _, h => h
  | k :: ks, last, hk, h => by
    unfold mendF
    refine mendF_len cs sown n ks _ (fun x hx => hk x (List.mem_cons_of_mem _ hx)) ?_
    split
    · have := hk k (List.mem_cons_self ..)
      rw [List.length_append, List.length_append, List.length_take, List.length_drop, List.length_singleton]
      omega
    · exact h
section
variable {P : Program} {w : World} {K : PySem.W.Frag} {mg : Str → Option Value} {base : Heap} {A : Ad}
theorem ev_andP {ta tb : TE} {σ : L2.St} {H : Hp} {a : Bool} {P : V → Hp → Prop} (h1 : Ev ta σ H (.bl a)) (h2 : a = true → ∀ H1, Ex H H1 → EvP tb σ H1 P) (h3 : a = false → ∀ H1, Ex H H1 → P (.bl false) H1) : EvP (tAndV ta tb) σ H P := fun Q q => h1 H (Ex.refl H) _ fun H1 e1 => ⟨a, rfl, by
  cases a with
  | true =>
    show tb σ H1 Q
    exact h2 rfl H1 e1 Q q
  | false =>
    show Q (.bl false) H1
    exact q _ H1 (h3 rfl H1 e1)⟩
abbrev n_wseed : List Str := ["_law_bag_here", "_law_frame_here", "_law_share", "_law_full", "_law_spot", "_law_found", "_law_k", "_law_sign", "_law_hidden"]
theorem sc_wseed : FnScope n_wseed ["_law_bag_here", "_law_frame_here", "_law_share"] (defScope s_wseed) := ⟨rfl, rfl, rfl, by decide +kernel, rfl, by decide +kernel, by decide +kernel⟩
def spSeed : Sp := fun vs H Q _ => ∃ (b l0 cl : Addr) (cs : Cells) (sh : Int), vs = [.ref b, .ref cl, .int sh] ∧ BagAt H b l0 ∧ CellsAt (hid b H) cl cs ∧ CellsOk cs ∧
  ∀ (s : List Nat) H2, s.length = cs.length → rowB cs s = true → s ≠ List.replicate cs.length 46 → Ex (hid b H) H2 → BagAt H2 b l0 → Q (vS s) H2
theorem ok_wseed (T : Tx K mg A) : FnOk P w K mg base CX0 4 (A.f "_law_seed") (A.fd "_law_seed") ["_law_bag_here", "_law_frame_here", "_law_share"] spSeed := by
  refine T.F_wseed.ok sc_wseed (fun vs H Q E h => ?_) (fun cdv A' outer s H vs Q E hr h => ?_)
  · obtain ⟨b, l0, cl, cs, sh, rfl, _⟩ := h
    rfl
  · obtain ⟨b, l0, cl, cs, sh, rfl, B, ⟨ts, h1, h2⟩, ok, k⟩ := h
    have c1 := ok.one
    have c12 := ok.few
    have hb0 := hid_none b H
    refine ⟨_, PSs.nox (pss_cons (ps_par3 (i := 3) (j := 4) (l := 5) (by rfl) sc_wseed.nd rfl rfl rfl (by decide) (by decide) (by decide) rfl rfl rfl (pa_cons (pe_cmpR op_eq (pe_call (ok_wdraw T) (hr.mono (by decide)) (by rfl) T.g_wdraw T.F_wdraw.kp T.b_wdraw .nil pass0 (pa_cons (pv 0) (pa_cons pe_int pa_nil))) pe_int (nomark _)) (pa_cons (pe_call (ok_wdraw T) (hr.mono (by decide)) (by rfl) T.g_wdraw T.F_wdraw.kp T.b_wdraw .nil pass0 (pa_cons (pv 0) (pa_cons (pe_callB call_len_seq (by rfl) T.n_len PySem.boot_len (pa_cons (pv 1) pa_nil)) pa_nil))) (pa_cons pe_str pa_nil))) (by rfl))
      (pss_cons (ps_for PassesOwn.never rfl (pi_range1 (by rfl) T.n_range (pa_cons (pe_callB call_len_seq (by rfl) T.n_len PySem.boot_len (pa_cons (pv 1) pa_nil)) pa_nil)) (pg_name (i := 6) sc_wseed.nd rfl (Or.inl rfl) (Or.inr rfl))
      (pss_cons (ps_set (i := 7) sc_wseed.nd rfl (Or.inl rfl) (pe_ix ix_str pe_str (pe_call (ok_wdraw T) (hr.mono (by decide)) (by rfl) T.g_wdraw T.F_wdraw.kp T.b_wdraw .nil pass0 (pa_cons (pv 0) (pa_cons (pe_ix ix_tup (pe_ix ix_list (pv 1) (pv 6) (fun _ _ => rfl)) pe_int (fun _ _ => rfl)) pa_nil))) (fun _ _ => rfl)))
      (pss_cons (ps_set (i := 8) sc_wseed.nd rfl (Or.inl rfl) (pe_and (pe_not (pv 3)) (pe_and (pe_cmpR op_ne (pv 6) (pv 4) (nomark _)) (pe_one (pe_cmpR op_ge (pe_call (ok_wdraw T) (hr.mono (by decide)) (by rfl) T.g_wdraw T.F_wdraw.kp T.b_wdraw .nil pass0 (pa_cons (pv 0) (pa_cons pe_int pa_nil))) (pv 2) (nomark _))))))
      (pss_one (ps_set (i := 5) sc_wseed.nd rfl (Or.inl rfl) (pe_op op_add_str (pv 5) (pe_ifExp (pt_val (pv 8)) pe_str (pv 7))))))))
      (pss_one (ps_ret (pv 5))))) , ?_⟩
    have hlen : ∀ (σ : L2.St) (H1 : Hp), Ex (hid b H) H1 → σ[1]? = some (some (.ref cl)) → Ev (tCB (fun xs H Q => ∃ p ys, xs = [.ref p] ∧ (SqL K H p ys ∨ SqT K H p ys) ∧ Q (.int ys.length) H) (tCons (tVar 1) tNil)) σ H1 (.int (cs.length : Int)) := fun σ H1 e1 hσ => by
      have q := ev_lenL (K := K) (ta := tVar 1) (σ := σ) (ev_var hσ) (sq_of (e1 _ _ h1))
      rw [List.length_map, List.length_range] at q
      exact q
    refine q_par3P (P := fun x y z H1 => ∃ (f : Bool) (spot : Nat), x = .bl f ∧ y = .int (spot : Int) ∧ z = vS [] ∧ spot < cs.length ∧ Ex (hid b H) H1 ∧ BagAt H1 b l0) (fun Q q => ?_) fun x y z H1 hP => ?_
    · refine p_draw (W := hid b H) (ev_var rfl) ev_c (hid_ex b H) hb0 B (by decide) (by decide) _ fun v H2 hv => ?_
      obtain ⟨⟨d, rfl, _⟩, e2, B2⟩ := hv
      refine ⟨rfl, ?_⟩
      refine p_draw (W := hid b H) (ev_var rfl) (hlen _ H2 e2 rfl) e2 hb0 B2 (by omega) (by omega) _ fun v H3 hv => ?_
      obtain ⟨⟨spot, rfl, hsp⟩, e3, B3⟩ := hv
      exact q _ _ _ H3 ⟨_, spot, rfl, rfl, rfl, by omega, e3, B3⟩
    · obtain ⟨f, spot, rfl, rfl, rfl, hsp, e1, B1⟩ := hP
      refine q_forF (W := hid b H) (n := cs.length) (ei_rng1 (n := (cs.length : Int)) (ea1 (by
          have q := ev_lenL (K := K) (ta := tVar 1) (σ := [some (.ref b), some (.ref cl), some (.int sh), some (.bl f), some (.int (spot : Int)), some (vS []), none, none, none]) (H := hid b H) (ev_var rfl) (sq_of h1)
          rw [List.length_map, List.length_range] at q
          exact q)) (by omega) (by omega)) e1
        (fun W1 i σ' H' => ∃ (zz : List Nat) (o1 o2 o3 : Option V), σ' = [some (.ref b), some (.ref cl), some (.int sh), some (.bl f), some (.int (spot : Int)), some (vS zz), o1, o2, o3] ∧ Ex W1 H' ∧ W1 b = none ∧ BagAt H' b l0 ∧ zz.length = i ∧ (∀ j, j < i → zz.getD j 0 ∈ sg.take ((cellD cs j).2 + 1)) ∧ (spot < i → zz.getD spot 46 ≠ 46))
        (fun W1 H2 e2 eW ew hW => ⟨[], none, none, none, rfl, ew, by
          obtain ⟨_, _, _, _, _, h1, _⟩ := B1
          rw [hW b _ h1]
          exact hb0, B1.ex e2, rfl, fun j hj => absurd hj (Nat.not_lt_zero _), fun h => absurd h (Nat.not_lt_zero _)⟩)
        (fun W1 i σ' H' h => by
          obtain ⟨_, _, _, _, _, h, _⟩ := h
          exact h) (fun W1 i σ' H' eW hi h H2 e2 => ?_) (fun W1 σ' H' eW h => ?_)
      · obtain ⟨zz, o1, o2, o3, rfl, g1, wb, gB, gl, gz, gs⟩ := h
        obtain ⟨v1, v4⟩ := ok.val i hi
        have e12 := g1.trans e2
        have eW2 := eW.trans e12
        refine q_asgP (P := fun v H3 => ∃ c, v = vS [c] ∧ c ∈ sg.take ((cellD cs i).2 + 1) ∧ c ≠ 46 ∧ Ex W1 H3 ∧ BagAt H3 b l0) (fun Q q => ?_) fun v H3 hv => ?_
        · show tCall spDraw [] E0 _ _ H2 _
          refine p_draw (W := W1) (top := ((cellD cs i).2 : Int)) (ev_var rfl) (ev_op (ev_op (ev_var rfl) (ev_var rfl) (rv_ixLn (i := i) (sq_of (eW2 _ _ h1)) (range_get hi))) ev_c (rv_ixTn (i := 1) (st_of (eW2 _ _ (h2 i hi))) rfl)) e12 wb (gB.ex e2) (by omega) (by omega) _ fun v H3 hv => ?_
          obtain ⟨⟨d, rfl, hd⟩, e3, B3⟩ := hv
          obtain ⟨d1, d2⟩ := dig_sg (cellD cs i).2 d v1 v4 (by omega)
          exact (rv_ixSn (l := [48, 49, 50, 51]) (i := d) (c := ([48, 49, 50, 51] : List Nat).getD d 0) (by decide) (getD_some (by simp; omega))) H3 (Ex.refl H3) _ fun H4 e4 => q _ H4 ⟨_, rfl, d1, d2, e3.trans e4, B3.ex e4⟩
        · obtain ⟨c, rfl, hc1, hc2, e3, B3⟩ := hv
          refine q_asgP (P := fun v H4 => ∃ hd : Bool, v = .bl hd ∧ (hd = true → i ≠ spot) ∧ Ex W1 H4 ∧ BagAt H4 b l0) (ev_andP (a := !f) (ev_notV (ev_var rfl)) (fun _ H4 e4 => ev_andP (a := !decide ((i : Int) = (spot : Int))) (ev_op (ev_var rfl) (ev_var rfl) rv_neI) (fun hne H5 e5 Q q => ?_) (fun _ H5 e5 => ⟨false, rfl, fun h => absurd h (by decide), (e3.trans e4).trans e5, (B3.ex e4).ex e5⟩)) (fun _ H4 e4 => ⟨false, rfl, fun h => absurd h (by decide), e3.trans e4, B3.ex e4⟩)) fun v H4 hv => ?_
          · have hne' : ¬ (i : Int) = (spot : Int) := by simpa using hne
            refine p_draw (W := W1) (ev_var rfl) ev_c ((e3.trans e4).trans e5) wb ((B3.ex e4).ex e5) (by decide) (by decide) _ fun v H6 hv => ?_
            obtain ⟨⟨d, rfl, _⟩, e6, B6⟩ := hv
            exact ⟨.int sh, rfl, _, _, rfl, rfl, q _ H6 ⟨_, rfl, fun _ h => hne' (by rw [h]), e6, B6⟩⟩
          · obtain ⟨hd, rfl, hds, e4, B4⟩ := hv
            refine s_asg (v := vS (zz ++ [if hd = true then 46 else c])) (ev_op (ev_var rfl) (y := vS [if hd = true then 46 else c]) (ev_if (b := hd) (et_B (ev_var rfl)) (fun h => by rw [if_pos h]; exact ev_lit rfl) (fun h => by rw [if_neg (by rw [h]; decide)]; exact ev_var rfl)) (rv_catS (by show zz.length + 1 ≤ _; omega))) fun H5 e5 => ⟨zz ++ [if hd = true then 46 else c], some (.int (i : Int)), some (vS [c]), some (.bl hd), rfl, e4.trans e5, wb, B4.ex e5, by rw [List.length_append, gl] <;> rfl, fun j hj => ?_, fun hs => ?_⟩
            · by_cases hj2 : j < i
              · have : (zz ++ [if hd = true then 46 else c]).getD j 0 = zz.getD j 0 := by
                  rw [List.getD_eq_getElem?_getD, List.getElem?_append_left (by omega), ← List.getD_eq_getElem?_getD]
                rw [this]
                exact gz j hj2
              · have hj3 : j = zz.length := by omega
                subst hj3
                have : (zz ++ [if hd = true then 46 else c]).getD zz.length 0 = if hd = true then 46 else c := by
                  rw [List.getD_eq_getElem?_getD, List.getElem?_append_right (Nat.le_refl _)]
                  simp
                rw [this]
                subst gl
                split
                · unfold sg
                  simp
                · exact hc1
            · by_cases hs2 : spot < i
              · have : (zz ++ [if hd = true then 46 else c]).getD spot 46 = zz.getD spot 46 := by
                  rw [List.getD_eq_getElem?_getD, List.getElem?_append_left (by omega), ← List.getD_eq_getElem?_getD]
                rw [this]
                exact gs hs2
              · have hj3 : spot = zz.length := by omega
                have : (zz ++ [if hd = true then 46 else c]).getD spot 46 = if hd = true then 46 else c := by
                  rw [hj3, List.getD_eq_getElem?_getD, List.getElem?_append_right (Nat.le_refl _)]
                  simp
                rw [this, if_neg (fun h => hds h (by omega))]
                exact hc2
      · obtain ⟨zz, o1, o2, o3, rfl, g1, wb, gB, gl, gz, gs⟩ := h
        refine s_ret (ev_var rfl) fun H3 e3 => k zz H3 gl (List.all_eq_true.mpr fun j hj => decide_eq_true (gz j (List.mem_range.mp hj))) (fun e => ?_) (eW.trans (g1.trans e3)) (gB.ex e3)
        have q := gs hsp
        rw [e, List.getD_eq_getElem?_getD, List.getElem?_replicate] at q
        split at q <;> exact q rfl
abbrev n_wmended : List Str := ["_law_frame_here", "_law_sown", "_law_last", "_law_k", "_law_line_here"]
theorem sc_wmended : FnScope n_wmended ["_law_frame_here", "_law_sown"] (defScope s_wmended) := ⟨rfl, rfl, rfl, by decide +kernel, rfl, by decide +kernel, by decide +kernel⟩
def spMended : Sp := fun vs H Q _ => ∃ (cl a : Addr) (cs : Cells) (sown : List (List Nat)), vs = [.ref cl, .ref a] ∧ CellsAt H cl cs ∧ CellsOk cs ∧ RowsAt H a sown cs.length ∧ sown ≠ [] ∧ RetL ((mended cs sown).map vS) H Q
theorem ok_wmended (T : Tx K mg A) : FnOk P w K mg base CX0 2 (A.f "_law_mended") (A.fd "_law_mended") ["_law_frame_here", "_law_sown"] spMended := by
  refine T.F_wmended.ok sc_wmended (fun vs H Q E h => ?_) (fun cdv A' outer s H vs Q E hr h => ?_)
  · obtain ⟨cl, a, cs, sown, rfl, _⟩ := h
    rfl
  · obtain ⟨cl, a, cs, sown, rfl, ⟨ts, h1, h2⟩, ok, R, hne, k⟩ := h
    have c12 := ok.few
    have hf := R.few
    refine ⟨_, PSs.nox (pss_cons (ps_set (i := 2) sc_wmended.nd rfl (Or.inl rfl) (pe_ix ix_list (pv 1) (pe_un un_neg pe_int) (fun _ _ => rfl)))
      (pss_cons (ps_for PassesOwn.never rfl (pi_range1 (by rfl) T.n_range (pa_cons (pe_callB call_len_seq (by rfl) T.n_len PySem.boot_len (pa_cons (pv 0) pa_nil)) pa_nil)) (pg_name (i := 3) sc_wmended.nd rfl (Or.inr rfl) (Or.inl rfl))
      (pss_one (ps_if (pt_val (pe_callB (cr_all rfl) (by rfl) T.n_all (by decide +kernel) (pa_cons (pe_lc (own := [("_law_line_here", 4)]) (g := (gName 4)) (by rfl) sc_wmended.nd (pi_list (pv 1)) (blkOk_by (own := [("_law_line_here", 4)]) (N := n_wmended) (sc := defScope s_wmended) (by decide +kernel)) (fun _ _ _ _ _ => (pg_name (i := 4) sc_wmended.nd rfl (Or.inl rfl) (Or.inr rfl))) (fun _ _ _ _ _ => pts_nil) (fun _ _ _ _ _ => (pe_cmpR op_eq (pe_ix ix_str (pv 4) (pv 3) (fun _ _ => rfl)) pe_str (nomark _)))) pa_nil)))
      (pss_one (ps_set (i := 2) sc_wmended.nd rfl (Or.inl rfl) (pe_op op_add_str (pe_op op_add_str (pe_slice sl_str (pv 2) po_none (po_some (pv 3))) (pe_ix ix_str pe_str (pe_op op_sub (pe_ix ix_tup (pe_ix ix_list (pv 0) (pv 3) (fun _ _ => rfl)) pe_int (fun _ _ => rfl)) pe_int) (fun _ _ => rfl))) (pe_slice sl_str (pv 2) (po_some (pe_op op_add (pv 3) pe_int)) po_none))))
      pss_nil)))
      (pss_one (ps_ret (pe_op op_cat (pe_slice sl_list (pv 1) po_none (po_some (pe_un un_neg pe_int))) (pe_lst (pa_cons (pv 2) pa_nil))))))) , ?_⟩
    have hlast : sown.getLast? = some (sown.getLast?.getD []) := by
      rw [List.getLast?_eq_some_getLast hne]
      rfl
    generalize hL : sown.getLast?.getD [] = L at hlast
    have hLm : L ∈ sown := List.mem_of_getLast? hlast
    have hLl := R.wid L hLm
    refine q_asg (v := vS L) (ev_op (ev_var rfl) ev_neg1 (rv_ixLast (sq_of R.at_) (by rw [List.getLast?_map, hlast] <;> rfl))) fun H1 e1 => ?_
    refine q_forF (W := H1) (n := cs.length) (ei_rng1 (n := (cs.length : Int)) (ea1 (by
        have q := ev_lenL (K := K) (ta := tVar 0) (σ := [some (.ref cl), some (.ref a), some (vS L), none, none]) (H := H1) (ev_var rfl) (sq_of (e1 _ _ h1))
        rw [List.length_map, List.length_range] at q
        exact q)) (by omega) (by omega)) (Ex.refl H1)
      (fun W1 i σ' H' => Ex W1 H' ∧ ∃ (z : List Nat) (o1 o2 : Option V), σ' = [some (.ref cl), some (.ref a), some (vS z), o1, o2] ∧ z.length = cs.length ∧ mendF cs sown ((List.range cs.length).drop i) z = mendF cs sown (List.range cs.length) L)
      (fun W1 H2 e2 eW ew hW => ⟨ew, L, none, none, rfl, hLl, rfl⟩) (fun W1 i σ' H' h => h.1) (fun W1 i σ' H' eW hi h H2 e2 => ?_) (fun W1 σ' H' eW h => ?_)
    · obtain ⟨g1, z, o1, o2, rfl, hz, f⟩ := h
      have eH := (e1.trans eW).trans (g1.trans e2)
      have R2 := R.ex eH
      have hd : (List.range cs.length).drop i = i :: (List.range cs.length).drop (i + 1) := by
        have q := drop_get (l := List.range cs.length) (i := i) (d := 0) (by rw [List.length_range]; exact hi)
        rw [q]
        congr 1
        rw [List.getD_eq_getElem?_getD, List.getElem?_range hi] <;> rfl
      rw [hd] at f
      have f' : mendF cs sown ((List.range cs.length).drop (i + 1)) (if (sown.all fun s => decide (s.getD i 46 = 46)) = true then z.take i ++ [dig (cellD cs i).2] ++ z.drop (i + 1) else z) = mendF cs sown (List.range cs.length) L := f
      refine s_when (b := sown.all fun s => decide (s.getD i 46 = 46)) (et_is (et_B (ev_all (eA (el_lcA (by
          have q := ei_list (K := K) (W := H2) (tl := tVar 1) (σ := [some (.ref cl), some (.ref a), some (vS z), some (.int (i : Int)), o2]) (j := 4) (it := fun j => vS (sown.getD j [])) (ev_var rfl) (sq_of R2.at_) (fun j hj => R2.get (by rw [List.length_map] at hj; exact hj))
          rw [List.length_map] at q
          exact q) (by omega) (fun j => .bl (decide ((sown.getD j []).getD i 46 = 46))) (fun j hj => rfl) (fun j hj => ?_)) (ys := (sown.map fun s => decide (s.getD i 46 = 46)).map V.bl) ?_))) (by rw [List.all_map] <;> rfl)) (fun hb H3 e3 => ?_) (fun hb H3 e3 => ?_)
      · have := R.len hj
        exact ev_op (ev_op (ev_var rfl) (ev_var rfl) (rv_ixSn (i := i) (by omega) (getD_some (by omega)))) ev_c (rv_eq1 (b := 46))
      · rw [range_map (fun s => V.bl (decide (s.getD i 46 = 46))) sown [], List.map_map] <;> rfl
      · rw [if_pos hb] at f'
        obtain ⟨v1, v4⟩ := ok.val i hi
        have eH3 := eH.trans e3
        refine s_asg (v := vS (z.take i ++ [dig (cellD cs i).2] ++ z.drop (i + 1))) (ev_op (ev_op (ev_is (ev_slTo (k := (i : Int)) (ev_var rfl) (ev_var rfl) (by omega) (by omega)) (by rw [Int.toNat_natCast])) (ev_op (ev_lit (l := [48, 49, 50, 51]) rfl) (ev_is (ev_op (ev_op (ev_op (ev_var rfl) (ev_var rfl) (rv_ixLn (i := i) (sq_of (eH3 _ _ h1)) (range_get hi))) ev_c (rv_ixTn (i := 1) (st_of (eH3 _ _ (h2 i hi))) rfl)) ev_c rv_sub) (w := .int (((cellD cs i).2 - 1 : Nat) : Int)) (by
            show V.int _ = V.int _
            congr 1
            omega)) (rv_ixSn (i := (cellD cs i).2 - 1) (by decide) (dig_get _ v1 v4))) (rv_catS (by rw [List.length_take, List.length_singleton]; omega))) (ev_is (ev_slFrom (k := (i : Int) + 1) (ev_var rfl) (ev_op (ev_var rfl) ev_c rv_add) (by omega) (by omega)) (by
            have : ((i : Int) + 1).toNat = i + 1 := by omega
            rw [this])) (rv_catS (by rw [List.length_append, List.length_take, List.length_drop, List.length_singleton]; omega))) fun H4 e4 => ⟨(g1.trans e2).trans (e3.trans e4), _, _, _, rfl, by rw [List.length_append, List.length_append, List.length_take, List.length_drop, List.length_singleton]; omega, f'⟩
      · rw [if_neg (by rw [hb]; decide)] at f'
        exact ⟨(g1.trans e2).trans e3, z, _, _, rfl, hz, f'⟩
    · obtain ⟨g1, z, o1, o2, rfl, hz, f⟩ := h
      have hdr : (List.range cs.length).drop cs.length = [] := List.drop_eq_nil_of_le (by rw [List.length_range]; exact Nat.le_refl _)
      rw [hdr] at f
      have f' : z = mendF cs sown (List.range cs.length) L := f
      have eH := (e1.trans eW).trans g1
      have hm : mended cs sown = sown.dropLast ++ [z] := by
        unfold mended
        rw [hL, ← f']
      rw [hm] at k
      have hcut : cutV (sown.map vS) none (some (-1)) = sown.dropLast.map vS := by
        unfold cutV
        show ((sown.map vS).drop 0).take (((-1 : Int) + ((sown.map vS).length : Int)).toNat - 0) = _
        rw [List.drop_zero, List.length_map, List.dropLast_eq_take, List.map_take]
        congr 1
        omega
      refine s_retL (eA (el_catN (el_sl (lo := none) (hi := some (-1)) (ev_var rfl) eo_none (eo_some ev_neg1) (sq_of (eH _ _ R.at_))) (el_lst (ea1 (ev_var rfl)) (by simp)) (by
        rw [hcut, List.length_map, List.length_dropLast]
        show _ + 1 ≤ _
        omega)) (by
        rw [hcut, List.map_append] <;> rfl)) fun p H3 np e3 hp => k p H3 (fresh_back eH np) (eH.trans e3) hp
end
end Nt
end
section
set_option Elab.async false
set_option linter.all false
set_option maxRecDepth 100000
set_option maxHeartbeats 4000000
namespace Nt
open PySem PySem.Spec PyProof.Rows L2 Evl SX
/-! ### rows by their signs -/
theorem getD_app {l m : List Nat} {i : Nat} {d : Nat} : (l ++ m).getD i d = if i < l.length then l.getD i d else m.getD (i - l.length) d := by
  rw [List.getD_eq_getElem?_getD, List.getElem?_append]
  split
  · rw [← List.getD_eq_getElem?_getD]
  · rw [← List.getD_eq_getElem?_getD]
theorem row_ext {a b : List Nat} (hl : a.length = b.length) (h : ∀ i, i < a.length → a.getD i 46 = b.getD i 46) : a = b := by
  refine List.ext_getElem hl fun i h1 h2 => ?_
  have q := h i h1
  rw [List.getD_eq_getElem?_getD, List.getD_eq_getElem?_getD, List.getElem?_eq_getElem h1, List.getElem?_eq_getElem h2] at q
  exact q
theorem ov_get {a b : List Nat} (h : a.length = b.length) (i : Nat) : (ov a b).getD i 46 = if a.getD i 46 = 46 then b.getD i 46 else a.getD i 46 := by
  unfold ov
  by_cases hi : i < a.length
  · have hi2 : i < b.length := by omega
    rw [List.getD_eq_getElem?_getD, List.getElem?_zipWith, List.getD_eq_getElem?_getD, List.getD_eq_getElem?_getD, List.getElem?_eq_getElem hi, List.getElem?_eq_getElem hi2]
    rfl
  · have hi2 : ¬ i < b.length := by omega
    rw [List.getD_eq_getElem?_getD, List.getElem?_eq_none (by rw [List.length_zipWith]; omega), List.getD_eq_getElem?_getD, List.getD_eq_getElem?_getD, List.getElem?_eq_none (by omega), List.getElem?_eq_none (l := b) (by omega)]
    rfl
theorem blank_get (n i : Nat) : (List.replicate n 46).getD i 46 = 46 := by
  rw [List.getD_eq_getElem?_getD, List.getElem?_replicate]
  split <;> rfl
theorem ov_len2 {a b : List Nat} (h : a.length = b.length) : (ov a b).length = a.length := by rw [ov_len h, h]
theorem ov_assoc {a b c : List Nat} (h1 : a.length = b.length) (h2 : b.length = c.length) : ov (ov a b) c = ov a (ov b c) := by
  have l1 := ov_len h1
  have l2 := ov_len h2
  have l3 : (ov a b).length = c.length := by omega
  have l4 : a.length = (ov b c).length := by omega
  refine row_ext (by rw [ov_len l3, ov_len l4]; omega) fun i _ => ?_
  rw [ov_get l3, ov_get h1, ov_get l4, ov_get h2]
  split <;> simp_all
theorem ov_blank_l {n : Nat} {a : List Nat} (h : a.length = n) : ov (List.replicate n 46) a = a := by
  have l1 : (List.replicate n 46).length = a.length := by rw [List.length_replicate, h]
  refine row_ext (by rw [ov_len l1]) fun i _ => ?_
  rw [ov_get l1, blank_get, if_pos rfl]
theorem ov_blank_r {n : Nat} {a : List Nat} (h : a.length = n) : ov a (List.replicate n 46) = a := by
  have l1 : a.length = (List.replicate n 46).length := by rw [List.length_replicate, h]
  refine row_ext (by rw [ov_len2 l1]) fun i _ => ?_
  rw [ov_get l1, blank_get]
  split <;> simp_all
theorem rowB_get {cs : Cells} {r : List Nat} (h : rowB cs r = true) {i : Nat} (hi : i < cs.length) : r.getD i 0 ∈ sg.take ((cellD cs i).2 + 1) := of_decide_eq_true (List.all_eq_true.mp h i (List.mem_range.mpr hi))
theorem rowB_of {cs : Cells} {r : List Nat} (h : ∀ i, i < cs.length → r.getD i 0 ∈ sg.take ((cellD cs i).2 + 1)) : rowB cs r = true := List.all_eq_true.mpr fun i hi => decide_eq_true (h i (List.mem_range.mp hi))
theorem getD_any {r : List Nat} {i a b : Nat} (h : i < r.length) : r.getD i a = r.getD i b := by
  rw [List.getD_eq_getElem?_getD, List.getD_eq_getElem?_getD, List.getElem?_eq_getElem h] <;> rfl
theorem rowB_ov {cs : Cells} {a b : List Nat} (ha : a.length = cs.length) (hb : b.length = cs.length) (h1 : rowB cs a = true) (h2 : rowB cs b = true) : rowB cs (ov a b) = true := rowB_of fun i hi => by
  have l : (ov a b).length = cs.length := by rw [ov_len (by omega)]; exact hb
  rw [getD_any (b := 46) (by omega), ov_get (by omega)]
  split
  · rw [getD_any (b := 0) (by omega)]
    exact rowB_get h2 hi
  · rw [getD_any (b := 0) (by omega)]
    exact rowB_get h1 hi
theorem rowB_blank {cs : Cells} : rowB cs (List.replicate cs.length 46) = true := rowB_of fun i hi => by
  rw [getD_any (b := 46) (by rw [List.length_replicate]; exact hi), blank_get]
  unfold sg
  simp
/-- a seed -/
structure SeedOk (cs : Cells) (s : List Nat) : Prop where
  len : s.length = cs.length
  row : rowB cs s = true
  non : s ≠ List.replicate cs.length 46
theorem SeedOk.tells {cs : Cells} {s : List Nat} (h : SeedOk cs s) : ∃ i, i < cs.length ∧ s.getD i 46 ≠ 46 := by
  by_cases hx : ∃ i, i < cs.length ∧ s.getD i 46 ≠ 46
  · exact hx
  · exfalso
    refine h.non (row_ext (by rw [List.length_replicate]; exact h.len) fun i hi => ?_)
    rw [blank_get]
    by_cases e : s.getD i 46 = 46
    · exact e
    · exact absurd ⟨i, by rw [← h.len]; exact hi, e⟩ hx
/-! ### mended -/
theorem mendF_get (cs : Cells) (sown : List (List Nat)) (n : Nat) : ∀ (ks last : List Nat), (∀ k ∈ ks, k < n) → last.length = n → ∀ i, (mendF cs sown ks last).getD i 46 = if i ∈ ks ∧ (sown.all fun s => decide (s.getD i 46 = 46)) = true then dig (cellD cs i).2 else last.getD i 46
  | [], last, _, h, i => by
    unfold mendF
    simp
  | k :: ks, last, hk, h, i => by
    have hkn := hk k (List.mem_cons_self ..)
    unfold mendF
    rw [mendF_get cs sown n ks _ (fun x hx => hk x (List.mem_cons_of_mem _ hx)) (by
      split
      · rw [List.length_append, List.length_append, List.length_take, List.length_drop, List.length_singleton]
        omega
      · exact h)]
    have hset : ∀ c, (last.take k ++ [c] ++ last.drop (k + 1)).getD i 46 = if i = k then c else last.getD i 46 := fun c => by
      rw [getD_app, getD_app, List.length_append, List.length_take, List.length_singleton]
      have hm : min k last.length = k := by omega
      rw [hm]
      by_cases h1 : i < k
      · rw [if_pos (by omega), if_pos h1, if_neg (by omega)]
        rw [List.getD_eq_getElem?_getD, List.getElem?_take_of_lt h1, ← List.getD_eq_getElem?_getD]
      · by_cases h2 : i = k
        · subst h2
          rw [if_pos (by omega), if_neg (by omega), if_pos rfl]
          simp
        · rw [if_neg (by omega), if_neg h2, List.getD_eq_getElem?_getD, List.getElem?_drop, ← List.getD_eq_getElem?_getD]
          congr 1
          omega
    by_cases hik : i = k
    · subst hik
      by_cases hall : (sown.all fun s => decide (s.getD i 46 = 46)) = true
      · rw [if_pos hall, hset, if_pos rfl, if_pos (c := i ∈ i :: ks ∧ _) ⟨List.mem_cons_self .., hall⟩]
        split <;> rfl
      · rw [if_neg (fun h => hall h.2), if_neg hall, if_neg (fun h => hall h.2)]
    · have hm : (i ∈ k :: ks) ↔ i ∈ ks := by simp [hik]
      simp only [hm]
      split
      · rfl
      · split
        · rw [hset, if_neg hik]
        · rfl
theorem dig_ne (v : Nat) (h : 1 ≤ v) (h2 : v ≤ 4) : dig v ≠ 46 := by
  unfold dig
  omega
theorem dig_in (v : Nat) (h : 1 ≤ v) (h2 : v ≤ 4) : dig v ∈ sg.take (v + 1) := by
  have q := dig_get v h h2
  have q2 := dig_sg v (v - 1) h h2 (by omega)
  rw [List.getD_eq_getElem?_getD, q] at q2
  exact q2.1
structure SownOk (cs : Cells) (sown : List (List Nat)) : Prop where
  seed : ∀ s ∈ sown, SeedOk cs s
  nod : sown.Nodup
  cov : ∀ i, i < cs.length → ∃ s ∈ sown, s.getD i 46 ≠ 46
  non : sown ≠ []
theorem mended_len (cs : Cells) (ds : List (List Nat)) (h : ds ≠ []) : (mended cs ds).length = ds.length := by
  unfold mended
  rw [List.length_append, List.length_dropLast, List.length_singleton]
  have := List.length_pos_iff.mpr h
  omega
theorem mended_ok {cs : Cells} {ds : List (List Nat)} (ok : CellsOk cs) (hs : ∀ s ∈ ds, SeedOk cs s) (hn : ds.Nodup) (hne : ds ≠ []) : SownOk cs (mended cs ds) := by
  obtain ⟨L, hL⟩ : ∃ L, ds.getLast? = some L := ⟨_, List.getLast?_eq_some_getLast hne⟩
  have hds : ds = ds.dropLast ++ [L] := by
    obtain ⟨l, hl⟩ := List.getLast?_eq_some_iff.mp hL
    rw [hl, List.dropLast_concat]
  have hLm : L ∈ ds := List.mem_of_getLast? hL
  have hLo := hs L hLm
  have em : mended cs ds = ds.dropLast ++ [mendF cs ds (List.range cs.length) L] := by
    unfold mended
    rw [hL]
    rfl
  generalize hM : mendF cs ds (List.range cs.length) L = M at em
  have hMl : M.length = cs.length := by
    rw [← hM]
    exact mendF_len cs ds cs.length _ _ (fun k hk => List.mem_range.mp hk) hLo.len
  have hget : ∀ i, M.getD i 46 = if i < cs.length ∧ (ds.all fun s => decide (s.getD i 46 = 46)) = true then dig (cellD cs i).2 else L.getD i 46 := fun i => by
    have q := mendF_get cs ds cs.length (List.range cs.length) L (fun k hk => List.mem_range.mp hk) hLo.len i
    rw [hM] at q
    rw [q]
    simp only [List.mem_range]
  have hdot : ∀ i, (ds.all fun s => decide (s.getD i 46 = 46)) = true → ∀ s ∈ ds, s.getD i 46 = 46 := fun i h s hsm => of_decide_eq_true (List.all_eq_true.mp h s hsm)
  have hMok : SeedOk cs M := by
    refine ⟨hMl, rowB_of fun i hi => ?_, fun e => ?_⟩
    · rw [getD_any (b := 46) (by omega), hget]
      obtain ⟨v1, v4⟩ := ok.val i hi
      split
      · exact dig_in _ v1 v4
      · rw [getD_any (b := 0) (by rw [hLo.len]; exact hi)]
        exact rowB_get hLo.row hi
    · obtain ⟨i, hi, hne'⟩ := hLo.tells
      have q := hget i
      rw [e, blank_get, if_neg (fun h => hne' (hdot i h.2 L hLm))] at q
      exact hne' q.symm
  rw [em]
  have hsub : ∀ s ∈ ds.dropLast, s ∈ ds := fun s h => List.dropLast_subset _ h
  refine ⟨fun s h => ?_, ?_, fun i hi => ?_, by simp⟩
  · rcases List.mem_append.mp h with h | h
    · exact hs s (hsub s h)
    · rw [List.mem_singleton.mp h]
      exact hMok
  · have hnd : ds.dropLast.Nodup ∧ L ∉ ds.dropLast := by
      rw [hds] at hn
      have := List.nodup_append.mp hn
      exact ⟨this.1, fun hm => this.2.2 L hm L (List.mem_singleton.mpr rfl) rfl⟩
    refine List.nodup_append.mpr ⟨hnd.1, by simp, fun x hx y hy e => ?_⟩
    rw [List.mem_singleton.mp hy] at e
    subst e
    by_cases hch : ∃ i, i < cs.length ∧ (ds.all fun s => decide (s.getD i 46 = 46)) = true
    · obtain ⟨i, hi, hall⟩ := hch
      have q := hget i
      rw [if_pos ⟨hi, hall⟩, hdot i hall x (hsub x hx)] at q
      obtain ⟨v1, v4⟩ := ok.val i hi
      exact dig_ne _ v1 v4 q.symm
    · have : x = L := row_ext (by rw [hMl, hLo.len]) fun i hi => by
        rw [hget i, if_neg (fun h => hch ⟨i, h.1, h.2⟩)]
      rw [this] at hx
      exact hnd.2 hx
  · by_cases hall : (ds.all fun s => decide (s.getD i 46 = 46)) = true
    · refine ⟨M, List.mem_append_right _ (List.mem_singleton.mpr rfl), ?_⟩
      rw [hget, if_pos ⟨hi, hall⟩]
      obtain ⟨v1, v4⟩ := ok.val i hi
      exact dig_ne _ v1 v4
    · obtain ⟨s, hsm, hsn⟩ : ∃ s ∈ ds, s.getD i 46 ≠ 46 := by
        rw [List.all_eq_true] at hall
        by_cases hx : ∃ s ∈ ds, s.getD i 46 ≠ 46
        · exact hx
        · exfalso
          refine hall fun s hs => decide_eq_true ?_
          by_cases e : s.getD i 46 = 46
          · exact e
          · exact absurd ⟨s, hs, e⟩ hx
      rw [hds] at hsm
      rcases List.mem_append.mp hsm with h | h
      · exact ⟨s, List.mem_append_left _ h, hsn⟩
      · have e := List.mem_singleton.mp h
        subst e
        refine ⟨M, List.mem_append_right _ (List.mem_singleton.mpr rfl), ?_⟩
        rw [hget, if_neg (fun h => hall h.2)]
        exact hsn
/-! ### products of seeds -/
def prod (n : Nat) : List (List Nat) → List Nat
  | [] => List.replicate n 46
  | s :: ws => ov s (prod n ws)
theorem prod_len {n : Nat} : ∀ {ws : List (List Nat)}, (∀ s ∈ ws, s.length = n) → (prod n ws).length = n
  | [], _ => List.length_replicate
  | s :: ws, h => by
    have ih := prod_len (n := n) fun x hx => h x (List.mem_cons_of_mem _ hx)
    show (ov s (prod n ws)).length = n
    rw [ov_len (by rw [h s (List.mem_cons_self ..), ih]), ih]
theorem prod_snoc {n : Nat} {s : List Nat} (hs : s.length = n) : ∀ {ws : List (List Nat)}, (∀ s ∈ ws, s.length = n) → prod n (ws ++ [s]) = ov (prod n ws) s
  | [], _ => by
    show ov s (List.replicate n 46) = ov (List.replicate n 46) s
    rw [ov_blank_l hs, ov_blank_r hs]
  | x :: ws, h => by
    have hw : ∀ s ∈ ws, s.length = n := fun x hx => h x (List.mem_cons_of_mem _ hx)
    show ov x (prod n (ws ++ [s])) = ov (ov x (prod n ws)) s
    rw [prod_snoc hs hw, ov_assoc (by rw [h x (List.mem_cons_self ..), prod_len hw]) (by rw [prod_len hw, hs])]
/-- closed from the right: all products are in -/
theorem closed_r {n : Nat} {sown S : List (List Nat)} (hl : ∀ s ∈ sown, s.length = n) (h0 : List.replicate n 46 ∈ S) (hc : ∀ r ∈ S, ∀ s ∈ sown, ov r s ∈ S) : ∀ (m : Nat) (ws : List (List Nat)), ws.length = m → (∀ s ∈ ws, s ∈ sown) → prod n ws ∈ S
  | 0, ws, hm, _ => by
    rw [List.length_eq_zero_iff.mp hm]
    exact h0
  | m + 1, ws, hm, hw => by
    have hne : ws ≠ [] := fun e => by
      rw [e] at hm
      cases hm
    have e := List.dropLast_concat_getLast hne
    have q := prod_snoc (n := n) (hl _ (hw _ (List.getLast_mem hne))) (ws := ws.dropLast) fun s hs => hl s (hw s (List.dropLast_subset _ hs))
    rw [e] at q
    rw [q]
    exact hc _ (closed_r hl h0 hc m ws.dropLast (by rw [List.length_dropLast, hm]; rfl) fun s hs => hw s (List.dropLast_subset _ hs)) _ (hw _ (List.getLast_mem hne))
theorem closed_l {n : Nat} {sown S : List (List Nat)} (h0 : List.replicate n 46 ∈ S) (hc : ∀ r ∈ S, ∀ s ∈ sown, ov s r ∈ S) : ∀ (ws : List (List Nat)), (∀ s ∈ ws, s ∈ sown) → prod n ws ∈ S
  | [], _ => h0
  | s :: ws, hw => hc _ (closed_l h0 hc ws fun x hx => hw x (List.mem_cons_of_mem _ hx)) s (hw s (List.mem_cons_self ..))
def IsProd (n : Nat) (sown : List (List Nat)) (r : List Nat) : Prop := ∃ ws, (∀ s ∈ ws, s ∈ sown) ∧ r = prod n ws
/-! #### the law's closure -/
structure CloInv (n : Nat) (sown : List (List Nat)) (k : Nat) (fd : List (List Nat)) : Prop where
  head : fd.getD 0 [] = List.replicate n 46
  pos : 0 < fd.length
  nod : fd.Nodup
  prd : ∀ r ∈ fd, IsProd n sown r
  clo : ∀ j, j < k → j < fd.length → ∀ s ∈ sown, ov (fd.getD j []) s ∈ fd
theorem stepL_props (n : Nat) (sown : List (List Nat)) (r0 : List Nat) (hl : ∀ s ∈ sown, s.length = n) (h0 : IsProd n sown r0) : ∀ (ss fd : List (List Nat)), (∀ s ∈ ss, s ∈ sown) → fd.Nodup → (∀ r ∈ fd, IsProd n sown r) →
    (ss.foldl (stepL r0) fd).Nodup ∧ (∀ r ∈ ss.foldl (stepL r0) fd, IsProd n sown r) ∧ (∃ tl, ss.foldl (stepL r0) fd = fd ++ tl) ∧ ∀ s ∈ ss, ov r0 s ∈ ss.foldl (stepL r0) fd
  | [], fd, _, h1, h2 => ⟨h1, h2, ⟨[], by simp⟩, fun s hs => absurd hs (List.not_mem_nil)⟩
  | s :: ss, fd, hss, h1, h2 => by
    have hs := hss s (List.mem_cons_self ..)
    have hstep : (stepL r0 fd s).Nodup ∧ (∀ r ∈ stepL r0 fd s, IsProd n sown r) ∧ (∃ tl, stepL r0 fd s = fd ++ tl) ∧ ov r0 s ∈ stepL r0 fd s := by
      unfold stepL
      split
      · rename_i hm
        exact ⟨h1, h2, ⟨[], by simp⟩, hm⟩
      · rename_i hm
        refine ⟨List.nodup_append.mpr ⟨h1, by simp, fun x hx y hy e => ?_⟩, fun r hr => ?_, ⟨_, rfl⟩, List.mem_append_right _ (List.mem_singleton.mpr rfl)⟩
        · rw [List.mem_singleton.mp hy] at e
          exact hm (e ▸ hx)
        · rcases List.mem_append.mp hr with hr | hr
          · exact h2 r hr
          · obtain ⟨ws, hw, hp⟩ := h0
            refine ⟨ws ++ [s], fun x hx => ?_, ?_⟩
            · rcases List.mem_append.mp hx with hx | hx
              · exact hw x hx
              · rw [List.mem_singleton.mp hx]
                exact hs
            · rw [List.mem_singleton.mp hr, prod_snoc (hl s hs) (fun x hx => hl x (hw x hx)), hp]
    obtain ⟨a1, a2, ⟨t1, a3⟩, a4⟩ := hstep
    obtain ⟨b1, b2, ⟨t2, b3⟩, b4⟩ := stepL_props n sown r0 hl h0 ss (stepL r0 fd s) (fun x hx => hss x (List.mem_cons_of_mem _ hx)) a1 a2
    refine ⟨b1, b2, ⟨t1 ++ t2, ?_⟩, fun x hx => ?_⟩
    · show ss.foldl (stepL r0) (stepL r0 fd s) = _
      rw [b3, a3, List.append_assoc]
    · show ov r0 x ∈ ss.foldl (stepL r0) (stepL r0 fd s)
      rcases List.mem_cons.mp hx with hx | hx
      · rw [hx, b3]
        exact List.mem_append_left _ a4
      · exact b4 x hx
theorem getD_appL {l m : List (List Nat)} {i : Nat} (h : i < l.length) : (l ++ m).getD i [] = l.getD i [] := by
  rw [List.getD_eq_getElem?_getD, List.getElem?_append_left h, ← List.getD_eq_getElem?_getD]
theorem clo_inv_step {n : Nat} {sown : List (List Nat)} (hl : ∀ s ∈ sown, s.length = n) {k : Nat} {fd : List (List Nat)} (I : CloInv n sown k fd) (hk : k < fd.length) : CloInv n sown (k + 1) (sown.foldl (stepL (fd.getD k [])) fd) := by
  have hmem : ∀ j, j < fd.length → fd.getD j [] ∈ fd := fun j hj => by
    rw [List.getD_eq_getElem?_getD, List.getElem?_eq_getElem hj]
    exact List.getElem_mem hj
  obtain ⟨b1, b2, ⟨tl, b3⟩, b4⟩ := stepL_props n sown (fd.getD k []) hl (I.prd _ (hmem k hk)) sown fd (fun s hs => hs) I.nod I.prd
  refine ⟨?_, ?_, b1, b2, fun j hj hjl s hs => ?_⟩
  · rw [b3, getD_appL I.pos]
    exact I.head
  · rw [b3, List.length_append]
    have := I.pos
    omega
  · by_cases hjk : j = k
    · subst hjk
      have e : (sown.foldl (stepL (fd.getD j [])) fd).getD j [] = fd.getD j [] := by rw [b3, getD_appL hk]
      rw [e]
      exact b4 s hs
    · have e : (sown.foldl (stepL (fd.getD k [])) fd).getD j [] = fd.getD j [] := by rw [b3, getD_appL (by omega)]
      rw [e, b3]
      exact List.mem_append_left _ (I.clo j (by omega) (by omega) s hs)
theorem clo_spec {n cap : Nat} {sown : List (List Nat)} (hl : ∀ s ∈ sown, s.length = n) : ∀ (f k : Nat) (fd res : List (List Nat)), CloInv n sown k fd → fd.length ≤ cap → clo sown cap f k fd = some res → CloInv n sown (f + k) res ∧ res.length ≤ cap
  | 0, k, fd, res, I, h1, h => by
    have e := Option.some.inj (show some fd = some res from h)
    subst e
    rw [Nat.zero_add]
    exact ⟨I, h1⟩
  | f + 1, k, fd, res, I, h1, h => by
    have hfk : f + 1 + k = f + (k + 1) := by omega
    rw [hfk]
    unfold clo at h
    by_cases hk : k < fd.length
    · rw [if_pos hk] at h
      by_cases hc : (sown.foldl (stepL (fd.getD k [])) fd).length > cap
      · rw [if_pos hc] at h
        cases h
      · rw [if_neg hc] at h
        exact clo_spec hl f (k + 1) _ res (clo_inv_step hl I hk) (by omega) h
    · rw [if_neg hk] at h
      exact clo_spec hl f (k + 1) fd res ⟨I.head, I.pos, I.nod, I.prd, fun j hj hjl => I.clo j (by omega) hjl⟩ h1 h
end Nt
end
section
set_option Elab.async false
set_option linter.all false
set_option maxRecDepth 100000
set_option maxHeartbeats 4000000
namespace Nt
open PySem PySem.Spec PyProof.Rows L2 Evl SX
theorem ov_idem : ∀ (a r : List Nat), ov a (ov a r) = ov a r
  | [], _ => rfl
  | _ :: _, [] => rfl
  | x :: a, y :: r => by
    show (if x = 46 then (if x = 46 then y else x) else x) :: ov a (ov a r) = (if x = 46 then y else x) :: ov a r
    rw [ov_idem a r]
    by_cases h : x = 46 <;> simp [h]
theorem ov_nil (a : List Nat) : ov a [] = [] := by cases a <;> rfl
theorem ov_abs : ∀ (a b r : List Nat), ov a (ov b (ov a r)) = ov a (ov b r)
  | [], _, _ => rfl
  | _ :: _, [], _ => rfl
  | _ :: _, _ :: _, [] => rfl
  | x :: a, y :: b, z :: r => by
    show (if x = 46 then (if y = 46 then (if x = 46 then z else x) else y) else x) :: ov a (ov b (ov a r)) = (if x = 46 then (if y = 46 then z else y) else x) :: ov a (ov b r)
    rw [ov_abs a b r]
    by_cases h : x = 46 <;> simp [h]
theorem ov_abs3 : ∀ (a b c r : List Nat), ov a (ov b (ov c (ov a r))) = ov a (ov b (ov c r))
  | [], _, _, _ => rfl
  | _ :: _, [], _, _ => rfl
  | _ :: _, _ :: _, [], _ => rfl
  | _ :: _, _ :: _, _ :: _, [] => rfl
  | x :: a, y :: b, z :: c, t :: r => by
    show (if x = 46 then (if y = 46 then (if z = 46 then (if x = 46 then t else x) else z) else y) else x) :: ov a (ov b (ov c (ov a r))) = (if x = 46 then (if y = 46 then (if z = 46 then t else z) else y) else x) :: ov a (ov b (ov c r))
    rw [ov_abs3 a b c r]
    by_cases h : x = 46 <;> simp [h]
/-- the products of three seeds -/
def P16 (n : Nat) (a b c : List Nat) : List (List Nat) := [[], [a], [b], [c], [a, b], [a, c], [b, a], [b, c], [c, a], [c, b], [a, b, c], [a, c, b], [b, a, c], [b, c, a], [c, a, b], [c, b, a]].map (prod n)
theorem P16_in {n : Nat} {a b c : List Nat} {ws : List (List Nat)} (hw : ∀ s ∈ ws, s = a ∨ s = b ∨ s = c) : prod n ws ∈ P16 n a b c := by
  refine closed_l (sown := [a, b, c]) (by simp [P16, prod]) (fun r hr s hs => ?_) ws fun s hs => by simpa using hw s hs
  simp only [P16, List.map_cons, List.map_nil, List.mem_cons, List.not_mem_nil, or_false, prod] at hr hs ⊢
  rcases hs with rfl | rfl | rfl <;> rcases hr with rfl | rfl | rfl | rfl | rfl | rfl | rfl | rfl | rfl | rfl | rfl | rfl | rfl | rfl | rfl | rfl <;> simp [ov_idem, ov_abs, ov_abs3]
theorem three {sown : List (List Nat)} (h : sown.length ≤ 3) : ∃ a b c, ∀ s ∈ sown, s = a ∨ s = b ∨ s = c := by
  match sown, h with
  | [], _ => exact ⟨[], [], [], fun s hs => absurd hs List.not_mem_nil⟩
  | [a], _ => exact ⟨a, a, a, fun s hs => by simpa using hs⟩
  | [a, b], _ => exact ⟨a, b, b, fun s hs => by simpa using hs⟩
  | [a, b, c], _ => exact ⟨a, b, c, fun s hs => by simpa using hs⟩
theorem clo_some {n : Nat} {sown : List (List Nat)} (hl : ∀ s ∈ sown, s.length = n) (h3 : sown.length ≤ 3) : ∀ (f k : Nat) (fd : List (List Nat)), CloInv n sown k fd → clo sown 40 f k fd ≠ none
  | 0, k, fd, I => fun h => by cases (show some fd = none from h)
  | f + 1, k, fd, I => by
    unfold clo
    by_cases hk : k < fd.length
    · rw [if_pos hk]
      have I2 := clo_inv_step hl I hk
      obtain ⟨a, b, c, habc⟩ := three h3
      have q := nodup_sub_len _ (P16 n a b c) I2.nod fun x hx => by
        obtain ⟨ws, hw, rfl⟩ := I2.prd x hx
        exact P16_in fun s hs => habc s (hw s hs)
      have q2 : (P16 n a b c).length = 16 := rfl
      rw [if_neg (by omega)]
      exact clo_some hl h3 f (k + 1) _ I2
    · rw [if_neg hk]
      exact clo_some hl h3 f (k + 1) fd ⟨I.head, I.pos, I.nod, I.prd, fun j hj hjl => I.clo j (by omega) hjl⟩
theorem CloInv.start {n : Nat} {sown : List (List Nat)} : CloInv n sown 0 [List.replicate n 46] := ⟨rfl, by simp, by simp, fun r hr => ⟨[], fun s hs => absurd hs List.not_mem_nil, by
  rw [List.mem_singleton.mp hr]
  rfl⟩, fun j hj => absurd hj (Nat.not_lt_zero j)⟩
/-! #### the band's closure -/
structure GrowInv (n : Nat) (sown : List (List Nat)) (k : Nat) (fd : List (List Nat)) : Prop where
  blank : List.replicate n 46 ∈ fd
  nod : fd.Nodup
  prd : ∀ r ∈ fd, IsProd n sown r
  clo : ∀ j, j < k → j < fd.length → ∀ s ∈ sown, ov s (fd.getD j []) ∈ fd
theorem stepR_props (n : Nat) (sown : List (List Nat)) (r0 : List Nat) (h0 : IsProd n sown r0) : ∀ (ss fd : List (List Nat)), (∀ s ∈ ss, s ∈ sown) → fd.Nodup → (∀ r ∈ fd, IsProd n sown r) →
    (ss.foldl (stepR r0) fd).Nodup ∧ (∀ r ∈ ss.foldl (stepR r0) fd, IsProd n sown r) ∧ (∃ tl, ss.foldl (stepR r0) fd = fd ++ tl) ∧ ∀ s ∈ ss, ov s r0 ∈ ss.foldl (stepR r0) fd
  | [], fd, _, h1, h2 => ⟨h1, h2, ⟨[], by simp⟩, fun s hs => absurd hs (List.not_mem_nil)⟩
  | s :: ss, fd, hss, h1, h2 => by
    have hs := hss s (List.mem_cons_self ..)
    have hstep : (stepR r0 fd s).Nodup ∧ (∀ r ∈ stepR r0 fd s, IsProd n sown r) ∧ (∃ tl, stepR r0 fd s = fd ++ tl) ∧ ov s r0 ∈ stepR r0 fd s := by
      unfold stepR
      split
      · rename_i hm
        exact ⟨h1, h2, ⟨[], by simp⟩, hm⟩
      · rename_i hm
        refine ⟨List.nodup_append.mpr ⟨h1, by simp, fun x hx y hy e => ?_⟩, fun r hr => ?_, ⟨_, rfl⟩, List.mem_append_right _ (List.mem_singleton.mpr rfl)⟩
        · rw [List.mem_singleton.mp hy] at e
          exact hm (e ▸ hx)
        · rcases List.mem_append.mp hr with hr | hr
          · exact h2 r hr
          · obtain ⟨ws, hw, hp⟩ := h0
            refine ⟨s :: ws, fun x hx => ?_, ?_⟩
            · rcases List.mem_cons.mp hx with hx | hx
              · rw [hx]
                exact hs
              · exact hw x hx
            · rw [List.mem_singleton.mp hr, hp]
              rfl
    obtain ⟨a1, a2, ⟨t1, a3⟩, a4⟩ := hstep
    obtain ⟨b1, b2, ⟨t2, b3⟩, b4⟩ := stepR_props n sown r0 h0 ss (stepR r0 fd s) (fun x hx => hss x (List.mem_cons_of_mem _ hx)) a1 a2
    refine ⟨b1, b2, ⟨t1 ++ t2, ?_⟩, fun x hx => ?_⟩
    · show ss.foldl (stepR r0) (stepR r0 fd s) = _
      rw [b3, a3, List.append_assoc]
    · show ov x r0 ∈ ss.foldl (stepR r0) (stepR r0 fd s)
      rcases List.mem_cons.mp hx with hx | hx
      · rw [hx, b3]
        exact List.mem_append_left _ a4
      · exact b4 x hx
theorem grow_inv_step {n : Nat} {sown : List (List Nat)} {k : Nat} {fd : List (List Nat)} (I : GrowInv n sown k fd) (hk : k < fd.length) : GrowInv n sown (k + 1) (sown.foldl (stepR (fd.getD k [])) fd) := by
  have hmem : ∀ j, j < fd.length → fd.getD j [] ∈ fd := fun j hj => by
    rw [List.getD_eq_getElem?_getD, List.getElem?_eq_getElem hj]
    exact List.getElem_mem hj
  obtain ⟨b1, b2, ⟨tl, b3⟩, b4⟩ := stepR_props n sown (fd.getD k []) (I.prd _ (hmem k hk)) sown fd (fun s hs => hs) I.nod I.prd
  refine ⟨?_, b1, b2, fun j hj hjl s hs => ?_⟩
  · rw [b3]
    exact List.mem_append_left _ I.blank
  · by_cases hjk : j = k
    · subst hjk
      have e : (sown.foldl (stepR (fd.getD j [])) fd).getD j [] = fd.getD j [] := by rw [b3, getD_appL hk]
      rw [e]
      exact b4 s hs
    · have e : (sown.foldl (stepR (fd.getD k [])) fd).getD j [] = fd.getD j [] := by rw [b3, getD_appL (by omega)]
      rw [e, b3]
      exact List.mem_append_left _ (I.clo j (by omega) (by omega) s hs)
theorem grow_spec {n : Nat} {sown : List (List Nat)} {B : Nat} (hB : ∀ fd : List (List Nat), fd.Nodup → (∀ r ∈ fd, IsProd n sown r) → fd.length ≤ B) (hB2 : B ≤ 800) : ∀ (f k : Nat) (fd : List (List Nat)), GrowInv n sown k fd → B < f + k → GrowInv n sown (grow sown 800 f k fd).length (grow sown 800 f k fd)
  | 0, k, fd, I, h => by
    have q := hB fd I.nod I.prd
    exact ⟨I.blank, I.nod, I.prd, fun j _ hj => I.clo j (by have : j < fd.length := hj; omega) hj⟩
  | f + 1, k, fd, I, h => by
    have q := hB fd I.nod I.prd
    unfold grow
    by_cases hk : k < fd.length
    · rw [if_pos ⟨hk, by omega⟩]
      exact grow_spec hB hB2 f (k + 1) _ (grow_inv_step I hk) (by omega)
    · rw [if_neg (fun h => hk h.1)]
      exact ⟨I.blank, I.nod, I.prd, fun j hj hjl => I.clo j (by omega) hjl⟩
/-- the drawn home: cells, seeds, rows -/
structure HomeOk (cs : Cells) (sown kept : List (List Nat)) : Prop where
  ok : CellsOk cs
  so : SownOk cs sown
  few : sown.length ≤ 7
  head : kept.getD 0 [] = List.replicate cs.length 46
  pos : 0 < kept.length
  most : kept.length ≤ 40
  nod : kept.Nodup
  row : ∀ r ∈ kept, r.length = cs.length ∧ rowB cs r = true
  cont : ∀ s ∈ sown, s ∈ kept
  same : ∀ r, r ∈ kept ↔ r ∈ grow sown 800 1000 0 [List.replicate cs.length 46]
  small : (grow sown 800 1000 0 [List.replicate cs.length 46]).length < 64
theorem prod_rowB {cs : Cells} : ∀ {ws : List (List Nat)}, (∀ s ∈ ws, s.length = cs.length ∧ rowB cs s = true) → (prod cs.length ws).length = cs.length ∧ rowB cs (prod cs.length ws) = true
  | [], _ => ⟨List.length_replicate, rowB_blank⟩
  | s :: ws, h => by
    obtain ⟨i1, i2⟩ := prod_rowB (ws := ws) fun x hx => h x (List.mem_cons_of_mem _ hx)
    obtain ⟨j1, j2⟩ := h s (List.mem_cons_self ..)
    exact ⟨by
      show (ov s (prod cs.length ws)).length = cs.length
      rw [ov_len (by omega)]
      exact i1, rowB_ov j1 i1 j2 i2⟩
theorem home_ok {cs : Cells} {sown turned kept : List (List Nat)} (ok : CellsOk cs) (hs : SownOk cs sown) (few : sown.length ≤ 7) (hk : clo sown 40 41 0 [List.replicate cs.length 46] = some kept) (ht : SownOk cs turned) (hm : ∀ s, s ∈ turned ↔ s ∈ sown) (hf : turned.length ≤ 7) : HomeOk cs turned kept := by
  have hl : ∀ s ∈ sown, s.length = cs.length := fun s h => (hs.seed s h).len
  obtain ⟨I, h40⟩ := clo_spec hl 41 0 _ kept CloInv.start (by simp) hk
  have hmem : ∀ r ∈ kept, ∃ j, j < kept.length ∧ kept.getD j [] = r := fun r hr => by
    obtain ⟨j, hj, e⟩ := List.getElem_of_mem hr
    exact ⟨j, hj, by rw [List.getD_eq_getElem?_getD, List.getElem?_eq_getElem hj, ← e] <;> rfl⟩
  have h0 : List.replicate cs.length 46 ∈ kept := by
    have q := I.head
    rw [← q, List.getD_eq_getElem?_getD, List.getElem?_eq_getElem I.pos]
    exact List.getElem_mem I.pos
  have hcl : ∀ r ∈ kept, ∀ s ∈ sown, ov r s ∈ kept := fun r hr s hss => by
    obtain ⟨j, hj, e⟩ := hmem r hr
    rw [← e]
    exact I.clo j (by omega) hj s hss
  have hall : ∀ ws, (∀ s ∈ ws, s ∈ sown) → prod cs.length ws ∈ kept := fun ws hw => closed_r hl h0 hcl _ ws rfl hw
  have hB : ∀ fd : List (List Nat), fd.Nodup → (∀ r ∈ fd, IsProd cs.length turned r) → fd.length ≤ 40 := fun fd hn hp => by
    have := nodup_sub_len fd kept hn fun x hx => by
      obtain ⟨ws, hw, rfl⟩ := hp x hx
      exact hall ws fun s h => (hm s).mp (hw s h)
    omega
  have G := grow_spec (n := cs.length) (sown := turned) hB (by decide) 1000 0 [List.replicate cs.length 46] ⟨by simp, by simp, fun r hr => ⟨[], fun s hs => absurd hs List.not_mem_nil, by
    rw [List.mem_singleton.mp hr]
    rfl⟩, fun j hj => absurd hj (Nat.not_lt_zero j)⟩ (by decide)
  have hG := hB _ G.nod G.prd
  refine ⟨ok, ht, hf, I.head, I.pos, h40, I.nod, fun r hr => ?_, fun s h => ?_, fun r => ⟨fun hr => ?_, fun hr => ?_⟩, by omega⟩
  · obtain ⟨ws, hw, rfl⟩ := I.prd r hr
    exact prod_rowB fun s h => ⟨hl s (hw s h), (hs.seed s (hw s h)).row⟩
  · have q := hall [s] fun x hx => by
      rw [List.mem_singleton.mp hx]
      exact (hm s).mp h
    have e : prod cs.length [s] = s := ov_blank_r ((ht.seed s h).len)
    rw [e] at q
    exact q
  · obtain ⟨ws, hw, rfl⟩ := I.prd r hr
    refine closed_l (sown := turned) G.blank (fun r hr s hss => ?_) ws fun s h => (hm s).mpr (hw s h)
    obtain ⟨j, hj, e⟩ := List.getElem_of_mem hr
    have e2 : (grow turned 800 1000 0 [List.replicate cs.length 46]).getD j [] = r := by rw [List.getD_eq_getElem?_getD, List.getElem?_eq_getElem hj, ← e] <;> rfl
    rw [← e2]
    exact G.clo j hj hj s hss
  · obtain ⟨ws, hw, rfl⟩ := G.prd r hr
    exact hall ws fun s h => (hm s).mp (hw s h)
/-- turned seeds -/
theorem turn_ok {cs : Cells} {sown : List (List Nat)} (h : SownOk cs sown) (t : Nat) : SownOk cs (sown.drop t ++ sown.take t) ∧ (∀ s, s ∈ sown.drop t ++ sown.take t ↔ s ∈ sown) ∧ (sown.drop t ++ sown.take t).length = sown.length := by
  have hm : ∀ s, s ∈ sown.drop t ++ sown.take t ↔ s ∈ sown := fun s => by
    rw [List.mem_append, Or.comm, ← List.mem_append, List.take_append_drop]
  refine ⟨⟨fun s hs => h.seed s ((hm s).mp hs), ?_, fun i hi => ?_, fun e => ?_⟩, hm, ?_⟩
  · have q := h.nod
    rw [← List.take_append_drop t sown, List.nodup_append] at q
    exact List.nodup_append.mpr ⟨q.2.1, q.1, fun a ha b hb e => q.2.2 b hb a ha e.symm⟩
  · obtain ⟨s, hs, hn⟩ := h.cov i hi
    exact ⟨s, (hm s).mpr hs, hn⟩
  · obtain ⟨x, hx⟩ := List.exists_mem_of_ne_nil _ h.non
    have := (hm x).mpr hx
    rw [e] at this
    cases this
  · rw [List.length_append, List.length_drop, List.length_take]
    omega
end Nt
end
section
set_option Elab.async false
set_option linter.all false
set_option maxRecDepth 100000
set_option maxHeartbeats 4000000
namespace Nt
open PySem PySem.Spec PyProof.Rows L2 Evl SX
theorem bag_ne {H : Hp} {b l0 p : Addr} (B : BagAt H b l0) (h : H p = none) : p ≠ b := by
  obtain ⟨_, _, _, _, _, h1, _⟩ := B
  exact (ne_of_none h1 h).symm
theorem bag_hid_none {H : Hp} {b l0 p : Addr} (B : BagAt H b l0) (h : H p = none) : hid b H p = none := by
  unfold hid
  rw [if_neg (bag_ne B h)]
  exact h
theorem cells_hid {H : Hp} {b l0 cl : Addr} {cs : Cells} (h : CellsAt H cl cs) (B : BagAt H b l0) (n : cl ≠ b) : CellsAt (hid b H) cl cs := by
  obtain ⟨ts, h1, h2⟩ := h
  refine ⟨ts, hid_at h1 n, fun i hi => hid_at (h2 i hi) fun e => ?_⟩
  obtain ⟨_, _, _, _, _, g1, _⟩ := B
  have q := h2 i hi
  rw [e, g1] at q
  cases q
theorem BagAt.upd {H : Hp} {b l0 l : Addr} {xs : List V} (B : BagAt H b l0) (h1 : l ≠ b) (h2 : l ≠ l0) : BagAt (upd H l (.lst xs)) b l0 := by
  obtain ⟨ns, a1, a2, a3, a4, g1, g2, g3⟩ := B
  exact ⟨ns, a1, a2, a3, a4, by rw [upd_ne h1.symm]; exact g1, by rw [upd_ne h2.symm]; exact g2, g3⟩
theorem bag_ne0 {H : Hp} {b l0 p : Addr} (B : BagAt H b l0) (h : H p = none) : p ≠ l0 := by
  obtain ⟨_, _, _, _, _, _, h2, _⟩ := B
  exact (ne_of_none h2 h).symm
def nilH : Hp := fun _ => none
theorem nil_ex (H : Hp) : Ex nilH H := fun a o h => by cases h
section
variable {K : PySem.W.Frag} {σ : L2.St} {W H H' : Hp} {ta ta2 tb tc te tl : TE} {x y z v : V} {D : Ends} {tu tz : TS} {g : TG} {wi : TI} {b l0 : Addr} {E E' : XK}
/-- a loop over a count that is drawn -/
theorem s_forP {P : Nat → Hp → Prop} {τ : Nat → L2.St → L2.St} (h : ∀ R : It → Hp → Prop, (∀ J n H1, P n H1 → Feeds J g nilH n τ → R J H1) → wi σ H R) (Pv : Nat → Nat → L2.St → Hp → Prop) (h0 : ∀ n H1, P n H1 → Pv n 0 σ H1)
    (hs : ∀ n i σ' H', i < n → Pv n i σ' H' → ∀ H1, Ex H' H1 → tu { D with nx := Pv n (i + 1), ct := Pv n (i + 1), bk := D.nx } (τ i σ') H1) (hd : ∀ n σ' H', Pv n n σ' H' → D.nx σ' H') : tFor wi g tu D σ H :=
  h _ fun J n H1 hP F => by
  refine ⟨fun i m σ' H' => m = n - i ∧ i ≤ n ∧ Pv n i σ' H', ⟨n, by simp, Nat.zero_le _, h0 n H1 hP⟩, fun i m σ' H' hI => ?_⟩
  obtain ⟨rfl, hi, p⟩ := hI
  by_cases hlt : i < n
  · refine Or.inr ⟨F.go i H' (nil_ex _) hlt, Pv n (i + 1), fun σ2 H2 p' => ⟨n - (i + 1), by omega, rfl, hlt, p'⟩, fun x H2 y => ?_⟩
    obtain ⟨e2, k⟩ := F.yld i H' x H2 (nil_ex _) hlt y
    exact k _ _ (hs n i σ' H' hlt p H2 e2)
  · have e : i = n := by omega
    subst e
    exact Or.inl ⟨F.stop H' (nil_ex _), hd i σ' H' p⟩
theorem q_forP {P : Nat → Hp → Prop} {τ : Nat → L2.St → L2.St} (h : ∀ R : It → Hp → Prop, (∀ J n H1, P n H1 → Feeds J g nilH n τ → R J H1) → wi σ H R) (Pv : Nat → Nat → L2.St → Hp → Prop) (h0 : ∀ n H1, P n H1 → Pv n 0 σ H1)
    (hs : ∀ n i σ' H', i < n → Pv n i σ' H' → ∀ H1, Ex H' H1 → tu { D with nx := Pv n (i + 1), ct := Pv n (i + 1), bk := tz D } (τ i σ') H1) (hd : ∀ n σ' H', Pv n n σ' H' → tz D σ' H') : tSeq (tFor wi g tu) tz D σ H :=
  s_forP (D := { D with nx := tz D }) h Pv h0 hs hd
theorem p_rng1 {P : Nat → Hp → Prop} {j : Nat} (h : EvP te σ H (fun v H1 => ∃ n : Nat, v = .int (n : Int) ∧ n < 100000 ∧ P n H1)) : ∀ R : It → Hp → Prop, (∀ J n H1, P n H1 → Feeds J (gName j) nilH n (fun i σ => σ.set j (some (.int (i : Int)))) → R J H1) → iRng1 (tCons te tNil) σ H R := fun R r =>
  h _ fun v H1 hv => by
    obtain ⟨n, rfl, hn, p⟩ := hv
    refine ⟨n, rfl, by omega, by omega, ?_⟩
    rw [Int.toNat_natCast]
    refine r _ n H1 p ?_
    have F : Feeds (Itr 0 n) (gName j) nilH n (fun i σ => σ.set j (some (.int (0 + (i : Int))))) := fd_range
    simpa using F
theorem p_frame {ns : List Nat} (ha : Ev ta σ H (.ref b)) (ha2 : Ev ta2 σ H (.ref b)) (hl : EvL tl σ H (ns.map fun n : Nat => V.int (n : Int))) (hW : Ex W H) (wb : W b = none) (B : BagAt H b l0) (ok : ∀ n ∈ ns, 1 ≤ n ∧ n ≤ 12) (i1 : 1 ≤ ns.length) (i2 : ns.length ≤ 1000) :
    EvP (tCall spFrame [] E (tCons ta (tCons (tCall spOf [] E' (tCons ta2 (tCons tl tNil))) tNil))) σ H (fun v H2 => ∃ p cs, v = .ref p ∧ CellsAt (hid b H2) p cs ∧ CellsOk cs ∧ Ex W H2 ∧ BagAt H2 b l0) := fun Q q =>
  ha H (Ex.refl H) _ fun H1 e1 => p_of (W := W) (ha2.mono e1) (hl.mono e1) (hW.trans e1) wb (B.ex e1) (by rw [List.length_map]; exact i1) (by rw [List.length_map]; exact i2) _ fun v H2 hv => by
    obtain ⟨hm, e2, B2⟩ := hv
    obtain ⟨n, hn, rfl⟩ := List.mem_map.mp hm
    exact ⟨b, l0, n, rfl, (ok n hn).1, (ok n hn).2, B2, fun p H3 cs np e3 B3 hc hk hl => q _ H3 ⟨p, cs, rfl, cells_hid hc B3 (bag_ne B2 np), hk, (to_hid e2 wb).trans e3, B3⟩⟩
theorem p_seed {cl : Addr} {cs : Cells} {sh : Int} (ha : Ev ta σ H (.ref b)) (hb : Ev tb σ H (.ref cl)) (hc : Ev tc σ H (.int sh)) (hW : Ex W H) (wb : W b = none) (B : BagAt H b l0) (C : CellsAt W cl cs) (ok : CellsOk cs) :
    EvP (tCall spSeed [] E (tCons ta (tCons tb (tCons tc tNil)))) σ H (fun v H2 => ∃ s, v = vS s ∧ SeedOk cs s ∧ Ex W H2 ∧ BagAt H2 b l0) := fun Q q =>
  ha H (Ex.refl H) _ fun H1 e1 => hb H1 e1 _ fun H2 e2 => hc H2 (e1.trans e2) _ fun H3 e3 => by
    have e13 := (hW.trans e1).trans (e2.trans e3)
    exact ⟨b, l0, cl, cs, sh, rfl, B.ex (e1.trans (e2.trans e3)), C.ex (to_hid e13 wb), ok, fun s H4 h1 h2 h3 e4 B4 => q _ H4 ⟨s, rfl, ⟨h1, h2, h3⟩, (to_hid e13 wb).trans e4, B4⟩⟩
theorem el_call2L {sp : Sp} {dvs xs ys : List V} (h1 : Ev ta σ H x) (h2 : EvL tb σ H xs) (hs : ∀ p H1, Ex H H1 → H1 p = some (.lst xs) → SpL sp ([x, .ref p] ++ dvs) H1 ys) : EvL (tCall sp dvs E (tCons ta (tCons tb tNil))) σ H ys := fun H1 e Q q =>
  h1 H1 e _ fun H2 e2 => h2 H2 (e.trans e2) _ fun p H3 np e3 hp => hs p H3 (e.trans (e2.trans e3)) hp H3 (Ex.refl H3) Q (fun r H4 nr e4 hr => q r H4 (fresh_back (e2.trans e3) nr) (e2.trans (e3.trans e4)) hr) E
theorem s_ret3L {xs : List V} (h1 : Ev ta σ H x) (h2 : EvL tb σ H xs) (h3 : Ev tc σ H z) (k : ∀ q p H1, H q = none → Ex H H1 → H1 q = some (.lst xs) → H1 p = none → D.rt (.ref p) (upd H1 p (.lst [x, .ref q, z]))) : tRet (tLst (tCons ta (tCons tb (tCons tc tNil)))) D σ H :=
  h1 H (Ex.refl H) _ fun H1 e1 => h2 H1 e1 _ fun q H2 nq e2 hq => h3 H2 (e1.trans e2) _ fun H3 e3 => ⟨by show 3 ≤ sizeLine; decide, fun p hp => k q p H3 (fresh_back e1 nq) ((e1.trans e2).trans e3) (e3 _ _ hq) hp⟩
end
def ofI (v : V) (xs : List Int) : Prop := ∃ i, i ∈ xs ∧ v = .int i
section
variable {P : Program} {w : World} {K : PySem.W.Frag} {mg : Str → Option Value} {base : Heap} {A : Ad}
abbrev n_whome : List Str := ["_law_bag_here", "_law_frame_here", "_law_share", "_law_drawn", "_law_kept", "_law_k", "_law_line_here", "_law_sown", "_law_count", "_law_turn"]
theorem sc_whome : FnScope n_whome ["_law_bag_here"] (defScope s_whome) := ⟨rfl, rfl, rfl, by decide +kernel, rfl, by decide +kernel, by decide +kernel⟩
/-- what the home is: W stands whatever is drawn -/
structure HomeAt (W : Hp) (cl sw kp : Addr) (cs : Cells) (sown kept : List (List Nat)) : Prop where
  cells : CellsAt W cl cs
  sownAt : RowsAt W sw sown cs.length
  keptAt : RowsAt W kp kept cs.length
  ok : HomeOk cs sown kept
theorem HomeAt.ex {W W' : Hp} {cl sw kp : Addr} {cs : Cells} {sown kept : List (List Nat)} (h : HomeAt W cl sw kp cs sown kept) (e : Ex W W') : HomeAt W' cl sw kp cs sown kept := ⟨h.cells.ex e, h.sownAt.ex e, h.keptAt.ex e, h.ok⟩
def spHome : Sp := fun vs H Q _ => ∃ (b l0 : Addr), vs = [.ref b] ∧ BagAt H b l0 ∧ ∀ p H2 cl sw kp cs sown kept, H2 p = some (.lst [.ref cl, .ref sw, .ref kp]) → Ex (hid b H) H2 → BagAt H2 b l0 → HomeAt (hid b H2) cl sw kp cs sown kept → Q (.ref p) H2
theorem ok_whome (T : Tx K mg A) : FnOk P w K mg base CX0 10 (A.f "_law_home") (A.fd "_law_home") ["_law_bag_here"] spHome := by
  refine T.F_whome.ok sc_whome (fun vs H Q E h => ?_) (fun cdv A' outer s H vs Q E hr h => ?_)
  · obtain ⟨b, l0, rfl, _⟩ := h
    rfl
  · obtain ⟨b, l0, rfl, B, k⟩ := h
    refine ⟨_, PSs.nox (pss_cons (ps_par (i := 1) (j := 2) (by rfl) sc_whome.nd rfl rfl (by decide) rfl rfl (pa_cons (pe_call (ok_wframe T) (hr.mono (by decide)) (by rfl) T.g_wframe T.F_wframe.kp T.b_wframe .nil pass0 (pa_cons (pv 0) (pa_cons (pe_call (ok_wof T) (hr.mono (by decide)) (by rfl) T.g_wof T.F_wof.kp T.b_wof .nil pass0 (pa_cons (pv 0) (pa_cons (pe_lst (pa_cons pe_int (pa_cons pe_int (pa_cons pe_int (pa_cons pe_int (pa_cons pe_int (pa_cons pe_int (pa_cons pe_int (pa_cons pe_int (pa_cons pe_int (pa_cons pe_int (pa_cons pe_int (pa_cons pe_int (pa_cons pe_int pa_nil)))))))))))))) pa_nil))) pa_nil))) (pa_cons (pe_call (ok_wof T) (hr.mono (by decide)) (by rfl) T.g_wof T.F_wof.kp T.b_wof .nil pass0 (pa_cons (pv 0) (pa_cons (pe_lst (pa_cons pe_int (pa_cons pe_int (pa_cons pe_int (pa_cons pe_int (pa_cons pe_int (pa_cons pe_int (pa_cons pe_int pa_nil)))))))) pa_nil))) pa_nil)) (by rfl))
      (pss_cons (ps_par (i := 3) (j := 4) (by rfl) sc_whome.nd rfl rfl (by decide) rfl rfl (pa_cons (pe_lst pa_nil) (pa_cons pe_non pa_nil)) (by rfl))
      (pss_cons (ps_for PassesOwn.never rfl (pi_range1 (by rfl) T.n_range (pa_cons (pe_call (ok_wof T) (hr.mono (by decide)) (by rfl) T.g_wof T.F_wof.kp T.b_wof .nil pass0 (pa_cons (pv 0) (pa_cons (pe_lst (pa_cons pe_int (pa_cons pe_int (pa_cons pe_int (pa_cons pe_int (pa_cons pe_int (pa_cons pe_int (pa_cons pe_int (pa_cons pe_int (pa_cons pe_int (pa_cons pe_int (pa_cons pe_int pa_nil)))))))))))) pa_nil))) pa_nil)) (pg_name (i := 5) sc_whome.nd rfl (Or.inl rfl) (Or.inr rfl))
      (pss_cons (ps_set (i := 6) sc_whome.nd rfl (Or.inl rfl) (pe_call (ok_wseed T) (hr.mono (by decide)) (by rfl) T.g_wseed T.F_wseed.kp T.b_wseed .nil pass0 (pa_cons (pv 0) (pa_cons (pv 1) (pa_cons (pv 2) pa_nil)))))
      (pss_one (ps_if (pt_cmpR op_notIn_seq (pv 6) (pv 3) (by rfl))
      (pss_one (ps_expr (pe_bm PySem.F.plainAttrs_list PySem.F.slot_list_append PySem.F.type_list_append mt_append (pv 3) (pa_cons (pv 6) pa_nil))))
      pss_nil))))
      (pss_cons (ps_set (i := 7) sc_whome.nd rfl (Or.inl rfl) (pv 3))
      (pss_cons (ps_for PassesOwn.never rfl (pi_list (pe_lst (pa_cons pe_int (pa_cons pe_int (pa_cons pe_int (pa_cons pe_int pa_nil)))))) (pg_name (i := 8) sc_whome.nd rfl (Or.inl rfl) (Or.inr rfl))
      (pss_one (ps_if (pt_cmpR op_isN (pv 4) pe_non (nomark _))
      (pss_cons (ps_set (i := 7) sc_whome.nd rfl (Or.inl rfl) (pe_call (ok_wmended T) (hr.mono (by decide)) (by rfl) T.g_wmended T.F_wmended.kp T.b_wmended .nil pass0 (pa_cons (pv 1) (pa_cons (pe_slice sl_list (pv 3) po_none (po_some (pv 8))) pa_nil))))
      (pss_one (ps_set (i := 4) sc_whome.nd rfl (Or.inl rfl) (pe_call (ok_wclosed T) (hr.mono (by decide)) (by rfl) T.g_wclosed T.F_wclosed.kp T.b_wclosed .nil pass0 (pa_cons (pv 7) (pa_cons pe_int pa_nil))))))
      pss_nil)))
      (pss_cons (ps_set (i := 9) sc_whome.nd rfl (Or.inl rfl) (pe_call (ok_wdraw T) (hr.mono (by decide)) (by rfl) T.g_wdraw T.F_wdraw.kp T.b_wdraw .nil pass0 (pa_cons (pv 0) (pa_cons (pe_callB call_len_seq (by rfl) T.n_len PySem.boot_len (pa_cons (pv 7) pa_nil)) pa_nil))))
      (pss_one (ps_ret (pe_lst (pa_cons (pv 1) (pa_cons (pe_op op_cat (pe_slice sl_list (pv 7) (po_some (pv 9)) po_none) (pe_slice sl_list (pv 7) po_none (po_some (pv 9)))) (pa_cons (pv 4) pa_nil)))))))))))) , ?_⟩
    refine q_parP (P := fun x y H1 => ∃ cl cs sh, x = .ref cl ∧ y = .int sh ∧ CellsAt (hid b H1) cl cs ∧ CellsOk cs ∧ Ex (hid b H) H1 ∧ BagAt H1 b l0) (fun Q q => ?_) fun x y H1 hP => ?_
    · refine p_frame (W := hid b H) (l0 := l0) (ns := [3, 4, 4, 5, 3, 5, 2, 4, 6, 5, 4, 12, 1]) (ev_var rfl) (ev_var rfl) (eA (el_lst (ea_cons ev_c (ea_cons ev_c (ea_cons ev_c (ea_cons ev_c (ea_cons ev_c (ea_cons ev_c (ea_cons ev_c (ea_cons ev_c (ea_cons ev_c (ea_cons ev_c (ea_cons ev_c (ea_cons ev_c (ea_cons ev_c ea_nil))))))))))))) (by simp)) rfl) (hid_ex b H) (hid_none b H) B (by decide) (by decide) (by decide) _ fun v H2 hv => ?_
      obtain ⟨cl, cs, rfl, hc, ok, e2, B2⟩ := hv
      refine p_of (W := hid b H2) (l0 := l0) (items := ([1, 3, 1, 2, 0, 1, 0] : List Int).map V.int) (ev_var rfl) (eA (el_lst (ea_cons ev_c (ea_cons ev_c (ea_cons ev_c (ea_cons ev_c (ea_cons ev_c (ea_cons ev_c (ea_cons ev_c ea_nil))))))) (by simp)) rfl) (hid_ex b H2) (hid_none b H2) B2 (by decide) (by decide) _ fun v H3 hv => ?_
      obtain ⟨hm, e3, B3⟩ := hv
      obtain ⟨sh, _, rfl⟩ := List.mem_map.mp hm
      exact q _ _ H3 ⟨cl, cs, sh, rfl, rfl, hc.ex (to_hid e3 (hid_none b H2)), ok, (to_hid e2 (hid_none b H)).trans e3, B3⟩
    · obtain ⟨cl, cs, sh, rfl, rfl, hc, ok, e1, B1⟩ := hP
      refine q_parP (P := fun x y H2 => ∃ l, x = .ref l ∧ y = .non ∧ H1 l = none ∧ Ex H1 H2 ∧ H2 l = some (.lst [])) (fun Q q => (el_lst ea_nil (by decide)) H1 (Ex.refl H1) _ fun l H2 nl e2 hl => q _ _ H2 ⟨l, rfl, rfl, nl, e2, hl⟩) fun x y H2 hP => ?_
      obtain ⟨l, rfl, rfl, nl, e2, hl⟩ := hP
      have hlb := bag_ne B1 nl
      have hl0 := bag_ne0 B1 nl
      have wl : hid b H1 l = none := bag_hid_none B1 nl
      have wb := hid_none b H1
      refine q_forP (P := fun n H3 => 1 ≤ n ∧ n ≤ 7 ∧ Ex (hid b H2) H3 ∧ BagAt H3 b l0) (p_rng1 (EvP.imp (p_of (W := hid b H2) (l0 := l0) (items := ([4, 3, 5, 6, 4, 5, 2, 7, 6, 5, 1] : List Int).map V.int) (ev_var rfl) (eA (el_lst (ea_cons ev_c (ea_cons ev_c (ea_cons ev_c (ea_cons ev_c (ea_cons ev_c (ea_cons ev_c (ea_cons ev_c (ea_cons ev_c (ea_cons ev_c (ea_cons ev_c (ea_cons ev_c ea_nil))))))))))) (by simp)) rfl) (hid_ex b H2) (hid_none b H2) (B1.ex e2) (by decide) (by decide)) fun v H3 hv => ?_))
        (fun n i σ' H' => ∃ (ds : List (List Nat)) (o5 o6 : Option V), σ' = [some (.ref b), some (.ref cl), some (.int sh), some (.ref l), some .non, o5, o6, none, none, none] ∧ Ex (hid b H1) H' ∧ BagAt H' b l0 ∧ H' l = some (.lst (ds.map vS)) ∧ (∀ s ∈ ds, SeedOk cs s) ∧ ds.Nodup ∧ ds.length ≤ i ∧ (0 < i → ds ≠ []) ∧ 1 ≤ n ∧ n ≤ 7)
        (fun n H3 hP => ⟨[], none, none, rfl, (to_hid ((hid_ex b H1).trans e2) wb).trans hP.2.2.1, hP.2.2.2, hP.2.2.1 _ _ (hid_at hl hlb), fun s hs => absurd hs List.not_mem_nil, List.nodup_nil, Nat.le_refl _, fun h => absurd h (Nat.lt_irrefl 0), hP.1, hP.2.1⟩)
        (fun n i σ' H' hi h H3 e3 => ?_) (fun n σ' H' h => ?_)
      · obtain ⟨hm, e3, B3⟩ := hv
        obtain ⟨m, hm8, rfl⟩ := List.mem_map.mp hm
        have hm4 : 1 ≤ m ∧ m ≤ 7 := by
          have hall : ∀ x ∈ ([4, 3, 5, 6, 4, 5, 2, 7, 6, 5, 1] : List Int), 1 ≤ x ∧ x ≤ 7 := by decide
          exact hall m hm8
        exact ⟨m.toNat, by rw [Int.toNat_of_nonneg (by omega)], by omega, by omega, by omega, e3, B3⟩
      · obtain ⟨ds, o5, o6, rfl, g1, gB, gl, gs, gn, gc, g0, n1, n7⟩ := h
        have g13 := g1.trans e3
        have gl3 := e3 _ _ gl
        refine q_asgP (p_seed (W := hid b H3) (l0 := l0) (cl := cl) (cs := cs) (sh := sh) (ev_var rfl) (ev_var rfl) (ev_var rfl) (hid_ex b H3) (hid_none b H3) (gB.ex e3) (hc.ex (to_hid g13 wb)) ok) fun v H4 hv => ?_
        obtain ⟨sd, rfl, sok, e4, B4⟩ := hv
        have g14 : Ex (hid b H1) H4 := (to_hid g13 wb).trans e4
        have gl4 := e4 _ _ (hid_at gl3 hlb)
        refine s_when (b := !decide (sd ∈ ds)) (et_is (et_test (ev_op (ev_var rfl) (ev_var rfl) (rv_niL (sq_of gl4) rfl (flatS _)))) (by rw [inV_S])) (fun hb H5 e5 => ?_) (fun hb H5 e5 => ?_)
        · have hnm : sd ∉ ds := by simpa using hb
          refine s_app (l := l) (xs := ds.map vS) (e5 _ _ gl4) (ev_var rfl) (ev_var rfl) (by rw [List.length_map]; omega) fun H6 e6 => ⟨ds ++ [sd], _, _, rfl, Ex.mut (g14.trans (e5.trans e6)) wl, (B4.ex (e5.trans e6)).upd hlb hl0, by rw [upd_same, List.map_append] <;> rfl, fun s hs => ?_, List.nodup_append.mpr ⟨gn, by simp, fun x hx y hy e => ?_⟩, by rw [List.length_append]; show _ + 1 ≤ _; omega, fun _ => by simp, n1, n7⟩
          · rcases List.mem_append.mp hs with hs | hs
            · exact gs s hs
            · rw [List.mem_singleton.mp hs]
              exact sok
          · rw [List.mem_singleton.mp hy] at e
            exact hnm (e ▸ hx)
        · have hmm : sd ∈ ds := by simpa using hb
          exact ⟨ds, _, _, rfl, g14.trans e5, B4.ex e5, e5 _ _ gl4, gs, gn, by omega, (fun _ e => by
            rw [e] at hmm
            cases hmm), n1, n7⟩
      · obtain ⟨ds, o5, o6, rfl, g1, gB, gl, gs, gn, gc, g0, n1, n7⟩ := h
        have hne := g0 (by omega)
        have hcH : CellsAt H' cl cs := hc.ex g1
        have c12 := ok.few
        have c1 := ok.one
        refine q_asg (ev_var rfl) fun H3 e3 => ?_
        refine q_forF (W := H3) (n := 4) (ei_listN (K := K) (xs := ([7, 5, 4, 3] : List Int).map V.int) (j := 8) (it := fun i => .int (([7, 5, 4, 3] : List Int).getD i 0)) (eA (el_lst (ea_cons ev_c (ea_cons ev_c (ea_cons ev_c (ea_cons ev_c ea_nil)))) (by simp)) rfl) (fun i hi => by
            rw [List.length_map] at hi
            rw [List.getElem?_map, getD_some (d := 0) hi] <;> rfl)) (Ex.refl H3)
          (fun W1 i σ' H4 => Ex W1 H4 ∧ ∃ (x4 : V) (o5 o6 : Option V) (x7 : Addr) (o8 : Option V), σ' = [some (.ref b), some (.ref cl), some (.int sh), some (.ref l), some x4, o5, o6, some (.ref x7), o8, none] ∧ ((x4 = .non ∧ i < 4) ∨ ∃ (kp : Addr) (sown kept : List (List Nat)), x4 = .ref kp ∧ H4 kp = some (.lst (kept.map vS)) ∧ H4 x7 = some (.lst (sown.map vS)) ∧ SownOk cs sown ∧ sown.length ≤ 7 ∧ clo sown 40 41 0 [List.replicate cs.length 46] = some kept))
          (fun W1 H4 e4 eW ew hW => ⟨ew, .non, o5, o6, l, none, rfl, Or.inl ⟨rfl, by decide⟩⟩) (fun W1 i σ' H' h => h.1) (fun W1 i σ' H4 eW hi h H5 e5 => ?_) (fun W1 σ' H4 eW h => ?_)
        · obtain ⟨g4, x4, p5, p6, x7, o8, rfl, hst⟩ := h
          have eH5 : Ex H' H5 := e3.trans (eW.trans (g4.trans e5))
          rcases hst with ⟨rfl, _⟩ | ⟨kp, sown, kept, rfl, h1, h2, h3, h4, h5⟩
          · refine s_when (b := true) (et_is (et_test (ev_op (ev_var rfl) ev_c rv_isN)) (by simp)) (fun _ H6 e6 => ?_) (fun hb => by cases hb)
            have eH6 := eH5.trans e6
            generalize hct : ([7, 5, 4, 3] : List Int).getD i 0 = ct
            have hct3 : 3 ≤ ct ∧ ct ≤ 7 ∧ (i = 3 → ct = 3) := by
              rw [← hct]
              have hall : ∀ i, i < 4 → 3 ≤ ([7, 5, 4, 3] : List Int).getD i 0 ∧ ([7, 5, 4, 3] : List Int).getD i 0 ≤ 7 ∧ (i = 3 → ([7, 5, 4, 3] : List Int).getD i 0 = 3) := by decide
              exact hall i hi
            have htn : ds.take ct.toNat ≠ [] := fun e => by
              have q := congrArg List.length e
              rw [List.length_take] at q
              have := List.length_pos_iff.mpr hne
              have q2 : ([] : List (List Nat)).length = 0 := rfl
              omega
            have htl : (ds.take ct.toNat).length ≤ 7 := by
              rw [List.length_take]
              omega
            have S2 := mended_ok ok (ds := ds.take ct.toNat) (fun s hs => gs s (List.mem_of_mem_take hs)) (gn.sublist (List.take_sublist _ _)) htn
            have hml := mended_len cs (ds.take ct.toNat) htn
            generalize hmd : mended cs (ds.take ct.toNat) = md at S2 hml
            refine q_asgL (xs := md.map vS) (el_call2L (dvs := []) (x := .ref cl) (xs := (ds.take ct.toNat).map vS) (ev_var rfl) (eA (el_slTo (k := ct) (ev_var rfl) (ev_var rfl) (sq_of (eH6 _ _ gl)) (by omega)) (by rw [List.map_take])) fun p H9 e9 hp H10 e10 Q q E => ⟨cl, p, cs, ds.take ct.toNat, rfl, hcH.ex (eH6.trans (e9.trans e10)), ok, ⟨e10 _ _ hp, fun r hr => (gs r (List.mem_of_mem_take hr)).len, by omega, by omega⟩, htn, fun r H11 nr e11 hr => q r H11 nr e11 (by rw [← hmd]; exact hr)⟩) fun sw H7 nsw e7 hsw => ?_
            have R7 : RowsAt H7 sw md cs.length := ⟨hsw, fun r hr => (S2.seed r hr).len, by omega, by omega⟩
            cases hcl : clo md 40 41 0 [List.replicate cs.length 46] with
            | none =>
              refine s_asg (v := .non) (ev_call (dvs := []) (ea2 (ev_var rfl) ev_c) (fun H8 e8 Q q E => ⟨sw, md, cs.length, 40, rfl, R7.ex e8, c1, S2.non, by omega, by decide, fun _ => fun H9 e9 => q H9 e9, fun fd hf => by
                rw [hcl] at hf
                cases hf⟩)) fun H8 e8 => ⟨(g4.trans e5).trans (e6.trans (e7.trans e8)), .non, _, _, sw, _, rfl, Or.inl ⟨rfl, ?_⟩⟩
              by_cases hi3 : i = 3
              · exact absurd hcl (clo_some (fun s hs => (S2.seed s hs).len) (by
                  have := hct3.2.2 hi3
                  rw [hml, List.length_take]
                  omega) _ _ _ CloInv.start)
              · omega
            | some kept =>
              refine s_asgL (xs := kept.map vS) (el_call (dvs := []) (ea2 (ev_var rfl) ev_c) (fun H8 e8 Q q E => ⟨sw, md, cs.length, 40, rfl, R7.ex e8, c1, S2.non, by omega, by decide, (fun hn => by
                rw [hcl] at hn
                cases hn), (fun fd hf => by
                rw [hcl] at hf
                cases hf
                exact fun p H9 np e9 hp => q p H9 np e9 hp)⟩)) fun kp H8 nkp e8 hkp => ⟨(g4.trans e5).trans (e6.trans (e7.trans e8)), .ref kp, _, _, sw, _, rfl, Or.inr ⟨kp, md, kept, rfl, hkp, e8 _ _ hsw, S2, by omega, hcl⟩⟩
          · refine s_when (b := false) (et_is (et_test (ev_op (ev_var rfl) ev_c rv_isN)) (by simp)) (fun hb => by cases hb) (fun _ H6 e6 => ?_)
            exact ⟨(g4.trans e5).trans e6, .ref kp, _, _, x7, _, rfl, Or.inr ⟨kp, sown, kept, rfl, (e5.trans e6) _ _ h1, (e5.trans e6) _ _ h2, h3, h4, h5⟩⟩
        · obtain ⟨g4, x4, p5, p6, x7, o8, rfl, hst⟩ := h
          have eH4 : Ex H' H4 := e3.trans (eW.trans g4)
          rcases hst with ⟨_, hbad⟩ | ⟨kp, sown, kept, rfl, h1, h2, S3, h4, h5⟩
          · exact absurd hbad (Nat.lt_irrefl 4)
          have B4 := gB.ex eH4
          have hkb : kp ≠ b := fun e => by
            obtain ⟨_, _, _, _, _, g1, _⟩ := B4
            rw [e, g1] at h1
            have q := HO.lst.inj (Option.some.inj h1)
            cases kept with
            | nil => cases q
            | cons x xs =>
              have q2 := (List.cons.inj q).1
              cases q2
          have hxb : x7 ≠ b := fun e => by
            obtain ⟨_, _, _, _, _, g1, _⟩ := B4
            rw [e, g1] at h2
            have q := HO.lst.inj (Option.some.inj h2)
            cases sown with
            | nil => cases q
            | cons x xs =>
              have q2 := (List.cons.inj q).1
              cases q2
          have hsl := List.length_pos_iff.mpr S3.non
          have hc4 : CellsAt (hid b H4) cl cs := hc.ex (to_hid (g1.trans eH4) wb)
          refine q_asgP (p_draw (W := hid b H4) (l0 := l0) (top := (sown.length : Int)) (ev_var rfl) (by
            have q := ev_lenL (K := K) (ta := tVar 7) (σ := [some (.ref b), some (.ref cl), some (.int sh), some (.ref l), some (.ref kp), p5, p6, some (.ref x7), o8, none]) (H := H4) (ev_var rfl) (sq_of h2)
            rw [List.length_map] at q
            exact q) (hid_ex b H4) (hid_none b H4) B4 (by omega) (by omega)) fun v H5 hv => ?_
          obtain ⟨⟨t, rfl, ht⟩, e5, B5⟩ := hv
          obtain ⟨To, Tm, Tl⟩ := turn_ok S3 t
          have HO := home_ok ok S3 h4 h5 To Tm (by omega)
          have e45 : Ex (hid b H1) H5 := (to_hid (g1.trans eH4) wb).trans e5
          refine s_ret3L (x := .ref cl) (z := .ref kp) (xs := (sown.drop t ++ sown.take t).map vS) (ev_var rfl) (eA (el_catN (xs := (sown.drop t).map vS) (ys := (sown.take t).map vS) (eA (el_slFrom (k := (t : Int)) (ev_var rfl) (ev_var rfl) (sq_of (e5 _ _ (hid_at h2 hxb))) (by omega)) (by rw [Int.toNat_natCast, List.map_drop])) (eA (el_slTo (k := (t : Int)) (ev_var rfl) (ev_var rfl) (sq_of (e5 _ _ (hid_at h2 hxb))) (by omega)) (by rw [Int.toNat_natCast, List.map_take])) (by rw [List.length_map, List.length_map, List.length_drop, List.length_take]; omega)) (by rw [List.map_append])) (ev_var rfl) fun sw p H8 nsw e58 hsw hp => ?_
          have e59 := e58.trans (Ex.new (o := .lst [.ref cl, .ref sw, .ref kp]) hp)
          have B9 := B5.ex e59
          have hpb := bag_ne (B5.ex e58) hp
          have hsb := bag_ne B5 nsw
          have k9 := e5.trans e59
          refine k p _ cl sw kp cs _ kept upd_same ((to_hid e1 (hid_none b H)).trans (e45.trans e59)) B9 ⟨(hc4.ex (to_hid k9 (hid_none b H4))), ⟨?_, fun r hr => (To.seed r hr).len, by omega, by omega⟩, ⟨to_hid k9 (hid_none b H4) _ _ (hid_at h1 hkb), fun r hr => (HO.row r hr).1, by have := HO.most; omega, by omega⟩, HO⟩
          exact hid_at ((Ex.new hp) _ _ hsw) hsb
end
end Nt
end
section
set_option Elab.async false
set_option linter.all false
set_option maxRecDepth 100000
set_option maxHeartbeats 4000000
namespace Nt
open PySem PySem.Spec PyProof.Rows L2 Evl SX
section
variable {P : Program} {w : World} {K : PySem.W.Frag} {mg : Str → Option Value} {base : Heap} {A : Ad}
abbrev n_wline : List Str := ["_law_bag_here", "_law_sown", "_law_kept", "_law_way"]
theorem sc_wline : FnScope n_wline ["_law_bag_here", "_law_sown", "_law_kept"] (defScope s_wline) := ⟨rfl, rfl, rfl, by decide +kernel, rfl, by decide +kernel, by decide +kernel⟩
def spLine : Sp := fun vs H Q _ => ∃ (b l0 cl sw kp : Addr) (cs : Cells) (sown kept : List (List Nat)), vs = [.ref b, .ref sw, .ref kp] ∧ BagAt H b l0 ∧ HomeAt (hid b H) cl sw kp cs sown kept ∧ ∀ r H2, r ∈ kept → Ex (hid b H) H2 → BagAt H2 b l0 → Q (vS r) H2
theorem ok_wline (T : Tx K mg A) : FnOk P w K mg base CX0 6 (A.f "_law_line") (A.fd "_law_line") ["_law_bag_here", "_law_sown", "_law_kept"] spLine := by
  refine T.F_wline.ok sc_wline (fun vs H Q E h => ?_) (fun cdv A' outer s H vs Q E hr h => ?_)
  · obtain ⟨b, l0, cl, sw, kp, cs, sown, kept, rfl, _⟩ := h
    rfl
  · obtain ⟨b, l0, cl, sw, kp, cs, sown, kept, rfl, B, HA, k⟩ := h
    refine ⟨_, PSs.nox (pss_cons (ps_set (i := 3) sc_wline.nd rfl (Or.inl rfl) (pe_call (ok_wdraw T) (hr.mono (by decide)) (by rfl) T.g_wdraw T.F_wdraw.kp T.b_wdraw .nil pass0 (pa_cons (pv 0) (pa_cons pe_int pa_nil))))
      (pss_cons (ps_if (pt_cmpR op_eq (pv 3) pe_int (nomark _))
      (pss_one (ps_ret (pe_ix ix_list (pv 2) pe_int (fun _ _ => rfl))))
      pss_nil)
      (pss_one (ps_ret (pe_ifExp (pt_cmpR op_lt (pv 3) pe_int (nomark _)) (pe_call (ok_wof T) (hr.mono (by decide)) (by rfl) T.g_wof T.F_wof.kp T.b_wof .nil pass0 (pa_cons (pv 0) (pa_cons (pv 1) pa_nil))) (pe_call (ok_wof T) (hr.mono (by decide)) (by rfl) T.g_wof T.F_wof.kp T.b_wof .nil pass0 (pa_cons (pv 0) (pa_cons (pv 2) pa_nil)))))))) , ?_⟩
    have ok := HA.ok
    have hsl := List.length_pos_iff.mpr ok.so.non
    have := ok.few
    have := ok.most
    have := ok.pos
    refine q_asgP (p_draw (W := hid b H) (ev_var rfl) ev_c (hid_ex b H) (hid_none b H) B (by decide) (by decide)) fun v H1 hv => ?_
    obtain ⟨⟨d, rfl, hd⟩, e1, B1⟩ := hv
    have H1A := HA.ex e1
    refine q_when (b := decide ((d : Int) = 7)) (et_test (ev_op (ev_var rfl) ev_c rv_eqI)) (fun _ H2 e2 => ?_) (fun _ H2 e2 => ?_)
    · refine s_ret (ev_op (ev_var rfl) ev_c (rv_ixLn (i := 0) (sq_of ((H1A.ex e2).keptAt.at_)) (H1A.keptAt.get ok.pos))) fun H3 e3 => k _ H3 ?_ (e1.trans (e2.trans e3)) (B1.ex (e2.trans e3))
      rw [List.getD_eq_getElem?_getD, List.getElem?_eq_getElem ok.pos]
      exact List.getElem_mem ok.pos
    · by_cases h5 : (d : Int) < 5
      · refine ((et_test (ev_op (ev_var rfl) ev_c rv_lt) : EvT _ _ _ (decide ((d : Int) < 5)))) H2 (Ex.refl H2) _ fun H3 e3 => ?_
        rw [decide_eq_true h5]
        have e13 := e1.trans (e2.trans e3)
        refine p_ofE (W := hid b H) (l0 := l0) (p := sw) (items := sown.map vS) (ev_var rfl) (ev_var rfl) HA.sownAt.at_ e13 (hid_none b H) (B1.ex (e2.trans e3)) (by rw [List.length_map]; exact hsl) (by rw [List.length_map]; omega) _ fun v H4 hv => ?_
        obtain ⟨hm, e4, B4⟩ := hv
        obtain ⟨r, hr, rfl⟩ := List.mem_map.mp hm
        exact k r H4 (ok.cont r hr) e4 B4
      · refine ((et_test (ev_op (ev_var rfl) ev_c rv_lt) : EvT _ _ _ (decide ((d : Int) < 5)))) H2 (Ex.refl H2) _ fun H3 e3 => ?_
        rw [decide_eq_false h5]
        have e13 := e1.trans (e2.trans e3)
        refine p_ofE (W := hid b H) (l0 := l0) (p := kp) (items := kept.map vS) (ev_var rfl) (ev_var rfl) HA.keptAt.at_ e13 (hid_none b H) (B1.ex (e2.trans e3)) (by rw [List.length_map]; exact ok.pos) (by rw [List.length_map]; omega) _ fun v H4 hv => ?_
        obtain ⟨hm, e4, B4⟩ := hv
        obtain ⟨r, hr, rfl⟩ := List.mem_map.mp hm
        exact k r H4 hr e4 B4
section
variable {σ : L2.St} {W H : Hp} {ta tb tc : TE} {b l0 cl sw kp : Addr} {cs : Cells} {sown kept : List (List Nat)} {E : XK}
theorem p_line (ha : Ev ta σ H (.ref b)) (hb : Ev tb σ H (.ref sw)) (hc : Ev tc σ H (.ref kp)) (hW : Ex W H) (wb : W b = none) (B : BagAt H b l0) (C : HomeAt W cl sw kp cs sown kept) :
    EvP (tCall spLine [] E (tCons ta (tCons tb (tCons tc tNil)))) σ H (fun v H2 => ∃ r, v = vS r ∧ r ∈ kept ∧ Ex W H2 ∧ BagAt H2 b l0) := fun Q q =>
  ha H (Ex.refl H) _ fun H1 e1 => hb H1 e1 _ fun H2 e2 => hc H2 (e1.trans e2) _ fun H3 e3 => by
    have e13 := (hW.trans e1).trans (e2.trans e3)
    exact ⟨b, l0, cl, sw, kp, cs, sown, kept, rfl, B.ex (e1.trans (e2.trans e3)), C.ex (to_hid e13 wb), fun r H4 h1 e4 B4 => q _ H4 ⟨r, rfl, h1, (to_hid e13 wb).trans e4, B4⟩⟩
end
abbrev n_wpast : List Str := ["_law_bag_here", "_law_sown", "_law_kept", "_law_count", "_law_found", "_law_k", "_law_line_here"]
theorem sc_wpast : FnScope n_wpast ["_law_bag_here", "_law_sown", "_law_kept", "_law_count"] (defScope s_wpast) := ⟨rfl, rfl, rfl, by decide +kernel, rfl, by decide +kernel, by decide +kernel⟩
def spPast : Sp := fun vs H Q _ => ∃ (b l0 cl sw kp : Addr) (cs : Cells) (sown kept : List (List Nat)) (n : Nat), vs = [.ref b, .ref sw, .ref kp, .int (n : Int)] ∧ n ≤ 9 ∧ BagAt H b l0 ∧ HomeAt (hid b H) cl sw kp cs sown kept ∧
  ∀ p H2 rows, (∀ r ∈ rows, r ∈ kept) → rows.length = n → Ex (hid b H) H2 → BagAt H2 b l0 → RowsAt (hid b H2) p rows cs.length → Q (.ref p) H2
theorem ok_wpast (T : Tx K mg A) : FnOk P w K mg base CX0 8 (A.f "_law_past") (A.fd "_law_past") ["_law_bag_here", "_law_sown", "_law_kept", "_law_count"] spPast := by
  refine T.F_wpast.ok sc_wpast (fun vs H Q E h => ?_) (fun cdv A' outer s H vs Q E hr h => ?_)
  · obtain ⟨b, l0, cl, sw, kp, cs, sown, kept, n, rfl, _⟩ := h
    rfl
  · obtain ⟨b, l0, cl, sw, kp, cs, sown, kept, n, rfl, n9, B, HA, k⟩ := h
    refine ⟨_, PSs.nox (pss_cons (ps_set (i := 4) sc_wpast.nd rfl (Or.inl rfl) (pe_lst pa_nil))
      (pss_cons (ps_for PassesOwn.never rfl (pi_range1 (by rfl) T.n_range (pa_cons (pv 3) pa_nil)) (pg_name (i := 5) sc_wpast.nd rfl (Or.inl rfl) (Or.inr rfl))
      (pss_cons (ps_set (i := 6) sc_wpast.nd rfl (Or.inl rfl) (pe_call (ok_wline T) (hr.mono (by decide)) (by rfl) T.g_wline T.F_wline.kp T.b_wline .nil pass0 (pa_cons (pv 0) (pa_cons (pv 1) (pa_cons (pv 2) pa_nil)))))
      (pss_cons (ps_if (PW.pt (pw_and (pt_cmpR (op_neD hr.units) (pv 4) (pe_lst pa_nil) (nomark _)) (pw_and1 (pt_cmpR op_eq (pe_call (ok_wdraw T) (hr.mono (by decide)) (by rfl) T.g_wdraw T.F_wdraw.kp T.b_wdraw .nil pass0 (pa_cons (pv 0) (pa_cons pe_int pa_nil))) pe_int (nomark _)))))
      (pss_one (ps_set (i := 6) sc_wpast.nd rfl (Or.inl rfl) (pe_ix ix_list (pv 4) (pe_un un_neg pe_int) (fun _ _ => rfl))))
      pss_nil)
      (pss_one (ps_expr (pe_bm PySem.F.plainAttrs_list PySem.F.slot_list_append PySem.F.type_list_append mt_append (pv 4) (pa_cons (pv 6) pa_nil)))))))
      (pss_one (ps_ret (pv 4))))) , ?_⟩
    have c12 := HA.ok.ok.few
    refine q_asgL (el_lst ea_nil (by decide)) fun l H1 nl e1 hl => ?_
    have hlb := bag_ne B nl
    have hl0 := bag_ne0 B nl
    have wl : hid b H l = none := bag_hid_none B nl
    have wb := hid_none b H
    refine q_forF (W := hid b H) (n := n) (ei_rng1 (ea1 (ev_var rfl)) (by omega) (by omega)) ((hid_ex b H).trans e1)
      (fun W1 i σ' H' => ∃ (rows : List (List Nat)) (o5 o6 : Option V), σ' = [some (.ref b), some (.ref sw), some (.ref kp), some (.int (n : Int)), some (.ref l), o5, o6] ∧ W1 b = none ∧ W1 l = none ∧ Ex W1 H' ∧ BagAt H' b l0 ∧ H' l = some (.lst (rows.map vS)) ∧ (∀ r ∈ rows, r ∈ kept) ∧ rows.length = i)
      (fun W1 H2 e2 eW ew hW => ⟨[], none, none, rfl, by
          obtain ⟨_, _, _, _, _, h1, _⟩ := B.ex e1
          rw [hW b _ h1]
          exact wb, by rw [hW l _ hl]; exact wl, ew, B.ex (e1.trans e2), e2 _ _ hl, fun r hr => absurd hr List.not_mem_nil, rfl⟩)
      (fun W1 i σ' H' h => by
        obtain ⟨_, _, _, _, _, _, h, _⟩ := h
        exact h) (fun W1 i σ' H' eW hi h H2 e2 => ?_) (fun W1 σ' H' eW h => ?_)
    · obtain ⟨rows, o5, o6, rfl, w1, w2, g1, gB, gl, gk, gi⟩ := h
      have e12 := g1.trans e2
      have HA2 := HA.ex (eW.trans (to_hid e12 w1))
      refine q_asgP (p_line (W := hid b H2) (ev_var rfl) (ev_var rfl) (ev_var rfl) (hid_ex b H2) (hid_none b H2) (gB.ex e2) HA2) fun v H3 hv => ?_
      obtain ⟨r, rfl, hr, e3, B3⟩ := hv
      have e13 := (to_hid e12 w1).trans e3
      have gl3 := e3 _ _ (hid_at (e2 _ _ gl) hlb)
      have hmem : ∀ r ∈ kept, ∀ x ∈ rows ++ [r], x ∈ kept := fun r hr x hx => by
        rcases List.mem_append.mp hx with hx | hx
        · exact gk x hx
        · rw [List.mem_singleton.mp hx]
          exact hr
      have hlen : ∀ r, (rows ++ [r]).length = i + 1 := fun r => by rw [List.length_append, gi] <;> rfl
      have fin : ∀ (r : List Nat) (H5 : Hp) (σ' : L2.St) (D : Ends), σ' = [some (.ref b), some (.ref sw), some (.ref kp), some (.int (n : Int)), some (.ref l), some (.int (i : Int)), some (vS r)] → Ex W1 H5 → BagAt H5 b l0 → H5 l = some (.lst (rows.map vS)) →
          (∀ H6, Ex W1 H6 → BagAt H6 b l0 → H6 l = some (.lst ((rows ++ [r]).map vS)) → D.nx σ' H6) → tDrop (tBM K "list" rAppend (tVar 4) (tCons (tVar 6) tNil)) D σ' H5 := fun r H5 σ' D hσ e5 B5 l5 kd => by
        subst hσ
        exact s_app (l := l) (xs := rows.map vS) l5 (ev_var rfl) (ev_var rfl) (by rw [List.length_map]; omega) fun H6 e6 => kd _ (Ex.mut (e5.trans e6) w2) ((B5.ex e6).upd hlb hl0) (by rw [upd_same, List.map_append] <;> rfl)
      refine q_ifP (P := fun bb H4 => (bb = true → rows ≠ []) ∧ Ex W1 H4 ∧ BagAt H4 b l0 ∧ H4 l = some (.lst (rows.map vS))) (fun Q q => ?_) (fun H4 hp => ?_) (fun H4 hp => ?_)
      · refine (et_test (ev_neNilS (ev_var rfl) gl3 fun x hx c hc => sg_lt (rowB_asc (HA.ok.row x (gk x hx)).1 (HA.ok.row x (gk x hx)).2 c hc)) : EvT _ _ _ (!rows.isEmpty)) H3 (Ex.refl H3) _ fun H4 e4 => ?_
        by_cases hne : rows = []
        · subst hne
          exact q false H4 ⟨(fun h => by cases h), e13.trans e4, B3.ex e4, e4 _ _ gl3⟩
        · have hb : (!rows.isEmpty) = true := by
            cases rows with
            | nil => exact absurd rfl hne
            | cons _ _ => rfl
          rw [hb]
          refine p_draw (W := hid b H4) (ev_var rfl) ev_c (hid_ex b H4) (hid_none b H4) (B3.ex e4) (by decide) (by decide) _ fun v H5 hv => ?_
          obtain ⟨⟨d, rfl, _⟩, e5, B5⟩ := hv
          exact ⟨rfl, _, rfl, q _ H5 ⟨fun _ => hne, (to_hid (e13.trans e4) w1).trans e5, B5, e5 _ _ (hid_at (e4 _ _ gl3) hlb)⟩⟩
      · obtain ⟨hne, e4, B4, gl4⟩ := hp
        have hne := hne rfl
        obtain ⟨L, hL⟩ : ∃ L, rows.getLast? = some L := ⟨_, List.getLast?_eq_some_getLast hne⟩
        refine q_asg (v := vS L) (ev_op (ev_var rfl) ev_neg1 (rv_ixLast (sq_of gl4) (by rw [List.getLast?_map, hL] <;> rfl))) fun H5 e5 => ?_
        exact fin L H5 _ _ rfl (e4.trans e5) (B4.ex e5) (e5 _ _ gl4) fun H6 a1 a2 a3 => ⟨_, _, _, rfl, w1, w2, a1, a2, a3, hmem L (gk L (List.mem_of_getLast? hL)), hlen L⟩
      · obtain ⟨hne, e4, B4, gl4⟩ := hp
        exact fin r H4 _ _ rfl e4 B4 gl4 fun H6 a1 a2 a3 => ⟨_, _, _, rfl, w1, w2, a1, a2, a3, hmem r hr, hlen r⟩
    · obtain ⟨rows, o5, o6, rfl, w1, w2, g1, gB, gl, gk, gi⟩ := h
      refine s_ret (ev_var rfl) fun H3 e3 => k l H3 rows gk gi (eW.trans (g1.trans e3)) (gB.ex e3) ⟨hid_at (e3 _ _ gl) hlb, fun r hr => (HA.ok.row r (gk r hr)).1, by omega, by omega⟩
end
end Nt
end
section
set_option Elab.async false
set_option linter.all false
set_option maxRecDepth 100000
set_option maxHeartbeats 400000
namespace Nt
open PySem PySem.Spec PyProof.Rows L2 Evl SX
/-! ### any plain value -/
structure PVn (n : Nat) (H : Hp) (v : V) : Prop where
  pl : ∃ t, Pl H v t
  sm : SmN n H v v
  len : ∀ z, v = .str z → z.cps.toList.length ≤ 1000
theorem PVn.ex {n : Nat} {H H' : Hp} {v : V} (h : PVn n H v) (e : Ex H H') : PVn n H' v := by
  obtain ⟨t, ht⟩ := h.pl
  exact ⟨⟨t, ht.ex e⟩, h.sm.ex e, h.len⟩
theorem PVn.up {n : Nat} {H : Hp} {v : V} (h : PVn n H v) : PVn (n + 1) H v := ⟨h.pl, h.sm.up, h.len⟩
theorem sm_leaf : ∀ {n : Nat} {H : Hp} {x y : V}, Leaf H x y → SmN n H x y
  | 0, _, _, _, h => h
  | _ + 1, _, _, _, h => Or.inl h
theorem sm_int {n : Nat} {H : Hp} {i : Int} : SmN n H (.int i) (.int i) := sm_leaf (Or.inl ⟨rfl, Or.inr (Or.inl ⟨i, rfl⟩)⟩)
theorem sm_bl {n : Nat} {H : Hp} {b : Bool} : SmN n H (.bl b) (.bl b) := sm_leaf (Or.inl ⟨rfl, Or.inl ⟨b, rfl⟩⟩)
theorem sm_str {n : Nat} {H : Hp} {z : Str} : SmN n H (.str z) (.str z) := sm_leaf (Or.inl ⟨rfl, Or.inr (Or.inr (Or.inl ⟨z, rfl⟩))⟩)
theorem sm_non {n : Nat} {H : Hp} : SmN n H .non .non := sm_leaf (Or.inl ⟨rfl, Or.inr (Or.inr (Or.inr rfl))⟩)
theorem pv_int {n : Nat} {H : Hp} {i : Int} : PVn n H (.int i) := ⟨⟨_, .int i⟩, sm_int, fun z h => by cases h⟩
theorem pv_bl {n : Nat} {H : Hp} {i : Bool} : PVn n H (.bl i) := ⟨⟨_, .bl i⟩, sm_bl, fun z h => by cases h⟩
theorem pv_non {n : Nat} {H : Hp} : PVn n H .non := ⟨⟨_, .non⟩, sm_non, fun z h => by cases h⟩
theorem pv_str {n : Nat} {H : Hp} {z : Str} (hz : z.cps.toList.length ≤ 1000) : PVn n H (.str z) := ⟨⟨_, .str z⟩, sm_str, fun z' h => by
  cases h
  exact hz⟩
theorem pv_S {n : Nat} {H : Hp} {l : List Nat} (hz : l.length ≤ 1000) : PVn n H (vS l) := pv_str hz
theorem pv_lst {n : Nat} {H : Hp} {a : Addr} {xs : List V} (h : H a = some (.lst xs)) (hl : xs.length ≤ 1000) (hx : ∀ x ∈ xs, PVn n H x) : PVn (n + 1) H (.ref a) := ⟨⟨_, .lst h⟩, Or.inr ⟨a, a, xs, xs, rfl, rfl, Or.inl ⟨h, h⟩, rfl, hl, fun i u v hu hv => by
  rw [hu] at hv
  cases hv
  exact (hx u (List.mem_of_getElem? hu)).sm⟩, fun z h => by cases h⟩
theorem pv_tup {n : Nat} {H : Hp} {a : Addr} {xs : List V} (h : H a = some (.tup xs)) (hl : xs.length ≤ 1000) (hx : ∀ x ∈ xs, PVn n H x) : PVn (n + 1) H (.ref a) := ⟨⟨_, .tup h⟩, Or.inr ⟨a, a, xs, xs, rfl, rfl, Or.inr ⟨h, h⟩, rfl, hl, fun i u v hu hv => by
  rw [hu] at hv
  cases hv
  exact (hx u (List.mem_of_getElem? hu)).sm⟩, fun z h => by cases h⟩
theorem pv_dK {n : Nat} {H : Hp} {a : Addr} {kvs : List (Key × V)} (h : H a = some (.dK kvs)) (hn : (kvs.map (·.1)).Nodup) (hf : ∀ p ∈ kvs, flatB p.2 = true) : PVn n H (.ref a) := ⟨⟨_, .dK h⟩, sm_leaf (Or.inr ⟨a, kvs, rfl, rfl, h, hn, hf⟩), fun z h => by cases h⟩
section
variable {K : PySem.W.Frag} {σ : L2.St} {W H H' : Hp} {ta ta2 tb tc te tl : TE} {t : TA} {x y z v : V} {b l0 : Addr} {o : HO} {n m : Nat}
def EpP (b : Addr) (n : Nat) (te : TE) (σ : L2.St) (W : Hp) : Prop := ∀ H, Ex W H → ∀ Q : VK, (∀ v H1, Ex H H1 → PVn n (hid b H1) v → Q v H1) → te σ H Q
def EaP (b : Addr) (n : Nat) (m : Nat) (t : TA) (σ : L2.St) (W : Hp) : Prop := ∀ H, Ex W H → ∀ Q : List V → Hp → Prop, (∀ xs H1, Ex H H1 → xs.length = m → (∀ x ∈ xs, PVn n (hid b H1) x) → Q xs H1) → t σ H Q
theorem ep_ev (h : Ev te σ W v) (p : ∀ H, PVn n H v) : EpP b n te σ W := fun H e Q q => h H e _ fun H1 e1 => q v H1 e1 (p _)
theorem ep_lit {s : Str} {l : List Nat} (h : s = S l) (hl : l.length ≤ 1000) : EpP b n (tC (.str s)) σ W := by
  subst h
  exact ep_ev ev_c fun H => pv_S hl
theorem eap_nil : EaP b n 0 tNil σ W := fun H e Q q => q [] H (Ex.refl H) rfl fun x hx => absurd hx List.not_mem_nil
theorem eap_cons (h1 : EpP b n te σ W) (h2 : EaP b n m t σ W) : EaP b n (m + 1) (tCons te t) σ W := fun H e Q q => h1 H e _ fun v H1 e1 p1 => h2 H1 (e.trans e1) _ fun xs H2 e2 hl hx => q (v :: xs) H2 (e1.trans e2) (by rw [List.length_cons, hl]) fun x hm => by
  rcases List.mem_cons.mp hm with hm | hm
  · rw [hm]
    exact p1.ex (hid_mono e2)
  · exact hx x hm
theorem ep_lst (h : EaP b n m t σ W) (hb : W b = some o) (hm : m ≤ 1000) : EpP b (n + 1) (tLst t) σ W := fun H e Q q => h H e _ fun xs H1 e1 hl hx => ⟨by show xs.length ≤ 16777216; omega, fun p hp => q (.ref p) _ (e1.trans (Ex.new hp)) (pv_lst (hid_at upd_same (ne_of_none ((e.trans e1) _ _ hb) hp).symm) (by omega) fun x hm => (hx x hm).ex (hid_mono (Ex.new hp)))⟩
theorem ep_tup (h : EaP b n m t σ W) (hb : W b = some o) (hm : m ≤ 1000) : EpP b (n + 1) (tTup t) σ W := fun H e Q q => h H e _ fun xs H1 e1 hl hx => ⟨by show xs.length ≤ 16777216; omega, fun p hp => q (.ref p) _ (e1.trans (Ex.new hp)) (pv_tup (hid_at upd_same (ne_of_none ((e.trans e1) _ _ hb) hp).symm) (by omega) fun x hm => (hx x hm).ex (hid_mono (Ex.new hp)))⟩
theorem ep_up (h : EpP b n te σ W) : EpP b (n + 1) te σ W := fun H e Q q => h H e _ fun v H1 e1 p => q v H1 e1 p.up
theorem ep_dnew (hb : W b = some o) : EpP b n tDNewK σ W := fun H e Q q p hp => q (.ref p) _ (Ex.new hp) (pv_dK (kvs := []) (hid_at upd_same (ne_of_none (e _ _ hb) hp).symm) List.nodup_nil fun x hx => absurd hx List.not_mem_nil)
theorem ep_disp1 {k : Str} {i : Int} (hb : W b = some o) : EpP b n (tDisp [(tC (.str k), tC (.int i))]) σ W := fun H e Q q p hp => ⟨upd_same, [(Sum.inr k, .int i)], rfl, (show 1 ≤ 15 by omega), q (.ref p) _ (fun a o ha => by
    have hne : a ≠ p := ne_of_none ha hp
    rw [upd_ne hne, upd_ne hne]
    exact ha) (pv_dK (kvs := mergeK [] [(Sum.inr k, .int i)]) (hid_at upd_same (ne_of_none (e _ _ hb) hp).symm) (by simp [mergeK, putK]) fun x hx => by
      have : x = (Sum.inr k, .int i) := by simpa [mergeK, putK] using hx
      rw [this] <;> rfl)⟩
theorem p_cat {l : Addr} {xs : List V} (hl : H l = some (.lst xs)) (ha : Ev ta σ H (.ref l)) (ht : EaP b n m t σ H) (hb : H b = some o) (px : ∀ x ∈ xs, PVn n (hid b H) x) (hz : xs.length + m ≤ 1000) :
    EvP (tOp rCat ta (tLst t)) σ H (fun v H2 => ∃ p ys, v = .ref p ∧ p ≠ b ∧ H2 p = some (.lst (xs ++ ys)) ∧ ys.length = m ∧ Ex H H2 ∧ ∀ x ∈ xs ++ ys, PVn n (hid b H2) x) := fun Q q =>
  ha H (Ex.refl H) _ fun H4 e4 => ht H4 e4 _ fun ys H5 e5 hyl py => ⟨by show ys.length ≤ 16777216; omega, fun y hy => ⟨l, y, xs, ys, rfl, rfl, (Ex.new hy) _ _ ((e4.trans e5) _ _ hl), upd_same, by show _ ≤ 16777216; omega, fun r hr => by
    have e3r := (e4.trans e5).trans ((Ex.new (o := .lst ys) hy).trans (Ex.new (o := .lst (xs ++ ys)) hr))
    refine q (.ref r) _ ⟨r, ys, rfl, (ne_of_none (((e4.trans e5).trans (Ex.new hy)) _ _ hb) hr).symm, upd_same, hyl, e3r, fun x hx => ?_⟩
    rcases List.mem_append.mp hx with hx | hx
    · exact (px x hx).ex (hid_mono e3r)
    · exact (py x hx).ex (hid_mono ((Ex.new hy).trans (Ex.new hr)))⟩⟩
theorem p_ofP {E : XK} {Pm : Hp → List V → Prop} (ha : Ev ta σ H (.ref b)) (B : BagAt H b l0) (hl : ∀ H1, Ex H H1 → EvP tl σ H1 (fun v H2 => ∃ p xs, v = .ref p ∧ p ≠ b ∧ H2 p = some (.lst xs) ∧ 1 ≤ xs.length ∧ xs.length ≤ 1000 ∧ Pm H2 xs ∧ Ex H1 H2)) :
    EvP (tCall spOf [] E (tCons ta (tCons tl tNil))) σ H (fun v H3 => ∃ xs H2, v ∈ xs ∧ Pm H2 xs ∧ Ex H H2 ∧ Ex (hid b H2) H3 ∧ BagAt H3 b l0) := fun Q q =>
  ha H (Ex.refl H) _ fun H1 e1 => hl H1 e1 _ fun v H2 hv => by
    obtain ⟨p, xs, rfl, hpb, hp, i1, i2, pm, e2⟩ := hv
    exact ⟨b, l0, .ref p, xs, rfl, B.ex (e1.trans e2), Or.inl ⟨p, rfl, hid_at hp hpb⟩, i1, i2, fun v H3 hv e3 B3 => q v H3 ⟨xs, H2, hv, pm, e1.trans e2, e3, B3⟩⟩
theorem ep_pow : EpP b n (tOp (rI CPow fun i j => V.int (i ^ j.toNat)) (tC (V.int 10)) (tC (V.int 30))) σ W := ep_ev (ev_op ev_c ev_c (rv_pow (i := 10) (j := 30) ⟨by decide, by decide, by decide⟩)) fun H => pv_int
theorem ep_npow : EpP b n (tUn (rU fun i => V.int (-i)) (tOp (rI CPow fun i j => V.int (i ^ j.toNat)) (tC (V.int 10)) (tC (V.int 30)))) σ W := fun H e Q q => (ev_op ev_c ev_c (rv_pow (i := 10) (j := 30) ⟨by decide, by decide, by decide⟩) : Ev (tOp (rI CPow fun i j => V.int (i ^ j.toNat)) (tC (V.int 10)) (tC (V.int 30))) σ W (.int ((10 : Int) ^ (30 : Int).toNat))) H e _ fun H1 e1 => ⟨_, rfl, q _ H1 e1 pv_int⟩
theorem any1 (hb : W b = some o) : EaP b 2 15 (tCons (tC V.non) (tCons (tC (V.str (Str.ofString ""))) (tCons (tC (V.bl true)) (tCons (tC (V.bl false)) (tCons (tUn (rU fun i => V.int (-i)) (tC (V.int 1))) (tCons (tC (V.str (Str.ofString "x"))) (tCons (tC (V.str (Str.ofString "1."))) (tCons (tC (V.str (Str.ofString "0")))
    (tCons (tLst tNil) (tCons (tTup tNil) (tCons tDNewK (tCons (tLst (tCons (tC (V.int 1)) tNil)) (tCons (tTup (tCons (tC (V.int 1)) tNil)) (tCons (tDisp [(tC (V.str (Str.ofString "a")), tC (V.int 1))]) (tCons (tLst (tCons (tLst (tCons (tC (V.str (Str.ofString "."))) tNil)) (tCons (tC (V.str (Str.ofString "."))) tNil))) tNil))))))))))))))) σ W := (eap_cons (n := 2) (ep_ev ev_c fun H => pv_non) (eap_cons (n := 2) (ep_lit (l := []) rfl (by decide)) (eap_cons (n := 2) (ep_ev ev_c fun H => pv_bl) (eap_cons (n := 2) (ep_ev ev_c fun H => pv_bl) (eap_cons (n := 2) (ep_ev ev_neg1 fun H => pv_int) (eap_cons (n := 2) (ep_lit (l := [120]) rfl (by decide)) (eap_cons (n := 2) (ep_lit (l := [49, 46]) rfl (by decide)) (eap_cons (n := 2) (ep_lit (l := [48]) rfl (by decide)) (eap_cons (n := 2) (ep_lst (eap_nil (n := 1)) hb (by decide)) (eap_cons (n := 2) (ep_tup (eap_nil (n := 1)) hb (by decide)) (eap_cons (n := 2) (ep_dnew hb) (eap_cons (n := 2) (ep_lst (eap_cons (n := 1) (ep_ev ev_c fun H => pv_int) eap_nil) hb (by decide)) (eap_cons (n := 2) (ep_tup (eap_cons (n := 1) (ep_ev ev_c fun H => pv_int) eap_nil) hb (by decide)) (eap_cons (n := 2) (ep_disp1 hb) (eap_cons (n := 2) (ep_lst (eap_cons (n := 1) (ep_lst (eap_cons (n := 0) (ep_lit (l := [46]) rfl (by decide)) eap_nil) hb (by decide)) (eap_cons (n := 1) (ep_lit (l := [46]) rfl (by decide)) eap_nil)) hb (by decide)) eap_nil)))))))))))))))
theorem any2 (hb : W b = some o) : EaP b 2 6 (tCons (tOp (rI CPow fun i j => V.int (i ^ j.toNat)) (tC (V.int 10)) (tC (V.int 30))) (tCons (tC (V.int 401)) (tCons (tUn (rU fun i => V.int (-i)) (tOp (rI CPow fun i j => V.int (i ^ j.toNat)) (tC (V.int 10)) (tC (V.int 30)))) (tCons (tC (V.str (Str.ofString "1"))) (tCons (tTup (tCons (tTup (tCons (tC (V.str (Str.ofString "1"))) (tCons (tC (V.int 2)) tNil))) (tCons (tC V.non) tNil))) (tCons (tC (V.str (Str.ofString "\n"))) tNil)))))) σ W := (eap_cons (n := 2) (ep_pow) (eap_cons (n := 2) (ep_ev ev_c fun H => pv_int) (eap_cons (n := 2) (ep_npow) (eap_cons (n := 2) (ep_lit (l := [49]) rfl (by decide)) (eap_cons (n := 2) (ep_tup (eap_cons (n := 1) (ep_tup (eap_cons (n := 0) (ep_lit (l := [49]) rfl (by decide)) (eap_cons (n := 0) (ep_ev ev_c fun H => pv_int) eap_nil)) hb (by decide)) (eap_cons (n := 1) (ep_ev ev_c fun H => pv_non) eap_nil)) hb (by decide)) (eap_cons (n := 2) (ep_lit (l := [10]) rfl (by decide)) eap_nil))))))
end
section
variable {P : Program} {w : World} {K : PySem.W.Frag} {mg : Str → Option Value} {base : Heap} {A : Ad}
abbrev n_wany : List Str := ["_law_bag_here", "_law_some"]
theorem sc_wany : FnScope n_wany ["_law_bag_here"] (defScope s_wany) := ⟨rfl, rfl, rfl, by decide +kernel, rfl, by decide +kernel, by decide +kernel⟩
def spAny : Sp := fun vs H Q _ => ∃ (b l0 : Addr), vs = [.ref b] ∧ BagAt H b l0 ∧ ∀ v H2, PVn 2 (hid b H2) v → Ex (hid b H) H2 → BagAt H2 b l0 → Q v H2
theorem ok_wany (T : Tx K mg A) : FnOk P w K mg base CX0 6 (A.f "_law_any") (A.fd "_law_any") ["_law_bag_here"] spAny := by
  refine T.F_wany.ok sc_wany (fun vs H Q E h => ?_) (fun cdv A' outer s H vs Q E hr h => ?_)
  · obtain ⟨b, l0, rfl, _⟩ := h
    rfl
  · obtain ⟨b, l0, rfl, B, k⟩ := h
    refine ⟨_, PSs.nox (pss_cons (ps_set (i := 1) sc_wany.nd rfl (Or.inl rfl) (pe_lst (pa_cons pe_non (pa_cons pe_str (pa_cons pe_bl (pa_cons pe_bl (pa_cons (pe_un un_neg pe_int) (pa_cons pe_str (pa_cons pe_str (pa_cons pe_str (pa_cons (pe_lst pa_nil) (pa_cons (pe_tup pa_nil) (pa_cons pe_dnewK (pa_cons (pe_lst (pa_cons pe_int pa_nil)) (pa_cons (pe_tup (pa_cons pe_int pa_nil)) (pa_cons (pe_disp (pps_cons pe_str pe_int pps_nil) (by rfl) (by rfl) (fun z => by cases z) (by decide)) (pa_cons (pe_lst (pa_cons (pe_lst (pa_cons pe_str pa_nil)) (pa_cons pe_str pa_nil))) pa_nil)))))))))))))))))
      (pss_one (ps_ret (pe_call (ok_wof T) (hr.mono (by decide)) (by rfl) T.g_wof T.F_wof.kp T.b_wof .nil pass0 (pa_cons (pv 0) (pa_cons (pe_op op_cat (pv 1) (pe_lst (pa_cons (pe_op op_pow pe_int pe_int) (pa_cons pe_int (pa_cons (pe_un un_neg (pe_op op_pow pe_int pe_int)) (pa_cons pe_str (pa_cons (pe_tup (pa_cons (pe_tup (pa_cons pe_str (pa_cons pe_int pa_nil))) (pa_cons pe_non pa_nil))) (pa_cons pe_str pa_nil)))))))) pa_nil)))))) , ?_⟩
    obtain ⟨ns, a1, a2, a3, a4, hb, g2, g3⟩ := id B
    refine q_asgP (P := fun v H1 => ∃ l xs, v = .ref l ∧ H l = none ∧ Ex H H1 ∧ H1 l = some (.lst xs) ∧ xs.length = 15 ∧ ∀ x ∈ xs, PVn 2 (hid b H1) x) (fun Q q => ?_) fun v H1 hv => ?_
    · exact any1 hb H (Ex.refl H) _ fun xs H1 e1 hx1 px1 => ⟨by show xs.length ≤ 16777216; omega, fun l hl => q (.ref l) _ ⟨l, xs, rfl, fresh_back e1 hl, e1.trans (Ex.new hl), upd_same, hx1, fun x hx => (px1 x hx).ex (hid_mono (Ex.new hl))⟩⟩
    · obtain ⟨l, xs, rfl, nl, e1, hl, hxl, px⟩ := hv
      refine s_retP (p_ofP (l0 := l0) (Pm := fun H2 xs => ∀ x ∈ xs, PVn 2 (hid b H2) x) (ev_var rfl) (B.ex e1) fun H3 e3 Q q => ?_) fun v H3 hv => ?_
      · refine p_cat (b := b) (n := 2) (e3 _ _ hl) (ev_var rfl) (any2 ((e1.trans e3) _ _ hb)) ((e1.trans e3) _ _ hb) (fun x hx => (px x hx).ex (hid_mono e3)) (by omega) _ fun v H4 hv => ?_
        obtain ⟨r, ys, rfl, hrb, hr, hyl, e4, pz⟩ := hv
        exact q _ H4 ⟨r, xs ++ ys, rfl, hrb, hr, by rw [List.length_append]; omega, by rw [List.length_append]; omega, pz, e4⟩
      · obtain ⟨zs, H2, hm, pm, e2, e3, B3⟩ := hv
        exact k v H3 ((pm v hm).ex (to_hid e3 (hid_none b H2))) ((hid_mono (e1.trans e2)).trans e3) B3
end
end Nt
end
section
set_option Elab.async false
set_option linter.all false
set_option maxRecDepth 100000
set_option maxHeartbeats 400000
namespace Nt
open PySem PySem.Spec PyProof.Rows L2 Evl SX
section
variable {K : PySem.W.Frag} {σ : L2.St} {W H H' : Hp} {ta ta2 tb tc te tl : TE} {t : TA} {x y z v : V} {b l0 : Addr} {o : HO} {n m : Nat} {g : TG} {wi : TI}
/-- a comprehension whose items are drawn -/
theorem p_lcA {vs : List Nat} {τ : Nat → L2.St → L2.St} {Pit : Nat → V → Prop} (h : EvI wi g σ W n τ) (hn : n ≤ 40000) (hWb : W b = none) (hW : Ex W H) (B : BagAt H b l0) (hw : ∀ i, i < n → wipe (τ i (wipe σ vs)) vs = wipe σ vs)
    (he : ∀ i H', i < n → Ex W H' → BagAt H' b l0 → EvP te (τ i (wipe σ vs)) H' (fun v H2 => Pit i v ∧ Ex (hid b H') H2 ∧ BagAt H2 b l0)) :
    EvP (tLc wi g tYes te vs) σ H (fun v H2 => ∃ D xs, v = .ref D ∧ H2 D = some (.lst xs) ∧ xs.length = n ∧ (∀ i x, xs[i]? = some x → Pit i x) ∧ Ex W H2 ∧ BagAt H2 b l0) := fun Q q => h H hW _ fun J H1 W1 e1 eW ew ha F Dl hD => by
  have B1 := B.ex e1
  have hDb := bag_ne B1 hD
  have hD0 := bag_ne0 B1 hD
  have w1b : W1 b = none := by
    obtain ⟨_, _, _, _, _, g1, _⟩ := B
    rw [ha b _ g1]
    exact hWb
  have w1D : W1 Dl = none := fresh_back ew hD
  refine ⟨fun i m H2 => m = n - i ∧ i ≤ n ∧ ∃ xs, H2 Dl = some (.lst xs) ∧ xs.length = i ∧ (∀ j x, xs[j]? = some x → Pit j x) ∧ Ex W1 H2 ∧ BagAt H2 b l0, ⟨n, by simp, Nat.zero_le _, [], upd_same, rfl, fun j x hx => by simp at hx, ew.trans (Ex.new hD), B1.ex (Ex.new hD)⟩, fun i m H2 hI => ?_⟩
  obtain ⟨rfl, hi, xs, hx, hxl, hp, e2, B2⟩ := hI
  by_cases hlt : i < n
  · refine Or.inr ⟨F.go i H2 e2 hlt, fun H2 => ∃ xs, H2 Dl = some (.lst xs) ∧ xs.length = i + 1 ∧ (∀ j x, xs[j]? = some x → Pit j x) ∧ Ex W1 H2 ∧ BagAt H2 b l0, fun H' p' => ⟨n - (i + 1), by omega, rfl, hlt, p'⟩, fun x H' yl => ?_⟩
    obtain ⟨e3, k⟩ := F.yld i H2 x H' e2 hlt yl
    refine k _ _ ⟨hw i hlt, ?_⟩
    have e23 := e2.trans e3
    show te _ H' _
    refine he i H' hlt (eW.trans e23) (B2.ex e3) _ fun v H4 hv => ?_
    obtain ⟨pv, e4, B4⟩ := hv
    have h4 := e4 _ _ (hid_at (e3 _ _ hx) hDb)
    refine ⟨xs, h4, sz_lt (by omega), xs ++ [v], upd_same, by rw [List.length_append, hxl] <;> rfl, fun j x hj => ?_, Ex.mut ((to_hid e23 w1b).trans e4) w1D, B4.upd hDb hD0⟩
    by_cases hj2 : j < xs.length
    · rw [List.getElem?_append_left hj2] at hj
      exact hp j x hj
    · rw [List.getElem?_append_right (by omega)] at hj
      by_cases hj3 : j = xs.length
      · subst hj3
        simp at hj
        rw [← hj, hxl]
        exact pv
      · have : ([v] : List V)[j - xs.length]? = none := List.getElem?_eq_none (by show 1 ≤ _; omega)
        rw [this] at hj
        cases hj
  · have e : i = n := by omega
    subst e
    exact Or.inl ⟨F.stop H2 e2, q _ H2 ⟨Dl, xs, rfl, hx, hxl, hp, eW.trans e2, B2⟩⟩
theorem p_join {P : Hp → List (List Nat) → Prop} {s0 : Str} (h0 : s0 = S []) (h : EvP tb σ H (fun v H2 => ∃ D xs, v = .ref D ∧ H2 D = some (.lst (xs.map vS)) ∧ xs.length ≤ 100 ∧ (∀ x ∈ xs, x.length ≤ 100) ∧ P H2 xs)) :
    EvP (tM1 (fun x xs H Q => ∃ a p, ∃ ys : List Str, x = .str a ∧ xs = [.ref p] ∧ (SqL K H p (ys.map V.str) ∨ SqT K H p (ys.map V.str)) ∧ (ys.map (·.length)).sum + ys.length * a.length ≤ 16777216 ∧ Q (.str (Txt.join a ys)) H) (tC (.str s0)) tb) σ H (fun v H2 => ∃ xs, v = vS xs.flatten ∧ P H2 xs) := fun Q q => by
  subst h0
  refine ⟨⟨_, rfl⟩, h _ fun v H2 hv => ?_⟩
  obtain ⟨D, xs, rfl, hD, hl, hx, p⟩ := hv
  have hs : (xs.map (·.length)).sum ≤ xs.length * 100 := by
    clear hD hl p
    induction xs with
    | nil => exact Nat.le_refl 0
    | cons a xs ih =>
      have i1 := ih fun x hm => hx x (List.mem_cons_of_mem _ hm)
      have i2 := hx a (List.mem_cons_self ..)
      rw [List.map_cons, List.sum_cons, List.length_cons]
      omega
  refine ⟨S [], D, xs.map S, rfl, rfl, Or.inl (sq_of (by rw [hD, List.map_map]; rfl)), by
    rw [lens, List.length_map, S_len]
    show _ + xs.length * 0 ≤ _
    omega, ?_⟩
  rw [join_S, joinL_nil]
  exact q _ H2 ⟨xs, rfl, p⟩
/-- items that may draw -/
def EpB (b l0 : Addr) (n : Nat) (te : TE) (σ : L2.St) (W : Hp) : Prop := ∀ H, Ex W H → BagAt H b l0 → ∀ Q : VK, (∀ v H1, Ex (hid b H) H1 → BagAt H1 b l0 → PVn n (hid b H1) v → Q v H1) → te σ H Q
def EaB (b l0 : Addr) (n : Nat) (m : Nat) (t : TA) (σ : L2.St) (W : Hp) : Prop := ∀ H, Ex W H → BagAt H b l0 → ∀ Q : List V → Hp → Prop, (∀ xs H1, Ex (hid b H) H1 → BagAt H1 b l0 → xs.length = m → (∀ x ∈ xs, PVn n (hid b H1) x) → Q xs H1) → t σ H Q
theorem epb_of (h : ∀ H, Ex W H → BagAt H b l0 → EpP b n te σ H) : EpB b l0 n te σ W := fun H e B Q q => h H e B H (Ex.refl H) Q fun v H1 e1 p => q v H1 ((hid_ex b H).trans e1) (B.ex e1) p
theorem epb_ev (h : Ev te σ W v) (p : ∀ H, PVn n H v) : EpB b l0 n te σ W := epb_of fun H e B => ep_ev (h.mono e) p
theorem eab_nil : EaB b l0 n 0 tNil σ W := fun H e B Q q => q [] H (hid_ex b H) B rfl fun x hx => absurd hx List.not_mem_nil
theorem eab_cons (wb : W b = none) (h1 : EpB b l0 n te σ W) (h2 : EaB b l0 n m t σ W) : EaB b l0 n (m + 1) (tCons te t) σ W := fun H e B Q q => h1 H e B _ fun v H1 e1 B1 p1 => h2 H1 ((to_hid e wb).trans e1) B1 _ fun xs H2 e2 B2 hl hx => q (v :: xs) H2 ((to_hid e1 (hid_none b H)).trans e2) B2 (by rw [List.length_cons, hl]) fun x hm => by
  rcases List.mem_cons.mp hm with hm | hm
  · rw [hm]
    exact p1.ex (to_hid e2 (hid_none b H1))
  · exact hx x hm
theorem epb_lst (h : EaB b l0 n m t σ W) (hm : m ≤ 1000) : EpB b l0 (n + 1) (tLst t) σ W := fun H e B Q q => h H e B _ fun xs H1 e1 B1 hl hx => ⟨by show xs.length ≤ 16777216; omega, fun p hp => q (.ref p) _ (e1.trans (Ex.new hp)) (B1.ex (Ex.new hp)) (pv_lst (hid_at upd_same (bag_ne B1 hp)) (by omega) fun x hm => (hx x hm).ex (hid_mono (Ex.new hp)))⟩
theorem p_ofB {E : XK} (ha : Ev ta σ H (.ref b)) (B : BagAt H b l0) (hl : EaB b l0 n m t σ (hid b H)) (m1 : 1 ≤ m) (m2 : m ≤ 1000) :
    EvP (tCall spOf [] E (tCons ta (tCons (tLst t) tNil))) σ H (fun v H3 => PVn n (hid b H3) v ∧ Ex (hid b H) H3 ∧ BagAt H3 b l0) := fun Q q =>
  ha H (Ex.refl H) _ fun H1 e1 => hl H1 ((hid_ex b H).trans e1) (B.ex e1) _ fun xs H2 e2 B2 hxl hx => ⟨by show xs.length ≤ 16777216; omega, fun p hp => by
    have e3 := (to_hid ((hid_ex b H).trans e1) (hid_none b H)).trans (e2.trans (Ex.new (o := .lst xs) hp))
    refine ⟨b, l0, .ref p, xs, rfl, B2.ex (Ex.new hp), Or.inl ⟨p, rfl, hid_at upd_same (bag_ne B2 hp)⟩, by omega, by omega, fun v H3 hv e4 B4 => q v H3 ⟨(hx v hv).ex ((hid_mono (Ex.new hp)).trans (to_hid e4 (hid_none b _))), (to_hid e3 (hid_none b H)).trans e4, B4⟩⟩⟩
theorem epb_any {E : XK} (ha : ∀ H, Ex W H → Ev ta σ H (.ref b)) : EpB b l0 2 (tCall spAny [] E (tCons ta tNil)) σ W := fun H e B Q q => ha H e H (Ex.refl H) _ fun H1 e1 => ⟨b, l0, rfl, B.ex e1, fun v H2 p e2 B2 => q v H2 ((hid_mono e1).trans e2) B2 p⟩
end
section
variable {P : Program} {w : World} {K : PySem.W.Frag} {mg : Str → Option Value} {base : Heap} {A : Ad}
abbrev n_woddline : List Str := ["_law_bag_here", "_law_frame_here", "_law_kept", "_law_line_here", "_law_way", "_law_spot", "_law_pair"]
theorem sc_woddline : FnScope n_woddline ["_law_bag_here", "_law_frame_here", "_law_kept"] (defScope s_woddline) := ⟨rfl, rfl, rfl, by decide +kernel, rfl, by decide +kernel, by decide +kernel⟩
def spOdd : Sp := fun vs H Q _ => ∃ (b l0 cl sw kp : Addr) (cs : Cells) (sown kept : List (List Nat)), vs = [.ref b, .ref cl, .ref kp] ∧ BagAt H b l0 ∧ HomeAt (hid b H) cl sw kp cs sown kept ∧ ∀ v H2, PVn 2 (hid b H2) v → Ex (hid b H) H2 → BagAt H2 b l0 → Q v H2
theorem ok_woddline (T : Tx K mg A) : FnOk P w K mg base CX0 8 (A.f "_law_odd_line") (A.fd "_law_odd_line") ["_law_bag_here", "_law_frame_here", "_law_kept"] spOdd := by
  refine T.F_woddline.ok sc_woddline (fun vs H Q E h => ?_) (fun cdv A' outer s H vs Q E hr h => ?_)
  · obtain ⟨b, l0, cl, sw, kp, cs, sown, kept, rfl, _⟩ := h
    rfl
  · obtain ⟨b, l0, cl, sw, kp, cs, sown, kept, rfl, B, HA, k⟩ := h
    refine ⟨_, PSs.nox (pss_cons (ps_par (i := 3) (j := 4) (by rfl) sc_woddline.nd rfl rfl (by decide) rfl rfl (pa_cons (pe_call (ok_wof T) (hr.mono (by decide)) (by rfl) T.g_wof T.F_wof.kp T.b_wof .nil pass0 (pa_cons (pv 0) (pa_cons (pv 2) pa_nil))) (pa_cons (pe_call (ok_wdraw T) (hr.mono (by decide)) (by rfl) T.g_wdraw T.F_wdraw.kp T.b_wdraw .nil pass0 (pa_cons (pv 0) (pa_cons pe_int pa_nil))) pa_nil)) (by rfl))
      (pss_cons (ps_set (i := 5) sc_woddline.nd rfl (Or.inl rfl) (pe_call (ok_wdraw T) (hr.mono (by decide)) (by rfl) T.g_wdraw T.F_wdraw.kp T.b_wdraw .nil pass0 (pa_cons (pv 0) (pa_cons (pe_callB call_len_str (by rfl) T.n_len PySem.boot_len (pa_cons (pv 3) pa_nil)) pa_nil))))
      (pss_cons (ps_if (pt_cmpR op_eq (pv 4) pe_int (nomark _))
      (pss_one (ps_ret (pe_op op_add_str (pv 3) pe_str)))
      pss_nil)
      (pss_cons (ps_if (pt_cmpR op_eq (pv 4) pe_int (nomark _))
      (pss_one (ps_ret (pe_slice sl_str (pv 3) (po_some pe_int) po_none)))
      pss_nil)
      (pss_cons (ps_if (pt_cmpR op_eq (pv 4) pe_int (nomark _))
      (pss_one (ps_ret (pe_op op_add_str (pe_op op_add_str (pe_slice sl_str (pv 3) po_none (po_some (pv 5))) (pe_ix ix_str pe_str (pe_ix ix_tup (pe_ix ix_list (pv 1) (pv 5) (fun _ _ => rfl)) pe_int (fun _ _ => rfl)) (fun _ _ => rfl))) (pe_slice sl_str (pv 3) (po_some (pe_op op_add (pv 5) pe_int)) po_none))))
      pss_nil)
      (pss_cons (ps_if (pt_cmpR op_lt (pv 4) pe_int (nomark _))
      (pss_one (ps_ret (pe_join pe_str (pe_lc (own := [("_law_pair", 6)]) (g := (gName 6)) (te := (tCall _ _ _ (tCons _ (tCons (tSl _ _ _ (tPart (tOp _ _ (tOp (rIxT K) _ _)))) tNil)))) (by rfl) sc_woddline.nd (pi_list (pv 1)) (blkOk_by (own := [("_law_pair", 6)]) (N := n_woddline) (sc := defScope s_woddline) (by decide +kernel)) (fun _ _ _ _ _ => (pg_name (i := 6) sc_woddline.nd rfl (Or.inl rfl) (Or.inr rfl))) (fun _ _ _ _ _ => pts_nil) (fun _ _ _ _ _ => (pe_call (ok_wof T) (hr.mono (by decide)) (by rfl) T.g_wof T.F_wof.kp T.b_wof .nil pass0 (pa_cons (pv 0) (pa_cons (pe_slice sl_str pe_str po_none (po_some (pe_op op_add pe_int (pe_ix ix_tup (pv 6) pe_int (fun _ _ => rfl))))) pa_nil))))))))
      pss_nil)
      (pss_cons (ps_if (pt_cmpR op_eq (pv 4) pe_int (nomark _))
      (pss_one (ps_ret (pe_lst (pa_cons (pv 3) pa_nil))))
      pss_nil)
      (pss_one (ps_ret (pe_call (ok_wany T) (hr.mono (by decide)) (by rfl) T.g_wany T.F_wany.kp T.b_wany .nil pass0 (pa_cons (pv 0) pa_nil))))))))))) , ?_⟩
    have ok := HA.ok
    have := ok.most
    have := ok.pos
    have c12 := ok.ok.few
    have c1 := ok.ok.one
    obtain ⟨ts, h1, h2⟩ := id HA.cells
    have wb := hid_none b H
    refine q_parP (P := fun x y H1 => ∃ (r : List Nat) (d : Nat), x = vS r ∧ y = .int (d : Int) ∧ r ∈ kept ∧ Ex (hid b H) H1 ∧ BagAt H1 b l0) (fun Q q => ?_) fun x y H1 hP => ?_
    · refine p_ofE (W := hid b H) (l0 := l0) (p := kp) (items := kept.map vS) (ev_var rfl) (ev_var rfl) HA.keptAt.at_ (hid_ex b H) wb B (by rw [List.length_map]; exact ok.pos) (by rw [List.length_map]; omega) _ fun v H4 hv => ?_
      obtain ⟨hm, e4, B4⟩ := hv
      obtain ⟨r, hr, rfl⟩ := List.mem_map.mp hm
      refine p_draw (W := hid b H) (ev_var rfl) ev_c e4 wb B4 (by decide) (by decide) _ fun v H5 hv => ?_
      obtain ⟨⟨d, rfl, _⟩, e5, B5⟩ := hv
      exact q _ _ H5 ⟨r, d, rfl, rfl, hr, e5, B5⟩
    · obtain ⟨r, d, rfl, rfl, hr, e1, B1⟩ := hP
      have rl := (ok.row r hr).1
      refine q_asgP (p_draw (W := hid b H) (top := (r.length : Int)) (ev_var rfl) (ev_lenS (ev_var rfl) (by omega)) e1 wb B1 (by omega) (by omega)) fun v H2 hv => ?_
      obtain ⟨⟨sp, rfl, hsp⟩, e2, B2⟩ := hv
      have hsp2 : sp < cs.length := by omega
      obtain ⟨v1, v4⟩ := ok.ok.val sp hsp2
      refine q_when (b := decide ((d : Int) = 0)) (et_test (ev_op (ev_var rfl) ev_c rv_eqI)) (fun _ H3 e3 => ?_) (fun _ H3 e3 => ?_)
      · exact s_ret (ev_op (ev_var rfl) (ev_lit (l := [46]) rfl) (rv_catS (by show r.length + 1 ≤ _; omega))) fun H4 e4 => k _ H4 (pv_S (by rw [List.length_append]; show _ + 1 ≤ _; omega)) (e2.trans (e3.trans e4)) (B2.ex (e3.trans e4))
      refine q_when (b := decide ((d : Int) = 1)) (et_test (ev_op (ev_var rfl) ev_c rv_eqI)) (fun _ H4 e4 => ?_) (fun _ H4 e4 => ?_)
      · exact s_ret (ev_slFrom (k := 1) (ev_var rfl) ev_c (by omega) (by decide)) fun H5 e5 => k _ H5 (pv_S (by rw [List.length_drop]; omega)) (e2.trans (e3.trans (e4.trans e5))) (B2.ex (e3.trans (e4.trans e5)))
      have e14 := e2.trans (e3.trans e4)
      have B4 := B2.ex (e3.trans e4)
      refine q_when (b := decide ((d : Int) = 2)) (et_test (ev_op (ev_var rfl) ev_c rv_eqI)) (fun _ H5 e5 => ?_) (fun _ H5 e5 => ?_)
      · have e15 := e14.trans e5
        refine s_ret (ev_op (ev_op (ev_is (ev_slTo (k := (sp : Int)) (ev_var rfl) (ev_var rfl) (by omega) (by omega)) (by rw [Int.toNat_natCast])) (ev_op (ev_lit (l := [48, 49, 50, 51, 52]) rfl) (ev_op (ev_op (ev_var rfl) (ev_var rfl) (rv_ixLn (i := sp) (sq_of (e15 _ _ h1)) (range_get hsp2))) ev_c (rv_ixTn (i := 1) (st_of (e15 _ _ (h2 sp hsp2))) rfl)) (rv_ixSn (i := (cellD cs sp).2) (c := ([48, 49, 50, 51, 52] : List Nat).getD (cellD cs sp).2 0) (by decide) (getD_some (by show _ < 5; omega)))) (rv_catS (by rw [List.length_take, List.length_singleton]; omega))) (ev_is (ev_slFrom (k := (sp : Int) + 1) (ev_var rfl) (ev_op (ev_var rfl) ev_c rv_add) (by omega) (by omega)) (by
            have : ((sp : Int) + 1).toNat = sp + 1 := by omega
            rw [this])) (rv_catS (by rw [List.length_append, List.length_take, List.length_drop, List.length_singleton]; omega))) fun H6 e6 => k _ H6 (pv_S (by rw [List.length_append, List.length_append, List.length_take, List.length_drop, List.length_singleton]; omega)) (e15.trans e6) (B4.ex (e5.trans e6))
      refine q_when (b := decide ((d : Int) < 5)) (et_test (ev_op (ev_var rfl) ev_c rv_lt)) (fun _ H6 e6 => ?_) (fun _ H6 e6 => ?_)
      · have e16 := e14.trans (e5.trans e6)
        have B6 := B4.ex (e5.trans e6)
        refine s_retP (p_join (P := fun H2 xs => xs.length ≤ 100 ∧ (∀ x ∈ xs, x.length = 1) ∧ Ex (hid b H) H2 ∧ BagAt H2 b l0) rfl (EvP.imp (p_lcA (b := b) (l0 := l0) (W := hid b H) (n := cs.length) (Pit := fun i v => ∃ c, v = vS [c]) (by
            have q := ei_list (K := K) (W := hid b H) (tl := tVar 1) (σ := [some (.ref b), some (.ref cl), some (.ref kp), some (vS r), some (.int (d : Int)), some (.int (sp : Int)), none]) (j := 6) (it := fun i => .ref (ts i)) (ev_var rfl) (sq_of h1) (fun i hi => by
              rw [List.length_map, List.length_range] at hi
              exact range_get hi)
            rw [List.length_map, List.length_range] at q
            exact q) (by omega) wb e16 B6 (fun i hi => rfl) (fun i H' hi e' B' => ?_)) fun v H7 hv => ?_)) fun v H7 hv => ?_
        · have ev4 := ok.ok.val i hi
          refine EvP.imp (p_ofS (W := hid b H') (l0 := l0) (l := sg.take (1 + (cellD cs i).2)) (ev_var rfl) (ev_is (ev_slTo (l := sg) (k := 1 + ((cellD cs i).2 : Int)) (ev_lit rfl) (ev_op ev_c (ev_op (ev_var rfl) ev_c (rv_ixTn (i := 1) (st_of (e' _ _ (h2 i hi))) rfl)) rv_add) (by decide) (by omega)) (by
            have : (1 + ((cellD cs i).2 : Int)).toNat = 1 + (cellD cs i).2 := by omega
            rw [this])) (hid_ex b H') (hid_none b H') B' (by rw [List.length_take]; show 1 ≤ min _ 5; omega) (by rw [List.length_take]; show min _ 5 ≤ _; omega)) fun v H2 hv => ?_
          obtain ⟨hm, e2, B2⟩ := hv
          obtain ⟨c, _, rfl⟩ := List.mem_map.mp hm
          exact ⟨⟨c, rfl⟩, e2, B2⟩
        · obtain ⟨D, xs, rfl, hD, hl, hp, e7, B7⟩ := hv
          have hxs : ∃ ys : List (List Nat), xs = ys.map vS ∧ ∀ y ∈ ys, y.length = 1 := by
            clear hD hl e7 B7
            induction xs with
            | nil => exact ⟨[], rfl, fun y hy => absurd hy List.not_mem_nil⟩
            | cons a xs ih =>
              obtain ⟨c, hc⟩ := hp 0 a rfl
              obtain ⟨ys, rfl, hy⟩ := ih fun i x hx => by
                obtain ⟨c, hc⟩ := hp (i + 1) x hx
                exact ⟨c, hc⟩
              refine ⟨[c] :: ys, by rw [hc] <;> rfl, fun y hm => ?_⟩
              rcases List.mem_cons.mp hm with hm | hm
              · rw [hm] <;> rfl
              · exact hy y hm
          obtain ⟨ys, rfl, hy⟩ := hxs
          rw [List.length_map] at hl
          exact ⟨D, ys, rfl, hD, by omega, fun x hx => by rw [hy x hx]; decide, by omega, hy, e7, B7⟩
        · obtain ⟨xs, rfl, hl, hy, e7, B7⟩ := hv
          refine k _ H7 (pv_S ?_) e7 B7
          have : xs.flatten.length = xs.length := by
            clear hl e7 B7
            induction xs with
            | nil => rfl
            | cons a xs ih =>
              rw [List.flatten_cons, List.length_append, ih fun y h => hy y (List.mem_cons_of_mem _ h), hy a (List.mem_cons_self ..), List.length_cons]
              omega
          omega
      have e16 := e14.trans (e5.trans e6)
      have B6 := B4.ex (e5.trans e6)
      refine q_when (b := decide ((d : Int) = 5)) (et_test (ev_op (ev_var rfl) ev_c rv_eqI)) (fun _ H7 e7 => ?_) (fun _ H7 e7 => ?_)
      · refine s_retL (el_lst (ea1 (ev_var rfl)) (by simp)) fun p H8 np e8 hp => ?_
        have B8 := B6.ex (e7.trans e8)
        exact k _ H8 (pv_lst (hid_at hp (bag_ne (B6.ex e7) np)) (by show 1 ≤ 1000; decide) fun x hx => by
          rw [List.mem_singleton.mp hx]
          exact pv_S (by omega)) (e16.trans (e7.trans e8)) B8
      · refine ev_var (i := 0) (v := .ref b) rfl H7 (Ex.refl H7) _ fun H8 e8 => ⟨b, l0, rfl, B6.ex (e7.trans e8), fun v H9 pv e9 B9 => k v H9 pv ((to_hid (e16.trans (e7.trans e8)) wb).trans e9) B9⟩
abbrev n_wsomeline : List Str := ["_law_bag_here", "_law_frame_here", "_law_sown", "_law_kept", "_law_tame"]
theorem sc_wsomeline : FnScope n_wsomeline ["_law_bag_here", "_law_frame_here", "_law_sown", "_law_kept", "_law_tame"] (defScope s_wsomeline) := ⟨rfl, rfl, rfl, by decide +kernel, rfl, by decide +kernel, by decide +kernel⟩
def spSomeLine : Sp := fun vs H Q _ => ∃ (b l0 cl sw kp : Addr) (cs : Cells) (sown kept : List (List Nat)), vs = [.ref b, .ref cl, .ref sw, .ref kp, .int 3] ∧ BagAt H b l0 ∧ HomeAt (hid b H) cl sw kp cs sown kept ∧ ∀ v H2, PVn 2 (hid b H2) v → Ex (hid b H) H2 → BagAt H2 b l0 → Q v H2
theorem ok_wsomeline (T : Tx K mg A) : FnOk P w K mg base CX0 10 (A.f "_law_some_line") (A.fd "_law_some_line") ["_law_bag_here", "_law_frame_here", "_law_sown", "_law_kept", "_law_tame"] spSomeLine := by
  refine T.F_wsomeline.ok sc_wsomeline (fun vs H Q E h => ?_) (fun cdv A' outer s H vs Q E hr h => ?_)
  · obtain ⟨b, l0, cl, sw, kp, cs, sown, kept, rfl, _⟩ := h
    rfl
  · obtain ⟨b, l0, cl, sw, kp, cs, sown, kept, rfl, B, HA, k⟩ := h
    refine ⟨_, PSs.nox (pss_cons (ps_if (pt_cmpR op_eq (pe_call (ok_wdraw T) (hr.mono (by decide)) (by rfl) T.g_wdraw T.F_wdraw.kp T.b_wdraw .nil pass0 (pa_cons (pv 0) (pa_cons (pv 4) pa_nil))) pe_int (nomark _))
      (pss_one (ps_ret (pe_call (ok_woddline T) (hr.mono (by decide)) (by rfl) T.g_woddline T.F_woddline.kp T.b_woddline .nil pass0 (pa_cons (pv 0) (pa_cons (pv 1) (pa_cons (pv 3) pa_nil))))))
      pss_nil)
      (pss_one (ps_ret (pe_call (ok_wline T) (hr.mono (by decide)) (by rfl) T.g_wline T.F_wline.kp T.b_wline .nil pass0 (pa_cons (pv 0) (pa_cons (pv 2) (pa_cons (pv 3) pa_nil))))))) , ?_⟩
    have wb := hid_none b H
    have c12 := HA.ok.ok.few
    refine q_ifP (P := fun _ H1 => Ex (hid b H) H1 ∧ BagAt H1 b l0) (fun Q q => p_draw (W := hid b H) (ev_var rfl) (ev_var rfl) (hid_ex b H) wb B (by decide) (by decide) _ fun v H1 hp => ?_) (fun H1 hp => ?_) (fun H1 hp => ?_)
    · obtain ⟨⟨d, rfl, _⟩, e1, B1⟩ := hp
      exact ⟨rfl, _, rfl, q _ H1 ⟨e1, B1⟩⟩
    · obtain ⟨e1, B1⟩ := hp
      refine s_retP (te := tCall spOdd [] E0 (tCons (tVar 0) (tCons (tVar 1) (tCons (tVar 3) tNil)))) (P := fun v H2 => PVn 2 (hid b H2) v ∧ Ex (hid b H) H2 ∧ BagAt H2 b l0) (fun Q q => ?_) fun v H2 hv => k v H2 hv.1 hv.2.1 hv.2.2
      exact (ea3 (ev_var rfl) (ev_var rfl) (ev_var rfl) : EvA (tCons (tVar 0) (tCons (tVar 1) (tCons (tVar 3) tNil))) [some (.ref b), some (.ref cl), some (.ref sw), some (.ref kp), some (.int 3)] H1 [.ref b, .ref cl, .ref kp]) H1 (Ex.refl H1) _ fun H2 e2 => ⟨b, l0, cl, sw, kp, cs, sown, kept, rfl, B1.ex e2, HA.ex (to_hid (e1.trans e2) wb), fun v H3 pv e3 B3 => q v H3 ⟨pv, (to_hid (e1.trans e2) wb).trans e3, B3⟩⟩
    · obtain ⟨e1, B1⟩ := hp
      unfold tNext
      dsimp only
      refine s_retP (p_line (W := hid b H) (ev_var rfl) (ev_var rfl) (ev_var rfl) e1 wb B1 HA) fun v H2 hv => ?_
      obtain ⟨r, rfl, hr, e2, B2⟩ := hv
      exact k _ H2 (pv_S (by have := (HA.ok.row r hr).1; omega)) e2 B2
abbrev n_wsomespot : List Str := ["_law_bag_here", "_law_low", "_law_high", "_law_tame"]
theorem sc_wsomespot : FnScope n_wsomespot ["_law_bag_here", "_law_low", "_law_high", "_law_tame"] (defScope s_wsomespot) := ⟨rfl, rfl, rfl, by decide +kernel, rfl, by decide +kernel, by decide +kernel⟩
def spSomeSpot : Sp := fun vs H Q _ => ∃ (b l0 : Addr) (n : Nat), vs = [.ref b, .int 0, .int (n : Int), .int 3] ∧ n ≤ 1000 ∧ BagAt H b l0 ∧ ∀ v H2, PVn 2 (hid b H2) v → Ex (hid b H) H2 → BagAt H2 b l0 → Q v H2
theorem ok_wsomespot (T : Tx K mg A) : FnOk P w K mg base CX0 10 (A.f "_law_some_spot") (A.fd "_law_some_spot") ["_law_bag_here", "_law_low", "_law_high", "_law_tame"] spSomeSpot := by
  refine T.F_wsomespot.ok sc_wsomespot (fun vs H Q E h => ?_) (fun cdv A' outer s H vs Q E hr h => ?_)
  · obtain ⟨b, l0, n, rfl, _⟩ := h
    rfl
  · obtain ⟨b, l0, n, rfl, n1, B, k⟩ := h
    refine ⟨_, PSs.nox (pss_cons (ps_if (PW.pt (pw_or (pt_cmpR op_lt (pv 2) (pv 1) (nomark _)) (pw_or1 (pt_cmpR op_eq (pe_call (ok_wdraw T) (hr.mono (by decide)) (by rfl) T.g_wdraw T.F_wdraw.kp T.b_wdraw .nil pass0 (pa_cons (pv 0) (pa_cons (pv 3) pa_nil))) pe_int (nomark _)))))
      (pss_one (ps_ret (pe_call (ok_wof T) (hr.mono (by decide)) (by rfl) T.g_wof T.F_wof.kp T.b_wof .nil pass0 (pa_cons (pv 0) (pa_cons (pe_lst (pa_cons (pe_op op_sub (pv 1) pe_int) (pa_cons (pe_op op_add (pv 2) pe_int) (pa_cons (pv 1) (pa_cons (pv 2) (pa_cons (pe_op op_add (pv 2) pe_int) (pa_cons pe_bl (pa_cons pe_bl (pa_cons (pe_callTy call_str_int (by rfl) T.n_str (by decide +kernel) (pa_cons (pe_callB (call_max2 rfl) (by rfl) T.n_max (by decide +kernel) (pa_cons (pv 1) (pa_cons pe_int pa_nil))) pa_nil)) (pa_cons (pe_lst (pa_cons (pv 1) pa_nil)) (pa_cons (pe_call (ok_wany T) (hr.mono (by decide)) (by rfl) T.g_wany T.F_wany.kp T.b_wany .nil pass0 (pa_cons (pv 0) pa_nil)) pa_nil))))))))))) pa_nil)))))
      pss_nil)
      (pss_one (ps_ret (pe_op op_add (pv 1) (pe_call (ok_wdraw T) (hr.mono (by decide)) (by rfl) T.g_wdraw T.F_wdraw.kp T.b_wdraw .nil pass0 (pa_cons (pv 0) (pa_cons (pe_op op_add (pe_op op_sub (pv 2) (pv 1)) pe_int) pa_nil))))))) , ?_⟩
    have wb := hid_none b H
    have hlt : decide ((n : Int) < 0) = false := decide_eq_false (by omega)
    refine q_ifP (P := fun _ H1 => Ex (hid b H) H1 ∧ BagAt H1 b l0) (fun Q q => ?_) (fun H1 hp => ?_) (fun H1 hp => ?_)
    · refine (et_test (ev_op (ev_var rfl) (ev_var rfl) rv_lt) : EvT _ _ _ (decide ((n : Int) < 0))) H (Ex.refl H) _ fun H1 e1 => ?_
      rw [hlt]
      refine p_draw (W := hid b H) (ev_var rfl) (ev_var rfl) ((hid_ex b H).trans e1) wb (B.ex e1) (by decide) (by decide) _ fun v H2 hp => ?_
      obtain ⟨⟨d, rfl, _⟩, e2, B2⟩ := hp
      exact ⟨rfl, _, rfl, q _ H2 ⟨e2, B2⟩⟩
    · obtain ⟨e1, B1⟩ := hp
      have wb1 := hid_none b H1
      refine s_retP (p_ofB (n := 2) (m := 10) (l0 := l0) (ev_var rfl) B1 (eab_cons wb1 (epb_ev (ev_op (ev_var rfl) ev_c rv_sub) fun _ => pv_int) (eab_cons wb1 (epb_ev (ev_op (ev_var rfl) ev_c rv_add) fun _ => pv_int) (eab_cons wb1 (epb_ev (ev_var rfl) fun _ => pv_int) (eab_cons wb1 (epb_ev (ev_var rfl) fun _ => pv_int) (eab_cons wb1 (epb_ev (ev_op (ev_var rfl) ev_c rv_add) fun _ => pv_int) (eab_cons wb1 (epb_ev ev_c fun _ => pv_bl) (eab_cons wb1 (epb_ev ev_c fun _ => pv_bl)
        (eab_cons wb1 (epb_ev (v := .str (Str.ofString (toString (1 : Int)))) (fun H2 e2 Q q => ⟨_, rfl, 0, 1, rfl, 1, rfl, by decide +kernel, q H2 (Ex.refl H2)⟩) fun _ => pv_str (by decide +kernel)) (eab_cons wb1 (epb_lst (n := 1) (eab_cons wb1 (epb_ev (ev_var rfl) fun _ => pv_int) eab_nil) (by decide)) (eab_cons wb1 (epb_any fun H2 e2 => ev_var rfl) eab_nil)))))))))) (by decide) (by decide)) fun v H2 hv => k v H2 hv.1 ((to_hid e1 wb).trans hv.2.1) hv.2.2
    · obtain ⟨e1, B1⟩ := hp
      unfold tNext
      dsimp only
      refine s_retP (P := fun v H2 => (∃ d : Nat, v = .int (d : Int)) ∧ Ex (hid b H) H2 ∧ BagAt H2 b l0) (fun Q q => ?_) fun v H2 hv => ?_
      · refine ev_var (i := 1) (v := .int 0) rfl H1 (Ex.refl H1) _ fun H2 e2 => ?_
        refine p_draw (W := hid b H) (l0 := l0) (top := (n : Int) - 0 + 1) (ev_var rfl) (ev_op (ev_op (ev_var rfl) (ev_var rfl) rv_sub) ev_c rv_add) (e1.trans e2) wb (B1.ex e2) (by omega) (by omega) _ fun v H3 hv => ?_
        obtain ⟨⟨d, rfl, _⟩, e3, B3⟩ := hv
        exact ⟨_, _, rfl, rfl, q _ H3 ⟨⟨d, by show V.int _ = V.int _; rw [Int.zero_add]⟩, e3, B3⟩⟩
      · obtain ⟨⟨d, rfl⟩, e2, B2⟩ := hv
        exact k _ H2 pv_int e2 B2
end
end Nt
end
section
set_option Elab.async false
set_option linter.all false
set_option maxRecDepth 100000
set_option maxHeartbeats 400000
namespace Nt
open PySem PySem.Spec PyProof.Rows L2 Evl SX
def RetT (xs : List V) (H : Hp) (Q : VK) : Prop := ∀ q H2, H q = none → Ex H H2 → H2 q = some (.tup xs) → Q (.ref q) H2
theorem RetT.ex {xs : List V} {H H' : Hp} {Q : VK} (h : RetT xs H Q) (e : Ex H H') : RetT xs H' Q := fun q H2 hq e2 h2 => h q H2 (fresh_back e hq) (e.trans e2) h2
def answer (v p x : V) : Flt → List V
  | .ok => [.str "told", x]
  | .bad => [.str "BadRow", v]
  | .out => [.str "NotInBand", v]
  | .mom => [.str "NoMoment", p]
def hs (A : Ad) (i : Nat) : List (Value × (Addr → Value → Option Addr → TS)) := [(Value.ref (A.C (Str.ofString "NoMoment")), fun a cls d => tRet (tTup (tCons (tC (V.str (Str.ofString "NoMoment"))) (tCons (tXf a cls d (A.C (Str.ofString "NoMoment")) (Str.ofString "moment") (tVar i)) tNil)))),
  (Value.ref (A.C (Str.ofString "NotInBand")), fun a cls d => tRet (tTup (tCons (tC (V.str (Str.ofString "NotInBand"))) (tCons (tXf a cls d (A.C (Str.ofString "NotInBand")) (Str.ofString "row") (tVar i)) tNil)))),
  (Value.ref (A.C (Str.ofString "BadRow")), fun a cls d => tRet (tTup (tCons (tC (V.str (Str.ofString "BadRow"))) (tCons (tXf a cls d (A.C (Str.ofString "BadRow")) (Str.ofString "row") (tVar i)) tNil))))]
section
variable {K : PySem.W.Frag} {mg : Str → Option Value} {A : Ad} {σ : L2.St} {H : Hp} {i : Nat} {D : Ends} {v p x : V} {Wout : WX}
theorem hand1 {c f : Str} {n : Str} {v : V} {d : Addr} {H2 : Hp} {a : Addr} (hi : i < σ.length) (hx : ∃ fs, H2 d = some (.xd fs) ∧ fs.lookup f = some v) (h : RetT [.str n, v] H2 D.rt) :
    tRet (tTup (tCons (tC (V.str n)) (tCons (tXf a (.ref (A.C c)) (some d) (A.C c) f (tVar i)) tNil))) (Nr.ends_ i D) (σ.set i (some (.ref a))) H2 := by
  obtain ⟨fs, h1, h2⟩ := hx
  refine ⟨.ref a, ?_, rfl, rfl, d, fs, v, rfl, h1, h2, by show 2 ≤ sizeLine; decide, fun q hq => h q _ hq (Ex.new hq) upd_same⟩
  rw [List.getElem?_set_self hi]
theorem caught (T : Tx K mg A) (hi : i < σ.length) : ∀ {f : Flt}, RetT (answer v p x f) H D.rt → f ≠ .ok → Raised A H v p (WE (Nr.wTries K i Wout D (hs A i)) σ) f
  | .ok, _, h => absurd rfl h
  | .mom, h, _ => fun d H2 hd e2 hx => ⟨true, T.em_NoMoment_NoMoment, fun _ a ha => hand1 hi hx (h.ex e2), fun h => by cases h⟩
  | .out, h, _ => fun d H2 hd e2 hx => ⟨false, T.em_NotInBand_NoMoment, (fun h => by cases h), fun _ => ⟨true, T.em_NotInBand_NotInBand, fun _ a ha => hand1 hi hx (h.ex e2), fun h => by cases h⟩⟩
  | .bad, h, _ => fun d H2 hd e2 hx => ⟨false, T.em_BadRow_NoMoment, (fun h => by cases h), fun _ => ⟨false, T.em_BadRow_NotInBand, (fun h => by cases h), fun _ => ⟨true, T.em_BadRow_BadRow, fun _ a ha => hand1 hi hx (h.ex e2), fun h => by cases h⟩⟩⟩
end
theorem raised_any {A : Ad} {H : Hp} {v p : V} {E : XK} {f : Flt} (h : f ≠ .ok → Raised A H v p E f) : Raised A H v p E f := by
  cases f with
  | ok => exact trivial
  | bad => exact h (by intro h; cases h)
  | out => exact h (by intro h; cases h)
  | mom => exact h (by intro h; cases h)
section
variable {P : Program} {w : World} {K : PySem.W.Frag} {mg : Str → Option Value} {base : Heap} {A : Ad}
abbrev n_wasksuntil : List Str := ["_law_flow", "_law_v", "_law_p", "_law_named", "e"]
theorem sc_wasksuntil : FnScope n_wasksuntil ["_law_flow", "_law_v", "_law_p", "_law_named"] (defScope s_wasksuntil) := ⟨rfl, rfl, rfl, by decide +kernel, rfl, by decide +kernel, by decide +kernel⟩
def spAsksUntil (A : Ad) : Sp := fun vs H Q _ => ∃ (s : Addr) (cs : Cells) (kept rows : List (List Nat)) (v p x : V) (nm : Bool), vs = [.ref s, v, p, .bl nm] ∧ StreamAt A H s cs kept rows ∧ (∀ r ∈ kept, r.length = cs.length) ∧ Args2 H v p ∧
  (∀ (r : List Nat) (m : Nat), v = vS r → r ∈ kept → p = .int (m : Int) → m ≤ rows.length → x = .int (untilF rows.length (seenL rows r m) 0 : Int)) ∧ RetT (answer v p x (fault cs kept rows.length v p)) H Q
theorem ok_wasksuntil (T : Tx K mg A) : FnOk P w K mg base CX0 16 (A.f "_law_asks_until") (A.fd "_law_asks_until") ["_law_flow", "_law_v", "_law_p", "_law_named"] (spAsksUntil A) := by
  refine T.F_wasksuntil.ok sc_wasksuntil (fun vs H Q E h => ?_) (fun cdv A' outer s' H vs Q E hr h => ?_)
  · obtain ⟨s, cs, kept, rows, v, p, x, nm, rfl, _⟩ := h
    rfl
  · obtain ⟨s, cs, kept, rows, v, p, x, nm, rfl, hS, hkl, hA, hx, k⟩ := h
    refine ⟨_, PSs.nox (pss_one (Nr.ps_tries (n := "e") (i := 4) rfl rfl sc_wasksuntil.nd rfl rfl takes_none5 (fun W pn xe tk _ => (pss_one (ps_ret (pe_tup (pa_cons pe_str (pa_cons (pe_ifExp (pt_val (pv 3)) (Nr.pe_callQ0 (ok_showsuntil T) (hr.mono (by decide)) (by rfl) T.g_showsuntil T.F_showsuntil.kp T.kb0_showsuntil (fun σ => passAt tk σ) (pk_cons (pv 1) (pk_cons (pv 0) (pk_cons (pv 2) pk_nil)))) (Nr.pe_callQ (ok_showsuntil T) (hr.mono (by decide)) (by rfl) T.g_showsuntil T.F_showsuntil.kp T.kb_showsuntil (fun σ => passAt tk σ) (pa_cons (pv 0) (pa_cons (pv 1) pa_nil)) (pk_cons (pv 2) pk_nil))) pa_nil))))))
      (.cons ⟨rfl, by decide, .inl T.g_NoMoment⟩ (fun a oe cls d pn hz hf => (pss_one (ps_ret (pe_tup (pa_cons pe_str (pa_cons (pe_xf T.xf_NoMoment T.n_NoMoment_moment hz hf (pv 4)) pa_nil))))))
      (.cons ⟨rfl, by decide, .inl T.g_NotInBand⟩ (fun a oe cls d pn hz hf => (pss_one (ps_ret (pe_tup (pa_cons pe_str (pa_cons (pe_xf T.xf_NotInBand T.n_NotInBand_row hz hf (pv 4)) pa_nil))))))
      (.cons ⟨rfl, by decide, .inl T.g_BadRow⟩ (fun a oe cls d pn hz hf => (pss_one (ps_ret (pe_tup (pa_cons pe_str (pa_cons (pe_xf T.xf_BadRow T.n_BadRow_row hz hf (pv 4)) pa_nil))))))
      .nil))))) , ?_⟩
    show tRet _ _ _ _
    have kk : ∀ (H2 : Hp) (r : List Nat) (m : Nat), Ex H H2 → v = vS r → r ∈ kept → r.length = cs.length → rowB cs r = true → p = .int (m : Int) → m ≤ rows.length → RetV (.int (untilF rows.length (seenL rows r m) 0 : Int)) H2 (fun z H3 => (2 ≤ sizeLine) ∧ ∀ q, H3 q = none → Q (.ref q) (upd H3 q (.tup [.str "told", z]))) := fun H2 r m e2 h1 h2 h3 h4 h5 h6 H3 e3 => by
      refine ⟨by decide, fun q hq => ?_⟩
      have hf : fault cs kept rows.length v p = .ok := by
        rw [h1, h5]
        exact fault_ok h2 h3 h4 h6
      rw [hf, hx r m h1 h2 h5 h6] at k
      exact k q _ (fresh_back (e2.trans e3) hq) ((e2.trans e3).trans (Ex.new hq)) upd_same
    have hw : ∀ H2, Ex H H2 → Raised A H2 v p (WE (Nr.wTries K 4 (fun _ _ _ _ => False) { nx := fun x H' => Q V.non H', rt := Q } (hs A 4)) [some (.ref s), some v, some p, some (.bl nm), none]) (fault cs kept rows.length v p) := fun H2 e2 => raised_any fun hne => caught T (by show 4 < 5; decide) (k.ex e2) hne
    cases nm with
    | true =>
      refine ⟨.bl true, rfl, true, rfl, ?_⟩
      dsimp only
      rw [if_pos rfl]
      exact ⟨v, rfl, .ref s, rfl, p, rfl, rfl, rfl, s, cs, kept, rows, v, p, rfl, hS, hkl, hA, hw H (Ex.refl H), fun r m a1 a2 a3 a4 a5 a6 => kk H r m (Ex.refl H) a1 a2 a3 a4 a5 a6⟩
    | false =>
      refine ⟨.bl false, rfl, false, rfl, ?_⟩
      dsimp only
      rw [if_neg (by decide)]
      exact ⟨.ref s, rfl, v, rfl, p, rfl, rfl, rfl, s, cs, kept, rows, v, p, rfl, hS, hkl, hA, hw H (Ex.refl H), fun r m a1 a2 a3 a4 a5 a6 => kk H r m (Ex.refl H) a1 a2 a3 a4 a5 a6⟩
abbrev n_wasksseen : List Str := ["_law_flow", "_law_v", "_law_p", "e"]
theorem sc_wasksseen : FnScope n_wasksseen ["_law_flow", "_law_v", "_law_p"] (defScope s_wasksseen) := ⟨rfl, rfl, rfl, by decide +kernel, rfl, by decide +kernel, by decide +kernel⟩
def spAsksSeen (A : Ad) : Sp := fun vs H Q _ => ∃ (s : Addr) (cs : Cells) (kept rows : List (List Nat)) (v p x : V), vs = [.ref s, v, p] ∧ StreamAt A H s cs kept rows ∧ (∀ r ∈ kept, r.length = cs.length) ∧ Args2 H v p ∧
  (∀ (r : List Nat) (m : Nat), v = vS r → r ∈ kept → p = .int (m : Int) → m ≤ rows.length → x = .int ((seenL rows r m).length : Int)) ∧ RetT (answer v p x (fault cs kept rows.length v p)) H Q
theorem ok_wasksseen (T : Tx K mg A) : FnOk P w K mg base CX0 16 (A.f "_law_asks_seen") (A.fd "_law_asks_seen") ["_law_flow", "_law_v", "_law_p"] (spAsksSeen A) := by
  refine T.F_wasksseen.ok sc_wasksseen (fun vs H Q E h => ?_) (fun cdv A' outer s' H vs Q E hr h => ?_)
  · obtain ⟨s, cs, kept, rows, v, p, x, rfl, _⟩ := h
    rfl
  · obtain ⟨s, cs, kept, rows, v, p, x, rfl, hS, hkl, hA, hx, k⟩ := h
    refine ⟨_, PSs.nox (pss_one (Nr.ps_tries (n := "e") (i := 3) rfl rfl sc_wasksseen.nd rfl rfl takes_none5 (fun W pn xe tk _ => (pss_one (ps_ret (pe_tup (pa_cons pe_str (pa_cons (pe_callB (show CallR _ _ (fun xs H Q => ∃ p ys, xs = [.ref p] ∧ (SqL K H p ys ∨ SqT K H p ys) ∧ Q (.int ys.length) H) from call_len_seq) (by rfl) T.n_len PySem.boot_len (pa_cons (Nr.pe_callQ (ok_seen T) (hr.mono (by decide)) (by rfl) T.g_seen T.F_seen.kp T.kb_seen (fun σ => passAt tk σ) (pa_cons (pv 0) (pa_cons (pv 1) pa_nil)) (pk_cons (pv 2) pk_nil)) pa_nil)) pa_nil))))))
      (.cons ⟨rfl, by decide, .inl T.g_NoMoment⟩ (fun a oe cls d pn hz hf => (pss_one (ps_ret (pe_tup (pa_cons pe_str (pa_cons (pe_xf T.xf_NoMoment T.n_NoMoment_moment hz hf (pv 3)) pa_nil))))))
      (.cons ⟨rfl, by decide, .inl T.g_NotInBand⟩ (fun a oe cls d pn hz hf => (pss_one (ps_ret (pe_tup (pa_cons pe_str (pa_cons (pe_xf T.xf_NotInBand T.n_NotInBand_row hz hf (pv 3)) pa_nil))))))
      (.cons ⟨rfl, by decide, .inl T.g_BadRow⟩ (fun a oe cls d pn hz hf => (pss_one (ps_ret (pe_tup (pa_cons pe_str (pa_cons (pe_xf T.xf_BadRow T.n_BadRow_row hz hf (pv 3)) pa_nil))))))
      .nil))))), ?_⟩
    show tRet _ _ _ _
    have hw : ∀ H2, Ex H H2 → Raised A H2 v p (WE (Nr.wTries K 3 (fun _ _ _ _ => False) { nx := fun x H' => Q V.non H', rt := Q } (hs A 3)) [some (.ref s), some v, some p, none]) (fault cs kept rows.length v p) := fun H2 e2 => raised_any fun hne => caught T (by show 3 < 4; decide) (k.ex e2) hne
    refine ⟨.ref s, rfl, v, rfl, p, rfl, rfl, rfl, s, cs, kept, rows, v, p, rfl, hS, hkl, hA, hw H (Ex.refl H), fun r m h1 h2 h3 h4 h5 h6 a H3 e3 hst => ?_⟩
    have hf : fault cs kept rows.length v p = .ok := by
      rw [h1, h5]
      exact fault_ok h2 h3 h4 h6
    rw [hf, hx r m h1 h2 h5 h6] at k
    obtain ⟨ts, nm, g1, g2⟩ := hst
    refine ⟨a, _, rfl, Or.inl (sq_of g1), by show 2 ≤ sizeLine; decide, fun q hq => ?_⟩
    rw [List.length_map, List.length_range]
    exact k q _ (fresh_back e3 hq) (e3.trans (Ex.new hq)) upd_same
end
end Nt
end
section
set_option Elab.async false
set_option linter.all false
set_option maxRecDepth 100000
set_option maxHeartbeats 400000
namespace Nt
open PySem PySem.Spec PyProof.Rows L2 Evl SX
/-! ### displays of mixed items -/
section
variable {K : PySem.W.Frag} {σ : L2.St} {W H H' : Hp} {ta ta2 tb tc te tl : TE} {t : TA} {x y z v : V} {D : Ends} {A : Ad}
def EaR (t : TA) (σ : L2.St) (W : Hp) (R : Hp → List V → Prop) : Prop := ∀ H, Ex W H → ∀ Q : List V → Hp → Prop, (∀ xs H1, Ex H H1 → R H1 xs → Q xs H1) → t σ H Q
theorem ear_nil : EaR tNil σ W (fun _ xs => xs = []) := fun H e Q q => q [] H (Ex.refl H) rfl
theorem ear_v {R : Hp → List V → Prop} (h : Ev te σ W v) (k : EaR t σ W R) : EaR (tCons te t) σ W (fun H xs => ∃ ys, xs = v :: ys ∧ R H ys) := fun H e Q q => h H e _ fun H1 e1 => k H1 (e.trans e1) _ fun ys H2 e2 r => q _ H2 (e1.trans e2) ⟨ys, rfl, r⟩
theorem ear_l {R : Hp → List V → Prop} {l : List V} (h : EvL te σ W l) (k : EaR t σ W R) : EaR (tCons te t) σ W (fun H xs => ∃ p ys, xs = .ref p :: ys ∧ H p = some (.lst l) ∧ R H ys) := fun H e Q q => h H e _ fun p H1 _ e1 hp => k H1 (e.trans e1) _ fun ys H2 e2 r => q _ H2 (e1.trans e2) ⟨p, ys, rfl, e2 _ _ hp, r⟩
theorem s_retR {R : Hp → List V → Prop} (h : EaR t σ H R) (hz : ∀ H1 xs, R H1 xs → xs.length ≤ 1000) (k : ∀ p xs H1, Ex H H1 → R H1 xs → H1 p = none → D.rt (.ref p) (upd H1 p (.lst xs))) : tRet (tLst t) D σ H := h H (Ex.refl H) _ fun xs H1 e1 r => ⟨by show xs.length ≤ 16777216; have := hz _ _ r; omega, fun p hp => k p xs H1 e1 r hp⟩
theorem ev_reprO {s : Addr} {cs : Cells} {kept rows : List (List Nat)} {E : XK} (h : Ev ta σ H (.ref s)) (hS : StreamAt A H s cs kept rows) : Ev (tCB (Nr.rReprO (A.C "Stream") (spStreamRepr A) E) (tCons ta tNil)) σ H (.str (reprS rows.length)) := fun H1 e Q q =>
  h H1 e _ fun H2 e2 => by
    have hS2 := hS.ex (e.trans e2)
    obtain ⟨dx, b, rl, hs, _⟩ := id hS2
    exact ⟨s, dx, _, rfl, hs, s, cs, kept, rows, rfl, hS2, fun H3 e3 => ⟨_, rfl, q H3 (e2.trans e3)⟩⟩
theorem ev_boolO {s : Addr} {cs : Cells} {kept rows : List (List Nat)} {E : XK} (h : Ev ta σ H (.ref s)) (hS : StreamAt A H s cs kept rows) : Ev (tCB (Nr.rBoolO (A.C "Stream") spStreamBool E) (tCons ta tNil)) σ H (.bl true) := fun H1 e Q q =>
  h H1 e _ fun H2 e2 => by
    have hS2 := hS.ex (e.trans e2)
    obtain ⟨dx, b, rl, hs, _⟩ := id hS2
    exact ⟨s, dx, _, rfl, hs, s, rfl, fun H3 e3 => ⟨_, rfl, q H3 (e2.trans e3)⟩⟩
end
def FactsAt (H : Hp) (p : Addr) (rows : List (List Nat)) (st : List Nat) (sp : Int) (tel ends : List V) : Prop := ∃ l1 l2 l3, H p = some (.lst [.ref l1, vS st, .int sp, .ref l2, .ref l3, .int (rows.length : Int), .str (reprS rows.length), .bl true]) ∧ H l1 = some (.lst (rows.map vS)) ∧ H l2 = some (.lst tel) ∧ H l3 = some (.lst ends)
section
variable {P : Program} {w : World} {K : PySem.W.Frag} {mg : Str → Option Value} {base : Heap} {A : Ad}
abbrev n_wfacts : List Str := ["_law_flow"]
theorem sc_wfacts : FnScope n_wfacts ["_law_flow"] (defScope s_wfacts) := ⟨rfl, rfl, rfl, by decide +kernel, rfl, by decide +kernel, by decide +kernel⟩
def spFacts (A : Ad) : Sp := fun vs H Q _ => ∃ (s : Addr) (cs : Cells) (kept rows : List (List Nat)), vs = [.ref s] ∧ StreamAt A H s cs kept rows ∧
  ∀ p H2, Ex H H2 → FactsAt H2 p rows (stand cs.length rows) ((rows.length : Int) - ((telN cs.length rows).length : Int)) ((telN cs.length rows).map fun m : Nat => V.int (m : Int)) ((List.range rows.length).map fun i => optI (endN rows (i + 1))) → Q (.ref p) H2
theorem ok_wfacts (T : Tx K mg A) : FnOk P w K mg base CX0 14 (A.f "_law_facts") (A.fd "_law_facts") ["_law_flow"] (spFacts A) := by
  refine T.F_wfacts.ok sc_wfacts (fun vs H Q E h => ?_) (fun cdv A' outer s' H vs Q E hr h => ?_)
  · obtain ⟨s, cs, kept, rows, rfl, _⟩ := h
    rfl
  · obtain ⟨s, cs, kept, rows, rfl, hS, k⟩ := h
    obtain ⟨dx, b, rl, hs, hb, R, ok⟩ := id hS
    refine ⟨_, PSs.nox (pss_one (ps_ret (pe_lst (pa_cons (pe_meth0 (pv 0) T.c_Stream T.m_Streamrows (ok_Streamrows T) (hr.mono (by decide)) T.b_Streamrows .nil pass0) (pa_cons (pe_prop (pv 0) T.c_Stream T.p_Streamstanding (ok_Streamstanding T) (hr.mono (by decide)) T.b_Streamstanding .nil pass0 rfl) (pa_cons (pe_prop (pv 0) T.c_Stream T.p_Streamsparecount (ok_Streamsparecount T) (hr.mono (by decide)) T.b_Streamsparecount .nil pass0 rfl) (pa_cons (pe_meth0 (pv 0) T.c_Stream T.m_Streamtellers (ok_Streamtellers T) (hr.mono (by decide)) T.b_Streamtellers.choose_spec.2 T.b_Streamtellers.choose_spec.1 pass0) (pa_cons (pe_meth0 (pv 0) T.c_Stream T.m_Streamends (ok_Streamends T) (hr.mono (by decide)) T.b_Streamends .nil pass0) (pa_cons (pe_callB (Nr.call_lenO T.m_Streamlen.at_ T.m_Streamlen.fn (ok_Streamlen T) (hr.mono (by decide)) T.b_Streamlen pass0) (by rfl) T.n_len PySem.boot_len (pa_cons (pv 0) pa_nil)) (pa_cons (pe_callB (Nr.call_reprO T.m_Streamrepr.at_ T.m_Streamrepr.fn (ok_Streamrepr T) (hr.mono (by decide)) T.b_Streamrepr pass0) (by rfl) T.n_repr (by decide +kernel) (pa_cons (pv 0) pa_nil)) (pa_cons (pe_callTy (Nr.call_boolO T.m_Streambool.at_ T.m_Streambool.fn (ok_Streambool T) (hr.mono (by decide)) T.b_Streambool pass0) (by rfl) T.n_bool (by decide +kernel) (pa_cons (pv 0) pa_nil)) pa_nil))))))))))) , ?_⟩
    refine s_retR (ear_l (el_meth (vs := []) (dvs := []) (xs := rows.map vS) (ev_var rfl) hs (fsS_no (by decide +kernel) (by decide +kernel)) ea_nil (fun H1 e1 Q q E => ⟨s, cs, kept, rows, rfl, hS.ex e1, q⟩))
      (ear_v (ev_prop (dvs := []) (z := vS (stand cs.length rows)) (ev_var rfl) hs (fun H1 e1 Q q E => ⟨s, cs, kept, rows, rfl, hS.ex e1, q⟩))
      (ear_v (ev_prop (dvs := []) (z := .int ((rows.length : Int) - ((telN cs.length rows).length : Int))) (ev_var rfl) hs (fun H1 e1 Q q E => ⟨s, cs, kept, rows, rfl, hS.ex e1, q⟩))
      (ear_l (el_meth (vs := []) (xs := (telN cs.length rows).map fun m : Nat => V.int (m : Int)) (ev_var rfl) hs (fsS_no (by decide +kernel) (by decide +kernel)) ea_nil (fun H1 e1 Q q E => ⟨s, cs, kept, rows, rfl, hS.ex e1, q⟩))
      (ear_l (el_meth (vs := []) (dvs := []) (xs := (List.range rows.length).map fun i => optI (endN rows (i + 1))) (ev_var rfl) hs (fsS_no (by decide +kernel) (by decide +kernel)) ea_nil (fun H1 e1 Q q E => ⟨s, cs, kept, rows, rfl, hS.ex e1, q⟩))
      (ear_v (ev_lenO (ev_var rfl) hS) (ear_v (ev_reprO (ev_var rfl) hS) (ear_v (ev_boolO (ev_var rfl) hS) ear_nil)))))))) (fun H1 xs h => ?_) (fun p xs H1 e1 h hp => ?_)
    · obtain ⟨p1, ys1, rfl, h1, ys2, rfl, ys3, rfl, p2, ys4, rfl, h2, p3, ys5, rfl, h3, ys6, rfl, ys7, rfl, ys8, rfl, rfl⟩ := h
      show 8 ≤ 1000
      decide
    · obtain ⟨p1, ys1, rfl, h1, ys2, rfl, ys3, rfl, p2, ys4, rfl, h2, p3, ys5, rfl, h3, ys6, rfl, ys7, rfl, ys8, rfl, rfl⟩ := h
      exact k p _ (e1.trans (Ex.new hp)) ⟨p1, p2, p3, upd_same, Ex.new hp _ _ h1, Ex.new hp _ _ h2, Ex.new hp _ _ h3⟩
abbrev n_wduefacts : List Str := ["_law_wide", "_law_past_here", "_law_n", "_law_tellers_here", "_law_ends", "_law_k"]
theorem sc_wduefacts : FnScope n_wduefacts ["_law_wide", "_law_past_here"] (defScope s_wduefacts) := ⟨rfl, rfl, rfl, by decide +kernel, rfl, by decide +kernel, by decide +kernel⟩
def spDueFacts : Sp := fun vs H Q _ => ∃ (a : Addr) (rows : List (List Nat)) (n : Nat), vs = [.int (n : Int), .ref a] ∧ RowsAt H a rows n ∧ Asc rows ∧
  ∀ (ys : List Int) p H2, ys.Perm ((ltel n rows).map fun m : Nat => (m : Int)) → ys.Pairwise (· ≥ ·) → Ex H H2 → FactsAt H2 p rows (lstand n rows) ((rows.length : Int) - (ys.length : Int)) (ys.map V.int) ((List.range rows.length).map fun i => optI (lend n rows (i + 1))) → Q (.ref p) H2
theorem ok_wduefacts (T : Tx K mg A) : FnOk P w K mg base CX0 6 (A.f "_law_due_facts") (A.fd "_law_due_facts") ["_law_wide", "_law_past_here"] spDueFacts := by
  refine T.F_wduefacts.ok sc_wduefacts (fun vs H Q E h => ?_) (fun cdv A' outer s H vs Q E hr h => ?_)
  · obtain ⟨a, rows, n, rfl, _⟩ := h
    rfl
  · obtain ⟨a, rows, n, rfl, R, hasc, k⟩ := h
    have hf := R.few
    refine ⟨_, PSs.nox (pss_cons (ps_set (i := 2) sc_wduefacts.nd rfl (Or.inl rfl) (pe_callB call_len_seq (by rfl) T.n_len PySem.boot_len (pa_cons (pv 1) pa_nil)))
      (pss_cons (ps_set (i := 3) sc_wduefacts.nd rfl (Or.inl rfl) (pe_call (ok_wtellers T) (hr.mono (by decide)) (by rfl) T.g_wtellers T.F_wtellers.kp T.b_wtellers .nil pass0 (pa_cons (pv 0) (pa_cons (pv 1) (pa_cons pe_int (pa_cons (pv 2) pa_nil))))))
      (pss_cons (ps_setLc (i := 4) (own := [("_law_k", 5)]) (g := (gName 5)) (by rfl) sc_wduefacts.nd rfl rfl (sw_true rfl rfl rfl (by decide +kernel)) (pi_range1 (by rfl) T.n_range (pa_cons (pv 2) pa_nil)) (blkOk_by (own := [("_law_k", 5)]) (N := n_wduefacts) (sc := defScope s_wduefacts) (by decide +kernel)) (fun _ _ _ _ _ => (pg_name (i := 5) sc_wduefacts.nd rfl (Or.inl rfl) (Or.inr rfl))) (fun _ _ _ _ _ => pts_nil) (fun _ _ _ _ _ => (pe_call (ok_wend T) (hr.mono (by decide)) (by rfl) T.g_wend T.F_wend.kp T.b_wend .nil pass0 (pa_cons (pv 0) (pa_cons (pv 1) (pa_cons (pe_op op_add (pv 5) pe_int) pa_nil))))))
      (pss_one (ps_ret (pe_lst (pa_cons (pe_callTy call_list_of (by rfl) T.n_list (by decide +kernel) (pa_cons (pv 1) pa_nil)) (pa_cons (pe_call (ok_wstanding T) (hr.mono (by decide)) (by rfl) T.g_wstanding T.F_wstanding.kp T.b_wstanding .nil pass0 (pa_cons (pv 0) (pa_cons (pv 1) pa_nil))) (pa_cons (pe_op op_sub (pv 2) (pe_callB call_len_seq (by rfl) T.n_len PySem.boot_len (pa_cons (pv 3) pa_nil))) (pa_cons (pv 3) (pa_cons (pv 4) (pa_cons (pv 2) (pa_cons (pe_joined (.cons pe_str (.cons (pe_fmt (pv 2)) (.cons pe_str .nil)))) (pa_cons pe_bl pa_nil)))))))))))))) , ?_⟩
    refine q_asg (v := .int (rows.length : Int)) (ev_is (ev_lenL (ev_var rfl) (sq_of R.at_)) (by rw [List.length_map])) fun H1 e1 => ?_
    refine q_asgP (P := fun v H2 => ∃ (ys : List Int) (p : Addr), v = .ref p ∧ ys.Perm ((ltel n rows).map fun m : Nat => (m : Int)) ∧ ys.Pairwise (· ≥ ·) ∧ Ex H1 H2 ∧ H2 p = some (.lst (ys.map V.int))) (fun Q q => ?_) fun v H2 hv => ?_
    · refine (ea_cons (ev_var rfl) (ea3 (ev_var rfl) ev_c (ev_var rfl)) : EvA (tCons (tVar 0) (tCons (tVar 1) (tCons (tC (.int 1)) (tCons (tVar 2) tNil)))) _ H1 [.int (n : Int), .ref a, .int 1, .int (rows.length : Int)]) H1 (Ex.refl H1) _ fun H3 e3 => ⟨a, rows, n, rfl, R.ex (e1.trans e3), fun ys p H4 np e4 h1 h2 h3 => q _ H4 ⟨ys, p, rfl, h1, h2, e3.trans e4, h3⟩⟩
    obtain ⟨ys, tp, rfl, y1, y2, e2, hp⟩ := hv
    have R2 := R.ex (e1.trans e2)
    refine q_asgL (xs := (List.range rows.length).map fun i => optI (lend n rows (i + 1))) (el_lcA (vs := [5]) (n := rows.length) (ei_rng1 (ea1 (ev_var rfl)) (by omega) (by omega)) (by omega) (fun i => optI (lend n rows (i + 1))) (fun i hi => rfl) (fun i hi => ?_)) fun ep H3 nep e3 hep => ?_
    · exact ev_call (dvs := []) (vs := [.int (n : Int), .ref a, .int ((i + 1 : Nat) : Int)]) (ea3 (ev_var rfl) (ev_var rfl) (ev_op (ev_var rfl) ev_c rv_add)) (fun H4 e4 Q q E => ⟨a, rows, n, i + 1, rfl, R2.ex e4, by omega, by omega, q⟩)
    · have R3 := R2.ex e3
      refine s_retR (ear_l (el_listOf (ev_var rfl) (sq_of R3.at_)) (ear_v (ev_call (dvs := []) (z := vS (lstand n rows)) (ea2 (ev_var rfl) (ev_var rfl)) (fun H4 e4 Q q E => ⟨a, rows, n, rfl, R3.ex e4, hasc, q⟩)) (ear_v (ev_op (ev_var rfl) (ev_is (ev_lenL (ev_var rfl) (sq_of (e3 _ _ hp))) (by rw [List.length_map])) rv_sub) (ear_v (ev_var rfl) (ear_v (ev_var rfl) (ear_v (ev_var rfl) (ear_v (ev_repr (ev_var rfl) hf) (ear_v ev_c ear_nil)))))))) (fun H1 xs h => ?_) (fun p xs H4 e4 h hpn => ?_)
      · obtain ⟨p1, ys1, rfl, h1, ys2, rfl, ys3, rfl, ys4, rfl, ys5, rfl, ys6, rfl, ys7, rfl, ys8, rfl, rfl⟩ := h
        show 8 ≤ 1000
        decide
      · obtain ⟨p1, ys1, rfl, h1, ys2, rfl, ys3, rfl, ys4, rfl, ys5, rfl, ys6, rfl, ys7, rfl, ys8, rfl, rfl⟩ := h
        exact k ys p _ y1 y2 ((e1.trans e2).trans ((e3.trans e4).trans (Ex.new hpn))) ⟨p1, tp, ep, upd_same, Ex.new hpn _ _ h1, (e3.trans (e4.trans (Ex.new hpn))) _ _ hp, (e4.trans (Ex.new hpn)) _ _ hep⟩
end
end Nt
end
section
set_option Elab.async false
set_option linter.all false
set_option maxRecDepth 100000
set_option maxHeartbeats 400000
namespace Nt
open PySem PySem.Spec PyProof.Rows L2 Evl SX
/-! ### the newest sign of a cell -/
def fsg (k : Nat) (a : Nat) (l : List (List Nat)) : Nat := l.foldl (fun a x => if x.getD k 46 = 46 then a else x.getD k 46) a
theorem fsg_app (k a : Nat) (l m : List (List Nat)) : fsg k a (l ++ m) = fsg k (fsg k a l) m := List.foldl_append ..
theorem fsg_one (k a : Nat) (x : List Nat) : fsg k a [x] = if x.getD k 46 = 46 then a else x.getD k 46 := rfl
theorem fsg_eq (k : Nat) : ∀ (l : List (List Nat)) (a b : Nat), fsg k a l = fsg k b l ↔ a = b ∨ ∃ x ∈ l, x.getD k 46 ≠ 46
  | [], a, b => by
    show a = b ↔ _
    simp
  | x :: l, a, b => by
    show fsg k (if x.getD k 46 = 46 then a else x.getD k 46) l = fsg k (if x.getD k 46 = 46 then b else x.getD k 46) l ↔ _
    rw [fsg_eq k l]
    by_cases h : x.getD k 46 = 46
    · simp [h, -List.getD_eq_getElem?_getD]
    · simp [h, -List.getD_eq_getElem?_getD]
theorem snoc_ind {α : Type} {P : List α → Prop} (h0 : P []) (h1 : ∀ l x, P l → P (l ++ [x])) : ∀ (n : Nat) (l : List α), l.length = n → P l
  | 0, l, h => by
    rw [List.length_eq_zero_iff.mp h]
    exact h0
  | n + 1, l, h => by
    have hne : l ≠ [] := fun e => by
      rw [e] at h
      cases h
    rw [← List.dropLast_concat_getLast hne]
    exact h1 _ _ (snoc_ind h0 h1 n _ (by rw [List.length_dropLast, h]; rfl))
theorem lastS_fsg (k : Nat) (rows : List (List Nat)) : lastS rows k = fsg k 46 rows := by
  refine snoc_ind (P := fun rows => lastS rows k = fsg k 46 rows) rfl (fun l x ih => ?_) _ rows rfl
  rw [fsg_app, fsg_one, ← ih]
  unfold lastS
  rw [List.filter_append, List.map_append]
  by_cases h : x.getD k 46 = 46
  · rw [if_pos h]
    simp [h, -List.getD_eq_getElem?_getD]
  · rw [if_neg h]
    simp [h, -List.getD_eq_getElem?_getD]
theorem lstand_get {n k : Nat} (rows : List (List Nat)) (h : k < n) : (lstand n rows).getD k 46 = fsg k 46 rows := by
  unfold lstand
  rw [List.getD_eq_getElem?_getD, List.getElem?_map, List.getElem?_range h]
  exact lastS_fsg k rows
theorem fsg_rev (k : Nat) : ∀ (l : List (List Nat)) (a : Nat), fsg k a l = (((l.reverse.map fun r => r.getD k 46).find? fun c => !decide (c = 46)).getD a)
  | [], a => rfl
  | x :: l, a => by
    show fsg k (if x.getD k 46 = 46 then a else x.getD k 46) l = _
    rw [fsg_rev k l, List.reverse_cons, List.map_append, List.find?_append]
    cases hf : (l.reverse.map fun r => r.getD k 46).find? fun c => !decide (c = 46) with
    | some c => rfl
    | none =>
      by_cases h : x.getD k 46 = 46
      · rw [if_pos h]
        simp [h, -List.getD_eq_getElem?_getD]
      · rw [if_neg h]
        simp [h, -List.getD_eq_getElem?_getD]
theorem no46 {st : List Nat} (h : 46 ∉ st) {k : Nat} (hk : k < st.length) : st.getD k 46 ≠ 46 := fun e => by
  rw [List.getD_eq_getElem?_getD, List.getElem?_eq_getElem hk] at e
  exact h (e ▸ List.getElem_mem hk)
theorem wrow_get (k : Nat) : ∀ (l : List (List Nat)) (st : List Nat), (∀ r ∈ l, r.length = st.length) → k < st.length → (wrow l st).getD k 46 = if st.getD k 46 = 46 then ((l.map fun r => r.getD k 46).find? fun c => !decide (c = 46)).getD 46 else st.getD k 46
  | [], st, _, hk => by
    show st.getD k 46 = _
    split
    · rename_i h
      exact h
    · rfl
  | r :: rest, st, h, hk => by
    have hr := h r (List.mem_cons_self ..)
    unfold wrow
    by_cases h46 : 46 ∈ st
    · rw [if_pos h46]
      have hl : (ov st r).length = st.length := ov_len2 hr.symm
      rw [wrow_get k rest (ov st r) (fun x hx => by rw [hl]; exact h x (List.mem_cons_of_mem _ hx)) (by rw [hl]; exact hk), ov_get hr.symm]
      by_cases hs : st.getD k 46 = 46
      · rw [if_pos hs, if_pos hs]
        by_cases hr2 : r.getD k 46 = 46
        · rw [if_pos hr2]
          simp [hr2, -List.getD_eq_getElem?_getD]
        · rw [if_neg hr2]
          simp [hr2, -List.getD_eq_getElem?_getD]
      · rw [if_neg hs, if_neg hs, if_neg hs]
    · rw [if_neg h46, if_neg (no46 h46 hk)]
theorem stand_get {n k : Nat} {rows : List (List Nat)} (hw : ∀ r ∈ rows, r.length = n) (h : k < n) : (stand n rows).getD k 46 = fsg k 46 rows := by
  unfold stand
  rw [wrow_get k _ _ (fun r hr => by rw [List.length_replicate]; exact hw r (List.mem_reverse.mp hr)) (by rw [List.length_replicate]; exact h), blank_get, if_pos rfl, fsg_rev]
theorem stand_len' {n : Nat} {rows : List (List Nat)} (hw : ∀ r ∈ rows, r.length = n) : (stand n rows).length = n := by
  unfold stand
  rw [wrow_len _ _ (fun r hr => by rw [List.length_replicate]; exact hw r (List.mem_reverse.mp hr)), List.length_replicate]
theorem stand_lstand {n : Nat} {rows : List (List Nat)} (hw : ∀ r ∈ rows, r.length = n) : stand n rows = lstand n rows := by
  refine row_ext (by rw [stand_len' hw, lstand_len]) fun i hi => ?_
  rw [stand_len' hw] at hi
  rw [stand_get hw hi, lstand_get rows hi]
/-! ### newest, next -/
theorem take_succ_get {l : List (List Nat)} {m : Nat} (h : m < l.length) : l.take (m + 1) = l.take m ++ [l.getD m []] := by
  rw [List.take_succ, List.getD_eq_getElem?_getD, List.getElem?_eq_getElem h] <;> rfl
theorem newest_fsg (rows : List (List Nat)) (k : Nat) : ∀ m, m ≤ rows.length → (newest rows k m = 0 ∧ fsg k 46 (rows.take m) = 46) ∨ (0 < newest rows k m ∧ newest rows k m ≤ m ∧ (rows.getD (newest rows k m - 1) []).getD k 46 = fsg k 46 (rows.take m) ∧ fsg k 46 (rows.take m) ≠ 46)
  | 0, _ => Or.inl ⟨rfl, rfl⟩
  | m + 1, h => by
    rw [take_succ_get (by omega), fsg_app, fsg_one]
    unfold newest
    by_cases hd : (rows.getD m []).getD k 46 = 46
    · rw [if_pos hd, if_pos hd]
      rcases newest_fsg rows k m (by omega) with ⟨a, b⟩ | ⟨a, b, c, d⟩
      · exact Or.inl ⟨a, b⟩
      · exact Or.inr ⟨a, by omega, c, d⟩
    · rw [if_neg hd, if_neg hd]
      exact Or.inr ⟨by omega, by omega, rfl, hd⟩
theorem chg_iff {rows : List (List Nat)} {r : List Nat} {m k : Nat} (hm : m ≤ rows.length) (hr : r.getD k 46 ≠ 46) : chg rows r m k = true ↔ r.getD k 46 ≠ fsg k 46 (rows.take m) := by
  unfold chg
  rcases newest_fsg rows k m hm with ⟨a, b⟩ | ⟨a, b, c, d⟩
  · rw [a, b]
    exact ⟨fun _ => hr, fun _ => rfl⟩
  · rw [c]
    have : ¬ newest rows k m = 0 := by omega
    simp only [this, decide_false, Bool.false_or]
    simp only [Bool.not_eq_true', decide_eq_false_iff_not]
    exact ⟨fun h e => h e.symm, fun h e => h e.symm⟩
theorem next_le (rows : List (List Nat)) (k : Nat) : ∀ (f b c : Nat), b + 1 ≤ c → c ≤ b + f + 1 → (c ≤ (nextF rows k b f).getD (b + f + 1) ↔ ∀ j, b ≤ j → j + 1 < c → (rows.getD j []).getD k 46 = 46)
  | 0, b, c, h1, h2 => by
    show c ≤ b + 0 + 1 ↔ _
    exact ⟨fun _ j hj hc => by omega, fun _ => h2⟩
  | f + 1, b, c, h1, h2 => by
    unfold nextF
    by_cases hd : (rows.getD b []).getD k 46 = 46
    · rw [if_pos hd]
      have e : b + (f + 1) + 1 = (b + 1) + f + 1 := by omega
      rw [e]
      by_cases hc : c = b + 1
      · subst hc
        refine ⟨fun _ j hj hc => by omega, fun _ => ?_⟩
        by_cases hf : b + 1 + 1 ≤ (b + 1) + f + 1
        · have q := (next_le rows k f (b + 1) (b + 1 + 1) (by omega) hf).mpr fun j hj hc => by omega
          omega
        · omega
      · rw [next_le rows k f (b + 1) c (by omega) (by omega)]
        refine ⟨fun h j hj hc => ?_, fun h j hj hc => h j (by omega) hc⟩
        by_cases e2 : j = b
        · rw [e2]
          exact hd
        · exact h j (by omega) hc
    · rw [if_neg hd]
      show c ≤ b + 1 ↔ _
      refine ⟨fun h j hj hc => by omega, fun h => ?_⟩
      by_cases hc : c ≤ b + 1
      · exact hc
      · exact absurd (h b (Nat.le_refl b) (by omega)) hd
theorem next_bd (rows : List (List Nat)) (k : Nat) : ∀ (f b e : Nat), nextF rows k b f = some e → b + 1 ≤ e ∧ e ≤ b + f
  | 0, b, e, h => by cases h
  | f + 1, b, e, h => by
    unfold nextF at h
    split at h
    · have := next_bd rows k f (b + 1) e h
      omega
    · cases h
      omega
theorem until_le (n : Nat) : ∀ (l : List (Option Nat × Bool)) (u b : Nat), b ≤ n + 1 → (b ≤ untilF n l u ↔ b ≤ u ∨ ∃ x ∈ l, x.2 = true ∧ b ≤ x.1.getD (n + 1))
  | [], u, b, h => by
    show b ≤ u ↔ _
    simp
  | (o, c) :: rest, u, b, h => by
    unfold untilF
    cases c with
    | false =>
      rw [if_neg (by decide), until_le n rest u b h]
      simp
    | true =>
      rw [if_pos rfl]
      cases o with
      | none =>
        show b ≤ n + 1 ↔ _
        refine ⟨fun _ => Or.inr ⟨(none, true), List.mem_cons_self .., rfl, h⟩, fun _ => h⟩
      | some e =>
        show b ≤ untilF n rest (max u e) ↔ _
        rw [until_le n rest _ b h]
        constructor
        · rintro (h1 | ⟨x, hx, h2, h3⟩)
          · by_cases hu : b ≤ u
            · exact Or.inl hu
            · exact Or.inr ⟨(some e, true), List.mem_cons_self .., rfl, by show b ≤ e; omega⟩
          · exact Or.inr ⟨x, List.mem_cons_of_mem _ hx, h2, h3⟩
        · rintro (h1 | ⟨x, hx, h2, h3⟩)
          · exact Or.inl (by omega)
          · rcases List.mem_cons.mp hx with hx | hx
            · subst hx
              have h3 : b ≤ e := h3
              exact Or.inl (by omega)
            · exact Or.inr ⟨x, hx, h2, h3⟩
theorem until_bd (n : Nat) : ∀ (l : List (Option Nat × Bool)) (u : Nat), u ≤ n + 1 → (∀ x ∈ l, ∀ e, x.1 = some e → e ≤ n + 1) → untilF n l u ≤ n + 1
  | [], u, h, _ => h
  | (o, c) :: rest, u, h, hx => by
    have hr : ∀ x ∈ rest, ∀ e, x.1 = some e → e ≤ n + 1 := fun x hm => hx x (List.mem_cons_of_mem _ hm)
    unfold untilF
    split
    · cases o with
      | none => exact Nat.le_refl _
      | some e =>
        have := hx (some e, c) (List.mem_cons_self ..) e rfl
        exact until_bd n rest _ (by omega) hr
    · exact until_bd n rest u h hr
theorem mem_told {r : List Nat} {i : Nat} : i ∈ told r ↔ i < r.length ∧ r.getD i 46 ≠ 46 := by
  unfold told
  rw [List.mem_filter, List.mem_range]
  simp
/-- the sign of the standing with the row -/
def wsg (rows : List (List Nat)) (r : List Nat) (p k c : Nat) : Nat := fsg k (if r.getD k 46 = 46 then fsg k 46 (rows.take p) else r.getD k 46) ((rows.drop p).take (c - p))
theorem sg_split (rows : List (List Nat)) {p c k : Nat} (h : p ≤ c) : fsg k 46 (rows.take c) = fsg k (fsg k 46 (rows.take p)) ((rows.drop p).take (c - p)) := by
  rw [← fsg_app]
  congr 1
  have : c = p + (c - p) := by omega
  rw [this, List.take_add]
  congr 2
  omega
theorem differ_iff {rows : List (List Nat)} {r : List Nat} {p c k : Nat} (h : p ≤ c) (hc : c ≤ rows.length) : (wsg rows r p k c ≠ fsg k 46 (rows.take c)) ↔ (r.getD k 46 ≠ 46 ∧ r.getD k 46 ≠ fsg k 46 (rows.take p) ∧ ∀ j, p ≤ j → j < c → (rows.getD j []).getD k 46 = 46) := by
  rw [sg_split rows h]
  unfold wsg
  rw [Ne, fsg_eq, not_or]
  have hx : (¬ ∃ x ∈ (rows.drop p).take (c - p), x.getD k 46 ≠ 46) ↔ ∀ j, p ≤ j → j < c → (rows.getD j []).getD k 46 = 46 := by
    constructor
    · intro hn j h1 h2
      by_cases e : (rows.getD j []).getD k 46 = 46
      · exact e
      · refine absurd ⟨rows.getD j [], ?_, e⟩ hn
        refine List.mem_of_getElem? (i := j - p) ?_
        rw [List.getElem?_take_of_lt (by omega), List.getElem?_drop, List.getD_eq_getElem?_getD, List.getElem?_eq_getElem (show j < rows.length by omega)]
        have : p + (j - p) = j := by omega
        rw [this, List.getElem?_eq_getElem (show j < rows.length by omega)] <;> rfl
    · rintro hall ⟨x, hx, hne⟩
      obtain ⟨i, hi, e⟩ := List.getElem_of_mem hx
      rw [List.length_take, List.length_drop] at hi
      rw [List.getElem_take, List.getElem_drop] at e
      have q := hall (p + i) (by omega) (by omega)
      have q2 : rows.getD (p + i) [] = x := by
        rw [List.getD_eq_getElem?_getD, List.getElem?_eq_getElem (show p + i < rows.length by omega), ← e] <;> rfl
      rw [q2] at q
      exact hne q
  rw [hx]
  by_cases hr : r.getD k 46 = 46
  · simp [hr, -List.getD_eq_getElem?_getD]
  · simp only [if_neg hr]
    exact ⟨fun ⟨h1, h2⟩ => ⟨hr, h1, h2⟩, fun ⟨_, h1, h2⟩ => ⟨h1, h2⟩⟩
theorem wsg_next {rows : List (List Nat)} {r : List Nat} {p k c : Nat} (h : p ≤ c) (hc : c < rows.length) : wsg rows r p k (c + 1) = if (rows.getD c []).getD k 46 = 46 then wsg rows r p k c else (rows.getD c []).getD k 46 := by
  unfold wsg
  have e : c + 1 - p = (c - p) + 1 := by omega
  have q := take_succ_get (l := rows.drop p) (m := c - p) (by rw [List.length_drop]; omega)
  have q2 : (rows.drop p).getD (c - p) [] = rows.getD c [] := by
    rw [List.getD_eq_getElem?_getD, List.getElem?_drop, List.getD_eq_getElem?_getD]
    congr 2
    omega
  rw [e, q, q2, fsg_app, fsg_one]
theorem lun_eq {n p U : Nat} {rows : List (List Nat)} {r : List Nat} (hw : ∀ x ∈ rows, x.length = n) (hU : U ≤ rows.length + 1) (hD : ∀ b, p + 1 ≤ b → b ≤ rows.length + 1 → (b ≤ U ↔ ∃ k, k < n ∧ wsg rows r p k (b - 1) ≠ fsg k 46 (rows.take (b - 1)))) :
    ∀ (j b f : Nat) (wo wi : List Nat), p + 1 ≤ b → b + j = rows.length + 2 → wo.length = n → wi.length = n → (b ≤ rows.length + 1 → ∀ k, k < n → wo.getD k 46 = fsg k 46 (rows.take (b - 1)) ∧ wi.getD k 46 = wsg rows r p k (b - 1)) → lunF rows j b f wo wi = if b ≤ U then U else f
  | 0, b, f, wo, wi, h1, h2, _, _, _ => by
    rw [if_neg (by omega)]
    rfl
  | j + 1, b, f, wo, wi, h1, h2, l1, l2, h3 => by
    have h3 := h3 (by omega)
    have hcmp : wo = wi ↔ ¬ b ≤ U := by
      rw [hD b h1 (by omega)]
      constructor
      · rintro e ⟨k, hk, hne⟩
        obtain ⟨a1, a2⟩ := h3 k hk
        rw [← a1, ← a2, e] at hne
        exact hne rfl
      · intro hn
        refine row_ext (by omega) fun k hk => ?_
        obtain ⟨a1, a2⟩ := h3 k (by omega)
        rw [a1, a2]
        by_cases e : wsg rows r p k (b - 1) = fsg k 46 (rows.take (b - 1))
        · exact e.symm
        · exact absurd ⟨k, by omega, e⟩ hn
    have hfin : (if b + 1 ≤ U then U else if wo = wi then f else b) = if b ≤ U then U else f := by
      by_cases h4 : b ≤ U
      · rw [if_pos h4, if_neg (fun e => (hcmp.mp e) h4)]
        split
        · rfl
        · omega
      · rw [if_neg h4, if_neg (by omega), if_pos (hcmp.mpr h4)]
    unfold lunF
    by_cases hb : b ≤ rows.length
    · rw [if_pos hb]
      have hrl : (rows.getD (b - 1) []).length = n := by
        refine hw _ ?_
        rw [List.getD_eq_getElem?_getD, List.getElem?_eq_getElem (show b - 1 < rows.length by omega)]
        exact List.getElem_mem _
      have e : b + 1 - 1 = (b - 1) + 1 := by omega
      rw [lun_eq hw hU hD j (b + 1) _ _ _ (by omega) (by omega) (by rw [ov_len (by omega)]; exact l1) (by rw [ov_len (by omega)]; exact l2) (fun _ k hk => by
        obtain ⟨a1, a2⟩ := h3 k hk
        rw [e, take_succ_get (by omega), fsg_app, fsg_one, wsg_next (by omega) (by omega), ov_get (by omega), ov_get (by omega), a1, a2]
        exact ⟨rfl, rfl⟩)]
      exact hfin
    · rw [if_neg hb]
      rw [lun_eq hw hU hD j (b + 1) _ _ _ (by omega) (by omega) l1 l2 (fun h => absurd h (by omega))]
      exact hfin
/-- the greatest moment: for b in reach, b is at most it where the standings differ -/
theorem until_D {n p : Nat} {rows : List (List Nat)} {r : List Nat} (hr : r.length = n) (hp : p ≤ rows.length) : untilF rows.length (seenL rows r p) 0 ≤ rows.length + 1 ∧ ∀ b, p + 1 ≤ b → b ≤ rows.length + 1 → (b ≤ untilF rows.length (seenL rows r p) 0 ↔ ∃ k, k < n ∧ wsg rows r p k (b - 1) ≠ fsg k 46 (rows.take (b - 1))) := by
  have hpl : p + (rows.length - p) = rows.length := by omega
  refine ⟨until_bd _ _ _ (Nat.zero_le _) fun x hx e he => ?_, fun b h1 h2 => ?_⟩
  · obtain ⟨i, _, rfl⟩ := List.mem_map.mp hx
    have := next_bd rows i _ _ _ he
    omega
  · rw [until_le _ _ _ _ h2]
    constructor
    · rintro (h | ⟨x, hx, h3, h4⟩)
      · omega
      · obtain ⟨i, hi, rfl⟩ := List.mem_map.mp hx
        obtain ⟨i1, i2⟩ := mem_told.mp hi
        have h4 : b ≤ (nextF rows i p (rows.length - p)).getD (rows.length + 1) := h4
        have hnx := next_le rows i (rows.length - p) p b h1 (by omega)
        rw [hpl] at hnx
        refine ⟨i, by omega, (differ_iff (by omega) (by omega)).mpr ⟨i2, (chg_iff hp i2).mp h3, fun j hj hjb => hnx.mp h4 j hj (by omega)⟩⟩
    · rintro ⟨k, hk, hne⟩
      obtain ⟨d1, d2, d3⟩ := (differ_iff (by omega) (by omega)).mp hne
      have hnx := next_le rows k (rows.length - p) p b h1 (by omega)
      rw [hpl] at hnx
      exact Or.inr ⟨_, List.mem_map.mpr ⟨k, mem_told.mpr ⟨by omega, d1⟩, rfl⟩, (chg_iff hp d1).mpr d2, hnx.mpr fun j hj hjb => d3 j hj (by omega)⟩
theorem hz0 (rows : List (List Nat)) (r : List Nat) (p : Nat) (hp : p ≤ rows.length) : untilF rows.length (seenL rows r p) 0 = 0 ∨ p + 1 ≤ untilF rows.length (seenL rows r p) 0 := by
  have hz : ∀ (l : List (Option Nat × Bool)) (u : Nat), (u = 0 ∨ p + 1 ≤ u) → (∀ x ∈ l, ∀ e, x.1 = some e → p + 1 ≤ e) → untilF rows.length l u = 0 ∨ p + 1 ≤ untilF rows.length l u := by
    intro l
    induction l with
    | nil => exact fun u hu _ => hu
    | cons x l ih =>
      obtain ⟨o, c⟩ := x
      intro u hu hx
      have hx2 : ∀ x ∈ l, ∀ e, x.1 = some e → p + 1 ≤ e := fun x hm => hx x (List.mem_cons_of_mem _ hm)
      unfold untilF
      split
      · cases o with
        | none => exact Or.inr (by show p + 1 ≤ rows.length + 1; omega)
        | some e =>
          have := hx (some e, c) (List.mem_cons_self ..) e rfl
          exact ih _ (Or.inr (by omega)) hx2
      · exact ih u hu hx2
  exact hz (seenL rows r p) 0 (Or.inl rfl) (fun x hx e he => by
    obtain ⟨i, _, rfl⟩ := List.mem_map.mp hx
    exact (next_bd rows i _ _ _ he).1)
theorem until_luntil {n p : Nat} {rows : List (List Nat)} {r : List Nat} (hw : ∀ x ∈ rows, x.length = n) (hr : r.length = n) (hp : p ≤ rows.length) : untilF rows.length (seenL rows r p) 0 = luntil n rows r p := by
  obtain ⟨hU, hD⟩ := until_D (n := n) (rows := rows) (r := r) hr hp
  unfold luntil
  have hll := lstand_len n (rows.take p)
  have hwsg : ∀ k, wsg rows r p k p = if r.getD k 46 = 46 then fsg k 46 (rows.take p) else r.getD k 46 := fun k => by
    unfold wsg
    rw [Nat.sub_self, List.take_zero]
    rfl
  rw [lun_eq hw hU hD (rows.length + 1 - p) (p + 1) 0 _ _ (Nat.le_refl _) (by omega) hll (by rw [ov_len (by omega)]; exact hll) (fun _ k hk => by
    have e : p + 1 - 1 = p := by omega
    rw [e, ov_get (by omega), lstand_get _ hk, hwsg k]
    exact ⟨rfl, rfl⟩)]
  by_cases h : p + 1 ≤ untilF rows.length (seenL rows r p) 0
  · rw [if_pos h]
  · rw [if_neg h]
    by_cases h0 : untilF rows.length (seenL rows r p) 0 = 0
    · exact h0
    · exfalso
      rcases hz0 rows r p hp with h1 | h1
      · exact h0 h1
      · exact h h1
/-- the standings at that moment differ -/
theorem until_shows {n p : Nat} {rows : List (List Nat)} {r : List Nat} (hw : ∀ x ∈ rows, x.length = n) (hr : r.length = n) (hp : p ≤ rows.length) (U : Nat) (hUe : untilF rows.length (seenL rows r p) 0 = U) (h0 : 0 < U) :
    stand n ((rows.take p ++ [r] ++ rows.drop p).take U) ≠ stand n (rows.take (U - 1)) := by
  obtain ⟨hU, hD⟩ := until_D (n := n) (rows := rows) (r := r) hr hp
  have hpU : p + 1 ≤ U := by
    have q := until_luntil hw hr hp
    by_cases h : p + 1 ≤ U
    · exact h
    · exfalso
      have h2 := hz0 rows r p hp
      omega
  rw [hUe] at hU hD
  obtain ⟨k, hk, hne⟩ := (hD U hpU hU).mp (Nat.le_refl U)
  intro e
  have hw1 : ∀ x ∈ (rows.take p ++ [r] ++ rows.drop p).take U, x.length = n := fun x hx => by
    rcases List.mem_append.mp (List.mem_of_mem_take hx) with h | h
    · rcases List.mem_append.mp h with h | h
      · exact hw x (List.mem_of_mem_take h)
      · rw [List.mem_singleton.mp h]
        exact hr
    · exact hw x (List.mem_of_mem_drop h)
  have hw2 : ∀ x ∈ rows.take (U - 1), x.length = n := fun x hx => hw x (List.mem_of_mem_take hx)
  have q := congrArg (fun l => l.getD k 46) e
  simp only [stand_get hw1 hk, stand_get hw2 hk] at q
  refine hne (Eq.trans ?_ q)
  have ht : (rows.take p ++ [r] ++ rows.drop p).take U = rows.take p ++ [r] ++ (rows.drop p).take (U - 1 - p) := by
    rw [List.take_append, List.take_of_length_le (by rw [List.length_append, List.length_take, List.length_singleton]; omega)]
    congr 2
    rw [List.length_append, List.length_take, List.length_singleton]
    omega
  rw [ht, fsg_app, fsg_app, fsg_one]
  rfl
end Nt
end
section
set_option Elab.async false
set_option linter.all false
set_option maxRecDepth 100000
set_option maxHeartbeats 400000
namespace Nt
open PySem PySem.Spec PyProof.Rows L2 Evl SX
/-! ### the tellers -/
theorem map_get {f : Nat → Nat} {l : List Nat} {k d e : Nat} (h : k < l.length) : (l.map f).getD k e = f (l.getD k d) := by
  rw [List.getD_eq_getElem?_getD, List.getElem?_map, List.getD_eq_getElem?_getD, List.getElem?_eq_getElem h] <;> rfl
theorem lot_get {a : List Nat} {k : Nat} (h : k < a.length) : (lot a).getD k 46 = if a.getD k 46 = 46 then 46 else 43 := by
  unfold lot
  exact map_get h
theorem zip_get {f : Nat → Nat → Nat} {a b : List Nat} {k : Nat} (ha : k < a.length) (hb : k < b.length) : (List.zipWith f a b).getD k 46 = f (a.getD k 46) (b.getD k 46) := by
  rw [List.getD_eq_getElem?_getD, List.getElem?_zipWith, List.getD_eq_getElem?_getD, List.getD_eq_getElem?_getD, List.getElem?_eq_getElem ha, List.getElem?_eq_getElem hb] <;> rfl
theorem uni_get {a b : List Nat} {k : Nat} (ha : k < a.length) (hb : k < b.length) : (uni a b).getD k 46 = if a.getD k 46 = 43 ∨ b.getD k 46 = 43 then 43 else 46 := zip_get ha hb
theorem wit_iff : ∀ {a b : List Nat}, a.length = b.length → (wit a b = true ↔ ∀ k, k < a.length → a.getD k 46 = 46 ∨ b.getD k 46 = 43)
  | [], [], _ => by simp [wit]
  | [], _ :: _, h => by cases h
  | _ :: _, [], h => by cases h
  | x :: a, y :: b, h => by
    have ih := wit_iff (a := a) (b := b) (Nat.succ.inj h)
    have e : wit (x :: a) (y :: b) = ((decide (x = 46) || decide (y = 43)) && wit a b) := rfl
    rw [e, Bool.and_eq_true, ih, Bool.or_eq_true, decide_eq_true_iff, decide_eq_true_iff]
    constructor
    · rintro ⟨h1, h2⟩ k hk
      cases k with
      | zero => exact h1
      | succ k => exact h2 k (Nat.lt_of_succ_lt_succ hk)
    · intro h1
      exact ⟨h1 0 (Nat.succ_pos _), fun k hk => h1 (k + 1) (Nat.succ_lt_succ hk)⟩
/-- told: only dots and pluses -/
def Lotty (l : List Nat) : Prop := ∀ k, k < l.length → l.getD k 46 = 46 ∨ l.getD k 46 = 43
theorem mem46 {l : List Nat} : 46 ∈ l ↔ ∃ k, k < l.length ∧ l.getD k 46 = 46 := by
  constructor
  · intro h
    obtain ⟨k, hk, e⟩ := List.getElem_of_mem h
    exact ⟨k, hk, by rw [List.getD_eq_getElem?_getD, List.getElem?_eq_getElem hk, e] <;> rfl⟩
  · rintro ⟨k, hk, e⟩
    rw [List.getD_eq_getElem?_getD, List.getElem?_eq_getElem hk] at e
    exact e ▸ List.getElem_mem hk
theorem ntell_sub : ∀ (l : Prs) (t : List Nat), (ntell l t).Sublist l
  | [], t => List.nil_sublist _
  | (m, r) :: rest, t => by
    unfold ntell
    split
    · split
      · exact (ntell_sub rest t).cons _
      · exact (ntell_sub rest _).cons₂ _
    · exact List.nil_sublist _
theorem ntell_memK : ∀ (l : Prs) (t : List Nat), Lotty t → (∀ x ∈ l, x.2.length = t.length) → ∀ m, m ∈ (ntell l t).map (·.1) ↔ ∃ i, i < l.length ∧ (prD l i).1 = m ∧ ∃ k, k < t.length ∧ t.getD k 46 = 46 ∧ (prD l i).2.getD k 46 ≠ 46 ∧ ∀ j, j < i → (prD l j).2.getD k 46 = 46
  | [], t, _, _, m => by
    constructor
    · intro h
      cases h
    · rintro ⟨i, hi, _⟩
      cases hi
  | (m0, r0) :: rest, t, ht, hw, m => by
    have hr0 : r0.length = t.length := hw (m0, r0) (List.mem_cons_self ..)
    have hwr : ∀ x ∈ rest, x.2.length = t.length := fun x hx => hw x (List.mem_cons_of_mem _ hx)
    have p0 : prD ((m0, r0) :: rest) 0 = (m0, r0) := rfl
    have ps : ∀ i, prD ((m0, r0) :: rest) (i + 1) = prD rest i := fun i => rfl
    have hll := lot_len r0
    unfold ntell
    by_cases h46 : 46 ∈ t
    · rw [if_pos h46]
      by_cases hwt : wit (lot r0) t = true
      · rw [if_pos hwt, ntell_memK rest t ht hwr m]
        have hdot : ∀ k, k < t.length → t.getD k 46 = 46 → r0.getD k 46 = 46 := fun k hk e => by
          have q := (wit_iff (by omega)).mp hwt k (by omega)
          rw [lot_get (by omega), e] at q
          by_cases h : r0.getD k 46 = 46
          · exact h
          · rw [if_neg h] at q
            omega
        constructor
        · rintro ⟨i, hi, e, k, hk, h1, h2, h3⟩
          refine ⟨i + 1, Nat.succ_lt_succ hi, e, k, hk, h1, h2, fun j hj => ?_⟩
          cases j with
          | zero => exact hdot k hk h1
          | succ j => exact h3 j (by omega)
        · rintro ⟨i, hi, e, k, hk, h1, h2, h3⟩
          cases i with
          | zero => exact absurd (hdot k hk h1) h2
          | succ i => exact ⟨i, Nat.lt_of_succ_lt_succ hi, e, k, hk, h1, h2, fun j hj => h3 (j + 1) (by omega)⟩
      · rw [if_neg hwt, List.map_cons, List.mem_cons]
        have hul : (uni t (lot r0)).length = t.length := uni_len (by omega)
        have hug : ∀ k, k < t.length → ((uni t (lot r0)).getD k 46 = 46 ↔ t.getD k 46 = 46 ∧ r0.getD k 46 = 46) := fun k hk => by
          rw [uni_get hk (by omega), lot_get (by omega)]
          have q := ht k hk
          by_cases hr : r0.getD k 46 = 46
          · rw [if_pos hr]
            rcases q with q | q <;> rw [q] <;> simp [hr, -List.getD_eq_getElem?_getD]
          · rw [if_neg hr]
            simp [hr, -List.getD_eq_getElem?_getD]
        have hlt : Lotty (uni t (lot r0)) := fun k hk => by
          rw [uni_get (by omega) (by omega)]
          split
          · exact Or.inr rfl
          · exact Or.inl rfl
        rw [ntell_memK rest _ hlt (fun x hx => by rw [hul]; exact hwr x hx) m, hul]
        constructor
        · rintro (h | ⟨i, hi, e, k, hk, h1, h2, h3⟩)
          · -- it tells a new cell
            have hex : ∃ k, k < t.length ∧ t.getD k 46 = 46 ∧ r0.getD k 46 ≠ 46 := by
              by_cases hx : ∃ k, k < t.length ∧ t.getD k 46 = 46 ∧ r0.getD k 46 ≠ 46
              · exact hx
              · exfalso
                refine hwt ((wit_iff (by omega)).mpr fun k hk => ?_)
                rw [lot_get (by omega)]
                by_cases hr : r0.getD k 46 = 46
                · rw [if_pos hr]
                  exact Or.inl rfl
                · rcases ht k (by omega) with q | q
                  · exact absurd ⟨k, by omega, q, hr⟩ hx
                  · exact Or.inr q
            obtain ⟨k, hk, h1, h2⟩ := hex
            exact ⟨0, Nat.succ_pos _, h.symm, k, hk, h1, h2, fun j hj => absurd hj (Nat.not_lt_zero j)⟩
          · obtain ⟨g1, g2⟩ := (hug k hk).mp h1
            refine ⟨i + 1, Nat.succ_lt_succ hi, e, k, hk, g1, h2, fun j hj => ?_⟩
            cases j with
            | zero => exact g2
            | succ j => exact h3 j (by omega)
        · rintro ⟨i, hi, e, k, hk, h1, h2, h3⟩
          cases i with
          | zero => exact Or.inl e.symm
          | succ i => exact Or.inr ⟨i, Nat.lt_of_succ_lt_succ hi, e, k, hk, (hug k hk).mpr ⟨h1, h3 0 (Nat.succ_pos i)⟩, h2, fun j hj => h3 (j + 1) (by omega)⟩
    · rw [if_neg h46]
      constructor
      · intro h
        cases h
      · rintro ⟨i, hi, e, k, hk, h1, _⟩
        exact absurd (mem46.mpr ⟨k, hk, h1⟩) h46
theorem telN_mem {n : Nat} {rows : List (List Nat)} (hw : ∀ x ∈ rows, x.length = n) (m : Nat) : m ∈ telN n rows ↔ ∃ k, k < n ∧ 1 ≤ m ∧ m ≤ rows.length ∧ (rows.getD (m - 1) []).getD k 46 ≠ 46 ∧ ∀ j, m ≤ j → j < rows.length → (rows.getD j []).getD k 46 = 46 := by
  unfold telN
  have hl := prs_len rows
  rw [ntell_memK (prs rows) _ (fun k hk => Or.inl (blank_get n k)) (fun x hx => by
    obtain ⟨i, hi, e⟩ := List.getElem_of_mem hx
    have q := prs_at (rows := rows) (i := i) (by omega)
    unfold prD at q
    rw [List.getD_eq_getElem?_getD, List.getElem?_eq_getElem hi, Option.getD_some, e] at q
    rw [q, List.length_replicate]
    refine hw _ ?_
    rw [List.getD_eq_getElem?_getD, List.getElem?_eq_getElem (show rows.length - i - 1 < rows.length by omega)]
    exact List.getElem_mem _) m, List.length_replicate]
  constructor
  · rintro ⟨i, hi, e, k, hk, _, h2, h3⟩
    rw [prs_at (by omega)] at e h2
    have e : rows.length - i = m := e
    have h2 : (rows.getD (rows.length - i - 1) []).getD k 46 ≠ 46 := h2
    refine ⟨k, hk, by omega, by omega, by rw [← e]; exact h2, fun j h4 h5 => ?_⟩
    have q := h3 (rows.length - j - 1) (by omega)
    rw [prs_at (by omega)] at q
    have q : (rows.getD (rows.length - (rows.length - j - 1) - 1) []).getD k 46 = 46 := q
    have e2 : rows.length - (rows.length - j - 1) - 1 = j := by omega
    rw [e2] at q
    exact q
  · rintro ⟨k, hk, m1, m2, h2, h3⟩
    refine ⟨rows.length - m, by omega, ?_, k, hk, blank_get n k, ?_, fun j hj => ?_⟩
    · rw [prs_at (by omega)]
      show rows.length - (rows.length - m) = m
      omega
    · rw [prs_at (by omega)]
      show (rows.getD (rows.length - (rows.length - m) - 1) []).getD k 46 ≠ 46
      have e2 : rows.length - (rows.length - m) - 1 = m - 1 := by omega
      rw [e2]
      exact h2
    · rw [prs_at (by omega)]
      exact h3 _ (by omega) (by omega)
theorem telN_desc (n : Nat) (rows : List (List Nat)) : (telN n rows).Pairwise (· > ·) := by
  unfold telN
  refine List.Pairwise.sublist ((ntell_sub (prs rows) _).map _) ?_
  unfold prs
  rw [List.map_map]
  refine List.pairwise_map.mpr ?_
  refine List.Pairwise.imp_of_mem (R := (· < ·)) (fun ha hb h => ?_) List.pairwise_lt_range
  have := List.mem_range.mp ha
  have := List.mem_range.mp hb
  show rows.length - _ > rows.length - _
  omega
theorem spots_last {rows : List (List Nat)} {k i : Nat} : (spots rows k).getLast? = some i ↔ i < rows.length ∧ (rows.getD i []).getD k 46 ≠ 46 ∧ ∀ j, i < j → j < rows.length → (rows.getD j []).getD k 46 = 46 := by
  have key : ∀ n, ((List.range n).filter fun i => !decide ((rows.getD i []).getD k 46 = 46)).getLast? = some i ↔ i < n ∧ (rows.getD i []).getD k 46 ≠ 46 ∧ ∀ j, i < j → j < n → (rows.getD j []).getD k 46 = 46 := by
    intro n
    induction n with
    | zero =>
      constructor
      · intro h
        cases h
      · rintro ⟨h, _⟩
        exact absurd h (Nat.not_lt_zero _)
    | succ n ih =>
      rw [flt_succ, List.getLast?_append]
      by_cases h : (rows.getD n []).getD k 46 = 46
      · have e : (!decide ((rows.getD n []).getD k 46 = 46)) = true ↔ False := by simp [h, -List.getD_eq_getElem?_getD]
        simp only [e, if_false, List.getLast?_nil, Option.none_or]
        rw [ih]
        constructor
        · rintro ⟨h1, h2, h3⟩
          refine ⟨by omega, h2, fun j hj hjn => ?_⟩
          by_cases ej : j = n
          · rw [ej]
            exact h
          · exact h3 j hj (by omega)
        · rintro ⟨h1, h2, h3⟩
          have : i ≠ n := fun ei => h2 (by rw [ei]; exact h)
          exact ⟨by omega, h2, fun j hj hjn => h3 j hj (by omega)⟩
      · have e : (!decide ((rows.getD n []).getD k 46 = 46)) = true ↔ True := by simp [h, -List.getD_eq_getElem?_getD]
        simp only [e, if_true, List.getLast?_singleton, Option.some_or]
        constructor
        · intro q
          cases q
          exact ⟨Nat.lt_succ_self _, h, fun j hj hjn => absurd hjn (by omega)⟩
        · rintro ⟨h1, h2, h3⟩
          by_cases ei : i = n
          · rw [ei]
          · exact absurd (h3 n (by omega) (Nat.lt_succ_self _)) h
  exact key rows.length
theorem ltel_spec (rows : List (List Nat)) : ∀ (ks acc : List Nat), acc.Nodup → (ks.foldl (ltelStep rows) acc).Nodup ∧ ∀ m, m ∈ ks.foldl (ltelStep rows) acc ↔ m ∈ acc ∨ ∃ k ∈ ks, ∃ i, (spots rows k).getLast? = some i ∧ m = i + 1
  | [], acc, h => ⟨h, fun m => by simp⟩
  | k :: ks, acc, h => by
    have hstep : (ltelStep rows acc k).Nodup ∧ ∀ m, m ∈ ltelStep rows acc k ↔ m ∈ acc ∨ ∃ i, (spots rows k).getLast? = some i ∧ m = i + 1 := by
      unfold ltelStep
      cases hs : (spots rows k).getLast? with
      | none => exact ⟨h, fun m => by simp⟩
      | some i =>
        show (if i + 1 ∈ acc then acc else acc ++ [i + 1]).Nodup ∧ ∀ m, m ∈ (if i + 1 ∈ acc then acc else acc ++ [i + 1]) ↔ _
        by_cases hm : i + 1 ∈ acc
        · rw [if_pos hm]
          refine ⟨h, fun m => ⟨Or.inl, fun q => ?_⟩⟩
          rcases q with q | ⟨i', e, q⟩
          · exact q
          · cases e
            rw [q]
            exact hm
        · rw [if_neg hm]
          refine ⟨List.nodup_append.mpr ⟨h, by simp, fun x hx y hy e => ?_⟩, fun m => ?_⟩
          · rw [List.mem_singleton.mp hy] at e
            exact hm (e ▸ hx)
          · rw [List.mem_append, List.mem_singleton]
            constructor
            · rintro (q | q)
              · exact Or.inl q
              · exact Or.inr ⟨i, rfl, q⟩
            · rintro (q | ⟨i', e, q⟩)
              · exact Or.inl q
              · cases e
                exact Or.inr q
    obtain ⟨a1, a2⟩ := hstep
    obtain ⟨b1, b2⟩ := ltel_spec rows ks (ltelStep rows acc k) a1
    refine ⟨b1, fun m => ?_⟩
    show m ∈ ks.foldl (ltelStep rows) (ltelStep rows acc k) ↔ _
    rw [b2, a2]
    constructor
    · rintro ((q | ⟨i, q1, q2⟩) | ⟨k', hk, q⟩)
      · exact Or.inl q
      · exact Or.inr ⟨k, List.mem_cons_self .., i, q1, q2⟩
      · exact Or.inr ⟨k', List.mem_cons_of_mem _ hk, q⟩
    · rintro (q | ⟨k', hk, q⟩)
      · exact Or.inl (Or.inl q)
      · rcases List.mem_cons.mp hk with hk | hk
        · rw [hk] at q
          exact Or.inl (Or.inr q)
        · exact Or.inr ⟨k', hk, q⟩
theorem telN_ltel {n : Nat} {rows : List (List Nat)} (hw : ∀ x ∈ rows, x.length = n) (m : Nat) : m ∈ telN n rows ↔ m ∈ ltel n rows := by
  rw [telN_mem hw]
  unfold ltel
  rw [(ltel_spec rows (List.range n) [] List.nodup_nil).2 m]
  constructor
  · rintro ⟨k, hk, m1, m2, h1, h2⟩
    exact Or.inr ⟨k, List.mem_range.mpr hk, m - 1, spots_last.mpr ⟨by omega, h1, fun j hj hjl => h2 j (by omega) hjl⟩, by omega⟩
  · rintro (h | ⟨k, hk, i, h1, rfl⟩)
    · cases h
    · obtain ⟨g1, g2, g3⟩ := spots_last.mp h1
      exact ⟨k, List.mem_range.mp hk, by omega, by omega, g2, fun j hj hjl => g3 j (by omega) hjl⟩
theorem desc_ext : ∀ {l m : List Int}, l.Pairwise (· > ·) → m.Pairwise (· > ·) → (∀ x, x ∈ l ↔ x ∈ m) → l = m
  | [], [], _, _, _ => rfl
  | [], y :: m, _, _, h => absurd ((h y).mpr (List.mem_cons_self ..)) List.not_mem_nil
  | x :: l, [], _, _, h => absurd ((h x).mp (List.mem_cons_self ..)) List.not_mem_nil
  | x :: l, y :: m, h1, h2, h => by
    obtain ⟨a1, a2⟩ := List.pairwise_cons.mp h1
    obtain ⟨b1, b2⟩ := List.pairwise_cons.mp h2
    have e : x = y := by
      rcases List.mem_cons.mp ((h x).mp (List.mem_cons_self ..)) with q | q
      · exact q
      · rcases List.mem_cons.mp ((h y).mpr (List.mem_cons_self ..)) with q2 | q2
        · exact q2.symm
        · have := b1 x q
          have := a1 y q2
          omega
    subst e
    rw [desc_ext a2 b2 fun z => ?_]
    constructor
    · intro hz
      rcases List.mem_cons.mp ((h z).mp (List.mem_cons_of_mem _ hz)) with q | q
      · have := a1 z hz
        omega
      · exact q
    · intro hz
      rcases List.mem_cons.mp ((h z).mpr (List.mem_cons_of_mem _ hz)) with q | q
      · have := b1 z hz
        omega
      · exact q
theorem tel_eq {n : Nat} {rows : List (List Nat)} (hw : ∀ x ∈ rows, x.length = n) {ys : List Int} (h1 : ys.Perm ((ltel n rows).map fun m : Nat => (m : Int))) (h2 : ys.Pairwise (· ≥ ·)) : ys = (telN n rows).map fun m : Nat => (m : Int) := by
  have hnd : (ltel n rows).Nodup := (ltel_spec rows (List.range n) [] List.nodup_nil).1
  have hnd2 : ys.Nodup := h1.nodup_iff.mpr (List.pairwise_map.mpr (hnd.imp fun h e => h (by omega)))
  refine desc_ext ?_ ?_ fun x => ?_
  · refine (h2.and hnd2).imp fun ⟨a, b⟩ => ?_
    omega
  · exact List.pairwise_map.mpr ((telN_desc n rows).imp fun h => by omega)
  · rw [h1.mem_iff, List.mem_map, List.mem_map]
    constructor
    · rintro ⟨m, hm, rfl⟩
      exact ⟨m, (telN_ltel hw m).mpr hm, rfl⟩
    · rintro ⟨m, hm, rfl⟩
      exact ⟨m, (telN_ltel hw m).mp hm, rfl⟩
end Nt
end
section
set_option Elab.async false
set_option linter.all false
set_option maxRecDepth 100000
set_option maxHeartbeats 400000
namespace Nt
open PySem PySem.Spec PyProof.Rows L2 Evl SX
/-! ### the ends -/
def agg (rows : List (List Nat)) (e : Nat) : List Nat → Nat → Option Nat
  | [], last => some last
  | k :: ks, last => match nextF rows k e (rows.length - e) with
    | none => none
    | some x => agg rows e ks (max last x)
theorem next_head (rows : List (List Nat)) (k : Nat) : ∀ f b, nextF rows k b f = (((List.range f).filter fun i => !decide ((rows.getD (b + i) []).getD k 46 = 46)).head?).map fun i => b + 1 + i
  | 0, b => rfl
  | f + 1, b => by
    unfold nextF
    rw [List.range_succ_eq_map, List.filter_cons]
    by_cases h : (rows.getD b []).getD k 46 = 46
    · have e : (!decide ((rows.getD (b + 0) []).getD k 46 = 46)) = false := by
        rw [Nat.add_zero, decide_eq_true h]
        rfl
      rw [if_pos h, e, if_neg (by decide), next_head rows k f (b + 1), List.filter_map, List.head?_map, Option.map_map]
      congr 1
      · funext i
        show b + 1 + 1 + i = b + 1 + (i + 1)
        omega
      · congr 1
        congr 1
        funext i
        show (!decide ((rows.getD (b + 1 + i) []).getD k 46 = 46)) = !decide ((rows.getD (b + (i + 1)) []).getD k 46 = 46)
        have : b + 1 + i = b + (i + 1) := by omega
        rw [this]
    · have e : (!decide ((rows.getD (b + 0) []).getD k 46 = 46)) = true := by
        rw [Nat.add_zero, decide_eq_false h]
        rfl
      rw [if_neg h, e, if_pos rfl]
      rfl
theorem lendF_agg (rows : List (List Nat)) (m : Nat) : ∀ (ks : List Nat) (last : Nat), lendF rows m ks last = agg rows m (ks.filter fun k => !decide ((rows.getD (m - 1) []).getD k 46 = 46)) last
  | [], last => rfl
  | k :: ks, last => by
    unfold lendF
    rw [List.filter_cons]
    by_cases h : (rows.getD (m - 1) []).getD k 46 = 46
    · rw [if_pos h, decide_eq_true h, if_neg (by decide)]
      exact lendF_agg rows m ks last
    · rw [if_neg h, decide_eq_false h, if_pos (show (!false) = true from rfl)]
      show _ = (match nextF rows k m (rows.length - m) with | none => none | some x => agg rows m _ (max last x))
      rw [next_head]
      unfold later
      cases hh : ((List.range (rows.length - m)).filter fun i => !decide ((rows.getD (m + i) []).getD k 46 = 46)).head? with
      | none => rfl
      | some i => exact lendF_agg rows m ks _
theorem next_step {rows : List (List Nat)} {k e : Nat} (h : e < rows.length) : nextF rows k e (rows.length - e) = if (rows.getD e []).getD k 46 = 46 then nextF rows k (e + 1) (rows.length - (e + 1)) else some (e + 1) := by
  have : rows.length - e = (rows.length - (e + 1)) + 1 := by omega
  rw [this]
  rfl
theorem agg_step {rows : List (List Nat)} {e : Nat} (h : e < rows.length) : ∀ (ds : List Nat) (last : Nat), e + 1 ≤ last → agg rows e ds last = agg rows (e + 1) (ds.filter fun d => decide ((rows.getD e []).getD d 46 = 46)) last
  | [], last, _ => rfl
  | k :: ks, last, hl => by
    rw [List.filter_cons]
    show (match nextF rows k e (rows.length - e) with | none => none | some x => agg rows e ks (max last x)) = _
    rw [next_step h]
    by_cases hd : (rows.getD e []).getD k 46 = 46
    · rw [if_pos hd, decide_eq_true hd, if_pos rfl]
      show _ = (match nextF rows k (e + 1) (rows.length - (e + 1)) with | none => none | some x => agg rows (e + 1) _ (max last x))
      cases hn : nextF rows k (e + 1) (rows.length - (e + 1)) with
      | none => rfl
      | some x => exact agg_step h ks _ (by omega)
    · rw [if_neg hd, decide_eq_false hd, if_neg (by decide)]
      show agg rows e ks (max last (e + 1)) = _
      have : max last (e + 1) = last := by omega
      rw [this, agg_step h ks last hl]
theorem endF_agg (rows : List (List Nat)) : ∀ (f : Nat) (ds : List Nat) (e : Nat), e ≤ rows.length → rows.length - e < f → endF rows f ds e = agg rows e ds e
  | 0, ds, e, _, h => by omega
  | f + 1, ds, e, he, h => by
    unfold endF
    cases ds with
    | nil =>
      rw [if_pos rfl]
      rfl
    | cons k ks =>
      rw [if_neg (by simp)]
      by_cases hl : e = rows.length
      · rw [if_pos hl]
        unfold agg
        have : rows.length - e = 0 := by omega
        rw [this]
        rfl
      · rw [if_neg hl, endF_agg rows f _ (e + 1) (by omega) (by omega)]
        have hlt : e < rows.length := by omega
        rw [List.filter_cons]
        by_cases hd : (rows.getD e []).getD k 46 = 46
        · rw [decide_eq_true hd, if_pos rfl]
          show (match nextF rows k (e + 1) (rows.length - (e + 1)) with | none => none | some x => agg rows (e + 1) _ (max (e + 1) x)) = (match nextF rows k e (rows.length - e) with | none => none | some x => agg rows e ks (max e x))
          rw [next_step hlt, if_pos hd]
          cases hn : nextF rows k (e + 1) (rows.length - (e + 1)) with
          | none => rfl
          | some x =>
            have hx := next_bd rows k _ _ _ hn
            show agg rows (e + 1) _ (max (e + 1) x) = agg rows e ks (max e x)
            have e1 : max (e + 1) x = x := by omega
            have e2 : max e x = x := by omega
            rw [e1, e2]
            exact (agg_step hlt ks x (by omega)).symm
        · rw [decide_eq_false hd, if_neg (by decide)]
          have e3 : agg rows e (k :: ks) e = agg rows e ks (max e (e + 1)) := by
            show (match nextF rows k e (rows.length - e) with | none => none | some x => agg rows e ks (max e x)) = _
            rw [next_step hlt, if_neg hd]
          have e4 : max e (e + 1) = e + 1 := by omega
          rw [e3, e4]
          exact (agg_step hlt ks (e + 1) (Nat.le_refl _)).symm
theorem end_lend {n m : Nat} {rows : List (List Nat)} (hw : ∀ x ∈ rows, x.length = n) (hf : rows.length ≤ 1000) (h1 : 1 ≤ m) (h2 : m ≤ rows.length) : endN rows m = lend n rows m := by
  unfold endN lend
  rw [endF_agg rows 1001 _ m h2 (by omega), lendF_agg]
  have hl : (rows.getD (m - 1) []).length = n := by
    refine hw _ ?_
    rw [List.getD_eq_getElem?_getD, List.getElem?_eq_getElem (show m - 1 < rows.length by omega)]
    exact List.getElem_mem _
  unfold told
  rw [hl]
/-! ### the told cells -/
theorem told_len (r : List Nat) : (told r).length = (r.filter fun c => !decide (c = 46)).length := by
  unfold told
  have e : r = (List.range r.length).map fun i => r.getD i 46 := by
    refine List.ext_getElem (by rw [List.length_map, List.length_range]) fun i h1 h2 => ?_
    rw [List.getElem_map, List.getElem_range, List.getD_eq_getElem?_getD, List.getElem?_eq_getElem h1] <;> rfl
  conv => rhs; rw [e]
  rw [List.filter_map, List.length_map]
  rfl
theorem seen_len (rows : List (List Nat)) (r : List Nat) (m : Nat) : (seenL rows r m).length = (r.filter fun c => !decide (c = 46)).length := by
  unfold seenL
  rw [List.length_map, told_len]
/-! ### the full stream -/
theorem lat_spec (rows : List (List Nat)) (r st : List Nat) : ∀ (is : List Nat) (l : Int), latF rows r st is l ≤ l ∧ (∀ i ∈ is, r.getD i 46 ≠ 46 ∧ r.getD i 46 ≠ st.getD i 46 → latF rows r st is l ≤ (newest rows i rows.length : Int) - 1) ∧ (latF rows r st is l = l ∨ ∃ i ∈ is, (r.getD i 46 ≠ 46 ∧ r.getD i 46 ≠ st.getD i 46) ∧ latF rows r st is l = (newest rows i rows.length : Int) - 1)
  | [], l => ⟨Int.le_refl _, fun i hi => absurd hi List.not_mem_nil, Or.inl rfl⟩
  | i :: is, l => by
    by_cases hc : r.getD i 46 ≠ 46 ∧ r.getD i 46 ≠ st.getD i 46
    · have e : latF rows r st (i :: is) l = latF rows r st is (min l ((newest rows i rows.length : Int) - 1)) := by
        show latF rows r st is (if _ then _ else _) = _
        rw [if_pos hc]
      obtain ⟨a1, a2, a3⟩ := lat_spec rows r st is (min l ((newest rows i rows.length : Int) - 1))
      rw [e]
      refine ⟨Int.le_trans a1 (Int.min_le_left _ _), fun j hj hcj => ?_, ?_⟩
      · rcases List.mem_cons.mp hj with hj | hj
        · rw [hj]
          exact Int.le_trans a1 (Int.min_le_right _ _)
        · exact a2 j hj hcj
      · rcases a3 with a3 | ⟨j, hj, hcj, a3⟩
        · have key : ∀ v l w : Int, v = min l w → v = l ∨ v = w := fun v l w h => by
            rw [h]
            by_cases hm : l ≤ w
            · exact Or.inl (Int.min_eq_left hm)
            · exact Or.inr (Int.min_eq_right (by omega))
          rcases key _ _ _ a3 with h | h
          · exact Or.inl h
          · exact Or.inr ⟨i, List.mem_cons_self .., hc, h⟩
        · exact Or.inr ⟨j, List.mem_cons_of_mem _ hj, hcj, a3⟩
    · have e : latF rows r st (i :: is) l = latF rows r st is l := by
        show latF rows r st is (if _ then _ else _) = _
        rw [if_neg hc]
      obtain ⟨a1, a2, a3⟩ := lat_spec rows r st is l
      rw [e]
      refine ⟨a1, fun j hj hcj => ?_, ?_⟩
      · rcases List.mem_cons.mp hj with hj | hj
        · rw [hj] at hcj
          exact absurd hcj hc
        · exact a2 j hj hcj
      · rcases a3 with a3 | ⟨j, hj, hcj, a3⟩
        · exact Or.inl a3
        · exact Or.inr ⟨j, List.mem_cons_of_mem _ hj, hcj, a3⟩
theorem rep_get {N i : Nat} {x : List Nat} (h : i < N) : (List.replicate N x).getD i [] = x := by
  rw [List.getD_eq_getElem?_getD, List.getElem?_replicate, if_pos h] <;> rfl
theorem newest_rep {N k : Nat} {x : List Nat} : ∀ m, m ≤ N → newest (List.replicate N x) k m = if x.getD k 46 = 46 then 0 else m
  | 0, _ => by
    unfold newest
    split <;> rfl
  | m + 1, h => by
    unfold newest
    rw [rep_get (by omega), newest_rep m (by omega)]
    split <;> rfl
theorem fsg_rep {k : Nat} {x : List Nat} : ∀ N, 0 < N → fsg k 46 (List.replicate N x) = x.getD k 46
  | 0, h => by omega
  | N + 1, _ => by
    rw [List.replicate_succ', fsg_app, fsg_one]
    by_cases hx : x.getD k 46 = 46
    · rw [if_pos hx, hx]
      by_cases hN : 0 < N
      · rw [fsg_rep N hN]
        exact hx
      · have : N = 0 := by omega
        subst this
        rfl
    · rw [if_neg hx]
def dueLast (n : Nat) (r x : List Nat) : Int := if ov r x = x then 400 else if (List.range n).all (fun k => decide (r.getD k 46 = 46) || !decide (x.getD k 46 = 46)) = true then 399 else -1
theorem lat_due {n : Nat} {r x : List Nat} (hr : r.length = n) (hx : x.length = n) : optZ (latF (List.replicate 400 x) r (stand n (List.replicate 400 x)) (List.range r.length) ((List.replicate 400 x).length : Int)) = optZ (dueLast n r x) := by
  congr 1
  have hw : ∀ y ∈ List.replicate 400 x, y.length = n := fun y hy => by
    rw [(List.mem_replicate.mp hy).2]
    exact hx
  have hst : ∀ i, i < n → (stand n (List.replicate 400 x)).getD i 46 = x.getD i 46 := fun i hi => by rw [stand_get hw hi, fsg_rep 400 (by decide)]
  have hlen : (List.replicate 400 x).length = 400 := List.length_replicate
  obtain ⟨a1, a2, a3⟩ := lat_spec (List.replicate 400 x) r (stand n (List.replicate 400 x)) (List.range r.length) ((List.replicate 400 x).length : Int)
  rw [hlen] at a1 a2 a3 ⊢
  simp only [newest_rep 400 (Nat.le_refl 400)] at a2 a3
  generalize latF (List.replicate 400 x) r (stand n (List.replicate 400 x)) (List.range r.length) ((400 : Nat) : Int) = v at a1 a2 a3 ⊢
  have hov : ov r x = x ↔ ∀ i, i < n → ¬ (r.getD i 46 ≠ 46 ∧ r.getD i 46 ≠ x.getD i 46) := by
    constructor
    · intro e i hi h
      have q := ov_get (a := r) (b := x) (by omega) i
      rw [e, if_neg h.1] at q
      exact h.2 q.symm
    · intro h
      refine row_ext (by rw [ov_len (by omega)]) fun i hi => ?_
      rw [ov_get (by omega)]
      rw [ov_len (by omega)] at hi
      split
      · rfl
      · rename_i h1
        by_cases h2 : r.getD i 46 = x.getD i 46
        · exact h2
        · exact absurd ⟨h1, h2⟩ (h i (by omega))
  unfold dueLast
  by_cases h1 : ov r x = x
  · rw [if_pos h1]
    rcases a3 with a3 | ⟨i, hi, hc, _⟩
    · exact a3
    · have hi := List.mem_range.mp hi
      rw [hst i (by omega)] at hc
      exact absurd hc (hov.mp h1 i (by omega))
  · rw [if_neg h1]
    obtain ⟨i, hi, hc⟩ : ∃ i, i < n ∧ (r.getD i 46 ≠ 46 ∧ r.getD i 46 ≠ x.getD i 46) := by
      by_cases hx : ∃ i, i < n ∧ (r.getD i 46 ≠ 46 ∧ r.getD i 46 ≠ x.getD i 46)
      · exact hx
      · exact absurd (hov.mpr fun i hi h => hx ⟨i, hi, h⟩) h1
    have b2 := a2 i (List.mem_range.mpr (by omega)) (by rw [hst i hi]; exact hc)
    by_cases h2 : (List.range n).all (fun k => decide (r.getD k 46 = 46) || !decide (x.getD k 46 = 46)) = true
    · rw [if_pos h2]
      have hall : ∀ k, k < n → r.getD k 46 ≠ 46 → x.getD k 46 ≠ 46 := fun k hk hne => by
        have q := List.all_eq_true.mp h2 k (List.mem_range.mpr hk)
        rw [decide_eq_false hne, Bool.false_or] at q
        intro e
        rw [decide_eq_true e] at q
        cases q
      rw [if_neg (hall i hi hc.1)] at b2
      rcases a3 with a3 | ⟨j, hj, hcj, a3⟩
      · omega
      · have hj := List.mem_range.mp hj
        rw [if_neg (hall j (by omega) hcj.1)] at a3
        omega
    · rw [if_neg h2]
      obtain ⟨k, hk, hk1, hk2⟩ : ∃ k, k < n ∧ r.getD k 46 ≠ 46 ∧ x.getD k 46 = 46 := by
        by_cases hx : ∃ k, k < n ∧ r.getD k 46 ≠ 46 ∧ x.getD k 46 = 46
        · exact hx
        · refine absurd (List.all_eq_true.mpr fun k hk => ?_) h2
          by_cases e1 : r.getD k 46 = 46
          · rw [decide_eq_true e1] <;> rfl
          · by_cases e2 : x.getD k 46 = 46
            · exact absurd ⟨k, List.mem_range.mp hk, e1, e2⟩ hx
            · rw [decide_eq_false e2, Bool.or_comm] <;> rfl
      have c2 := a2 k (List.mem_range.mpr (by omega)) ⟨hk1, by rw [hst k hk, hk2]; exact hk1⟩
      rw [if_pos hk2] at c2
      rcases a3 with a3 | ⟨j, hj, hcj, a3⟩
      · omega
      · split at a3 <;> omega
end Nt
end
section
set_option Elab.async false
set_option linter.all false
set_option maxRecDepth 100000
set_option maxHeartbeats 400000
namespace Nt
open PySem PySem.Spec PyProof.Rows L2 Evl SX
section
variable {K : PySem.W.Frag} {σ : L2.St} {W H H' : Hp} {ta tb tc te tl : TE} {t : TA} {x y z v : V} {D : Ends} {tz : TS} {A : Ad} {E : XK}
theorem p_stream {b : Addr} {cs : Cells} {kept rows : List (List Nat)} (ha : Ev ta σ H (.ref b)) (hb : EvL tb σ H (rows.map vS)) (B : BandAt A H b cs kept) (hw : ∀ r ∈ rows, r.length = cs.length) (ok : StrmOk cs kept rows) (h4 : rows.length ≤ 400) :
    EvP (tMake (A.C "Stream") (spStreamInit A) [] E (tCons ta (tCons tb tNil))) σ H (fun v H2 => ∃ s, v = .ref s ∧ H s = none ∧ Ex H H2 ∧ StreamAt A H2 s cs kept rows) := fun Q q =>
  ha H (Ex.refl H) _ fun H1 e1 => hb H1 e1 _ fun rl H2 nrl e2 hrl x dx' nx ndx ne => by
    have e3 : Ex H2 (upd (upd H2 dx' (.own x)) x (.ins (A.C "Stream") dx' [])) := Ex.mut (Ex.new ndx) nx
    have e13 := (e1.trans e2).trans e3
    have c12 := ok.few
    refine ⟨x, dx', b, rl, cs, kept, rows, rfl, upd_same, B.ex e13, ⟨e3 _ _ hrl, hw, by omega, by omega⟩, ok, h4, fun H3 eh hS3 => ⟨rfl, q _ H3 ⟨x, rfl, fresh_back (e1.trans e2) nx, fun a o ha => eh _ _ (hid_at (e13 a o ha) (ne_of_none ((e1.trans e2) a o ha) nx)), hS3⟩⟩⟩
theorem ev_count {r : List Nat} {j : Nat} (h : Ev te σ H (vS r)) (hl : r.length ≤ 1000) (hj : j < σ.length) : Ev (tCB (fun xs H Q => ∃ p ys, xs = [.ref p] ∧ (SqL K H p ys ∨ SqT K H p ys) ∧ Q (.int ys.length) H) (tCons (tLc (iStr te) (gName j) (tTest (tOp rNe (tVar j) (tC (.str ".")))) (tVar j) [j]) tNil)) σ H (.int ((r.filter fun c => !decide (c = 46)).length : Int)) := by
  have hwl : j < (wipe σ [j]).length := by
    show j < (σ.set j none).length
    rw [List.length_set]
    exact hj
  refine ev_is (ev_lenLN (eA (el_lc (vs := [j]) (n := r.length) (ei_text (l := r) (c := fun i => r.getD i 0) h (fun i hi => getD_some hi)) (by omega) (fun i => !decide (r.getD i 0 = 46)) (fun i => vS [r.getD i 0]) (fun i hi => ?_) (fun i hi => ?_) (fun i hi _ => ?_)) (given_map r 0 (fun c => !decide (c = 46)) (fun c => vS [c])))) (by rw [List.length_map])
  · show ((σ.set j none).set j _).set j none = σ.set j none
    rw [List.set_set, List.set_set]
  · exact et_is (et_test (ev_op (ev_var (by show ((wipe σ [j]).set j _)[j]? = _; rw [List.getElem?_set_self hwl])) ev_c (rv_ne1 (b := 46)))) rfl
  · exact ev_var (by show ((wipe σ [j]).set j _)[j]? = _; rw [List.getElem?_set_self hwl])
theorem q_asgR {i : Nat} {R : Hp → List V → Prop} (h : EaR t σ H R) (hz : ∀ H1 xs, R H1 xs → xs.length ≤ 1000) (k : ∀ p xs H1, Ex H H1 → R H1 xs → H1 p = none → tz D (σ.set i (some (.ref p))) (upd H1 p (.lst xs))) : tSeq (tAsg (tLst t) (gName i)) tz D σ H := h H (Ex.refl H) _ fun xs H1 e1 r => ⟨by show xs.length ≤ 16777216; have := hz _ _ r; omega, fun p hp => k p xs H1 e1 r hp⟩
theorem ev_untilQ {Es : L2.St → XK} {s : Addr} {cs : Cells} {kept rows : List (List Nat)} {r : List Nat} {m : Nat} (ha : Ev ta σ H (.ref s)) (hb : Ev tb σ H (vS r)) (hc : Ev tc σ H (.int (m : Int))) (hS : StreamAt A H s cs kept rows) (hkl : ∀ r ∈ kept, r.length = cs.length) (hr : r ∈ kept) (rb : rowB cs r = true) (hm : m ≤ rows.length) :
    Ev (Nr.tCallQ 2 1 (spUntil0 A) (fun vs zs => vs ++ zs) Es (tCons ta (tCons tb tNil)) (tCons tc tNil)) σ H (.int (untilF rows.length (seenL rows r m) 0 : Int)) := fun H1 e Q q =>
  ha H1 e _ fun H2 e2 => hb H2 (e.trans e2) _ fun H3 e3 => hc H3 ((e.trans e2).trans e3) _ fun H4 e4 => ⟨rfl, rfl, s, cs, kept, rows, r, m, rfl, hS.ex (((e.trans e2).trans e3).trans e4), hkl, hr, rb, hm, fun H5 e5 => q H5 (((e2.trans e3).trans e4).trans e5)⟩
theorem ev_seenQ {Es : L2.St → XK} {s : Addr} {cs : Cells} {kept rows : List (List Nat)} {r : List Nat} {m : Nat} (ha : Ev ta σ H (.ref s)) (hb : Ev tb σ H (vS r)) (hc : Ev tc σ H (.int (m : Int))) (hS : StreamAt A H s cs kept rows) (hkl : ∀ r ∈ kept, r.length = cs.length) (hr : r ∈ kept) (rb : rowB cs r = true) (hm : m ≤ rows.length) :
    Ev (tCB (fun xs H Q => ∃ p ys, xs = [.ref p] ∧ (SqL K H p ys ∨ SqT K H p ys) ∧ Q (.int ys.length) H) (tCons (Nr.tCallQ 2 1 (spSeen0 A) (fun vs zs => vs ++ zs) Es (tCons ta (tCons tb tNil)) (tCons tc tNil)) tNil)) σ H (.int ((seenL rows r m).length : Int)) := fun H1 e Q q =>
  ha H1 e _ fun H2 e2 => hb H2 (e.trans e2) _ fun H3 e3 => hc H3 ((e.trans e2).trans e3) _ fun H4 e4 => ⟨rfl, rfl, s, cs, kept, rows, r, m, rfl, hS.ex (((e.trans e2).trans e3).trans e4), hkl, hr, rb, hm, fun a H5 e5 hst => by
    obtain ⟨ts, nm, g1, g2⟩ := hst
    refine ⟨a, _, rfl, Or.inl (sq_of g1), ?_⟩
    rw [List.length_map, List.length_range]
    exact q H5 (((e2.trans e3).trans e4).trans e5)⟩
theorem s_retSame {R : Hp → List V → Prop} (ha : Ev ta σ H x) (h : EaR t σ H R) (hz : ∀ H1 xs, R H1 xs → xs.length ≤ 1000) (hs : ∀ p xs H1, Ex H H1 → R H1 xs → H1 p = none → SmN 3 (upd H1 p (.lst xs)) x (.ref p)) (k : ∀ H2, Ex H H2 → D.rt (.bl true) H2) : tRet (tCall (spSame 3) [] E (tCons ta (tCons (tLst t) tNil))) D σ H :=
  ha H (Ex.refl H) _ fun H0 e0 => h H0 e0 _ fun xs H1 e1 r => ⟨by show xs.length ≤ 16777216; have := hz _ _ r; omega, fun p hp => ⟨x, .ref p, rfl, hs p xs H1 (e0.trans e1) r hp, fun H2 e2 => k H2 ((e0.trans e1).trans ((Ex.new hp).trans e2))⟩⟩
theorem sm_lst {n : Nat} {a b : Addr} {xs ys : List V} (h1 : H a = some (.lst xs)) (h2 : H b = some (.lst ys)) (hl : xs.length = ys.length) (hz : xs.length ≤ 1000) (h : ∀ (i : Nat) (u v : V), xs[i]? = some u → ys[i]? = some v → SmN n H u v) : SmN (n + 1) H (.ref a) (.ref b) := Or.inr ⟨a, b, xs, ys, rfl, rfl, Or.inl ⟨h1, h2⟩, hl, hz, h⟩
theorem sm_tup {n : Nat} {a b : Addr} {xs ys : List V} (h1 : H a = some (.tup xs)) (h2 : H b = some (.tup ys)) (hl : xs.length = ys.length) (hz : xs.length ≤ 1000) (h : ∀ (i : Nat) (u v : V), xs[i]? = some u → ys[i]? = some v → SmN n H u v) : SmN (n + 1) H (.ref a) (.ref b) := Or.inr ⟨a, b, xs, ys, rfl, rfl, Or.inr ⟨h1, h2⟩, hl, hz, h⟩
theorem sm_same {n : Nat} {a b : Addr} {xs : List V} (h1 : H a = some (.lst xs)) (h2 : H b = some (.lst xs)) (hz : xs.length ≤ 1000) (h : ∀ x ∈ xs, SmN n H x x) : SmN (n + 1) H (.ref a) (.ref b) := sm_lst h1 h2 rfl hz fun i u v hu hv => by
  rw [hu] at hv
  cases hv
  exact h u (List.mem_of_getElem? hu)
theorem sm_optZ {n : Nat} {z : Int} : SmN n H (optZ z) (optZ z) := by
  unfold optZ
  split
  · exact sm_non
  · exact sm_int
theorem sm_optI {n : Nat} {o : Option Nat} : SmN n H (optI o) (optI o) := by
  cases o with
  | none => exact sm_non
  | some m => exact sm_int
end
section
variable {P : Program} {w : World} {K : PySem.W.Frag} {mg : Str → Option Value} {base : Heap} {A : Ad}
abbrev n_wfullso : List Str := ["_law_home_here", "_law_wide", "_law_past_here", "_law_line_here", "_law_flow", "_law_count", "_law_found", "_law_last", "_law_c", "_law_k"]
theorem sc_wfullso : FnScope n_wfullso ["_law_home_here", "_law_wide", "_law_past_here", "_law_line_here"] (defScope s_wfullso) := ⟨rfl, rfl, rfl, by decide +kernel, rfl, by decide +kernel, by decide +kernel⟩
def spFullSo (A : Ad) : Sp := fun vs H Q _ => ∃ (hb a : Addr) (cs : Cells) (kept : List (List Nat)) (x r : List Nat), vs = [.ref hb, .int (cs.length : Int), .ref a, vS r] ∧ BandAt A H hb cs kept ∧ H a = some (.lst ((List.replicate 400 x).map vS)) ∧ 1 ≤ cs.length ∧ cs.length ≤ 12 ∧ (∀ y ∈ kept, y.length = cs.length ∧ rowB cs y = true) ∧ x ∈ kept ∧ r ∈ kept ∧ RetV (.bl true) H Q
theorem ok_wfullso (T : Tx K mg A) : FnOk P w K mg base CX0 20 (A.f "_law_full_so") (A.fd "_law_full_so") ["_law_home_here", "_law_wide", "_law_past_here", "_law_line_here"] (spFullSo A) := by
  refine T.F_wfullso.ok sc_wfullso (fun vs H Q E h => ?_) (fun cdv A' outer s' H vs Q E hr h => ?_)
  · obtain ⟨hb, a, cs, kept, x, r, rfl, _⟩ := h
    rfl
  · obtain ⟨hb, a, cs, kept, x, r, rfl, hB, ha, c1, c12, hk, hx, hr', k⟩ := h
    refine ⟨_, PSs.nox (pss_cons (ps_par (i := 4) (j := 5) (by rfl) sc_wfullso.nd rfl rfl (by decide) rfl rfl (pa_cons (pe_make T.mk_Stream (ok_Streaminit T) (hr.mono (by decide)) (by rfl) T.g_Stream T.b_Streaminit.choose_spec.2 T.b_Streaminit.choose_spec.1 pass0 (pa_cons (pv 0) (pa_cons (pe_callTy call_list_of (by rfl) T.n_list (by decide +kernel) (pa_cons (pv 2) pa_nil)) pa_nil))) (pa_cons (pe_callB call_len_seq (by rfl) T.n_len PySem.boot_len (pa_cons (pe_lc (own := [("_law_c", 8)]) (g := (gName 8)) (by rfl) sc_wfullso.nd (pi_str (pv 3)) (blkOk_by (own := [("_law_c", 8)]) (N := n_wfullso) (sc := defScope s_wfullso) (by decide +kernel)) (fun _ _ _ _ _ => (pg_name (i := 8) sc_wfullso.nd rfl (Or.inl rfl) (Or.inr rfl))) (fun _ _ _ _ _ => (pts_one (pt_cmpR op_ne (pv 8) pe_str (nomark _)))) (fun _ _ _ _ _ => (pv 8))) pa_nil)) pa_nil)) (by rfl))
      (pss_cons (ps_set (i := 6) sc_wfullso.nd rfl (Or.inl rfl) (pe_lst (pa_cons (Nr.pe_callQ (ok_showsuntil0 T) (hr.mono (by decide)) (by rfl) T.g_showsuntil T.F_showsuntil.kp T.kb_showsuntil (Nr.at_of_passes pass0) (pa_cons (pv 4) (pa_cons (pv 3) pa_nil)) (pk_cons pe_int pk_nil)) (pa_cons (Nr.pe_callQ (ok_showsuntil0 T) (hr.mono (by decide)) (by rfl) T.g_showsuntil T.F_showsuntil.kp T.kb_showsuntil (Nr.at_of_passes pass0) (pa_cons (pv 4) (pa_cons (pv 3) pa_nil)) (pk_cons pe_int pk_nil)) (pa_cons (pe_callB call_len_seq (by rfl) T.n_len PySem.boot_len (pa_cons (Nr.pe_callQ (ok_seen0 T) (hr.mono (by decide)) (by rfl) T.g_seen T.F_seen.kp T.kb_seen (Nr.at_of_passes pass0) (pa_cons (pv 4) (pa_cons (pv 3) pa_nil)) (pk_cons pe_int pk_nil)) pa_nil)) (pa_cons (pe_callB (Nr.call_lenO T.m_Streamlen.at_ T.m_Streamlen.fn (ok_Streamlen T) (hr.mono (by decide)) T.b_Streamlen pass0) (by rfl) T.n_len PySem.boot_len (pa_cons (pv 4) pa_nil)) pa_nil))))))
      (pss_cons (ps_if (pt_cmpR op_eq (pe_call (ok_wover T) (hr.mono (by decide)) (by rfl) T.g_wover T.F_wover.kp T.b_wover .nil pass0 (pa_cons (pv 3) (pa_cons (pe_ix ix_list (pv 2) pe_int (fun _ _ => rfl)) pa_nil))) (pe_ix ix_list (pv 2) pe_int (fun _ _ => rfl)) (nomark _))
      (pss_one (ps_set (i := 7) sc_wfullso.nd rfl (Or.inl rfl) pe_int))
      (pss_one (ps_set (i := 7) sc_wfullso.nd rfl (Or.inl rfl) (pe_ifExp (pt_val (pe_callB (cr_all rfl) (by rfl) T.n_all (by decide +kernel) (pa_cons (pe_lc (own := [("_law_k", 9)]) (g := (gName 9)) (te := (tOrV _ (tOp _ (tOp _ (tOp (rIxL K) _ _) _) _))) (by rfl) sc_wfullso.nd (pi_range1 (by rfl) T.n_range (pa_cons (pv 1) pa_nil)) (blkOk_by (own := [("_law_k", 9)]) (N := n_wfullso) (sc := defScope s_wfullso) (by decide +kernel)) (fun _ _ _ _ _ => (pg_name (i := 9) sc_wfullso.nd rfl (Or.inl rfl) (Or.inr rfl))) (fun _ _ _ _ _ => pts_nil) (fun _ _ _ _ _ => (pe_or (pe_cmpR op_eq (pe_ix ix_str (pv 3) (pv 9) (fun _ _ => rfl)) pe_str (nomark _)) (pe_one (pe_cmpR op_ne (pe_ix ix_str (pe_ix ix_list (pv 2) pe_int (fun _ _ => rfl)) (pv 9) (fun _ _ => rfl)) pe_str (nomark _)))))) pa_nil))) pe_int pe_non))))
      (pss_cons (ps_expr (pe_bm PySem.F.plainAttrs_list PySem.F.slot_list_append PySem.F.type_list_append mt_append (pv 6) (pa_cons (pe_call (ok_latestidle T) (hr.mono (by decide)) (by rfl) T.g_latestidle T.F_latestidle.kp T.b_latestidle .nil pass0 (pa_cons (pv 4) (pa_cons (pv 3) pa_nil))) pa_nil)))
      (pss_one (ps_ret (pe_call (ok_wsame T 3) (hr.mono (by decide)) (by rfl) T.g_wsame T.F_wsame.kp T.b_wsame .nil pass0 (pa_cons (pv 6) (pa_cons (pe_lst (pa_cons (pe_call (ok_wuntil T) (hr.mono (by decide)) (by rfl) T.g_wuntil T.F_wuntil.kp T.b_wuntil .nil pass0 (pa_cons (pv 1) (pa_cons (pv 2) (pa_cons (pv 3) (pa_cons pe_int pa_nil))))) (pa_cons (pe_call (ok_wuntil T) (hr.mono (by decide)) (by rfl) T.g_wuntil T.F_wuntil.kp T.b_wuntil .nil pass0 (pa_cons (pv 1) (pa_cons (pv 2) (pa_cons (pv 3) (pa_cons pe_int pa_nil))))) (pa_cons (pv 5) (pa_cons pe_int (pa_cons (pv 7) pa_nil)))))) pa_nil))))))))) , ?_⟩
    obtain ⟨xl, xb⟩ := hk x hx
    obtain ⟨rl, rb⟩ := hk r hr'
    have hkl : ∀ y ∈ kept, y.length = cs.length := fun y hy => (hk y hy).1
    generalize hrows : List.replicate 400 x = rows at ha
    have rlen : rows.length = 400 := by rw [← hrows, List.length_replicate]
    have rmem : ∀ y ∈ rows, y = x := fun y hy => by
      rw [← hrows] at hy
      exact (List.mem_replicate.mp hy).2
    have rget : rows.getD 0 [] = x := by rw [← hrows]; exact rep_get (by decide)
    have R : RowsAt H a rows cs.length := ⟨ha, fun y hy => by rw [rmem y hy]; exact xl, by omega, by omega⟩
    have sok : StrmOk cs kept rows := ⟨c1, c12, fun y hy => by rw [rmem y hy]; exact ⟨xb, hx⟩⟩
    refine q_parP (P := fun v y H2 => ∃ s, v = .ref s ∧ y = .int ((r.filter fun c => !decide (c = 46)).length : Int) ∧ Ex H H2 ∧ StreamAt A H2 s cs kept rows) (fun Q q => ?_) fun v y H2 hP => ?_
    · refine p_stream (b := hb) (rows := rows) (ev_var rfl) (el_listOf (ev_var rfl) (sq_of R.at_)) hB R.wid sok (by omega) _ fun v H2 hv => ?_
      obtain ⟨s, rfl, ns, e2, hS⟩ := hv
      exact ev_count (H := H2) (σ := [some (.ref hb), some (.int (cs.length : Int)), some (.ref a), some (vS r), none, none, none, none, none, none]) (r := r) (j := 8) (ev_var rfl) (by omega) (show 8 < 10 by decide) H2 (Ex.refl H2) _ fun H3 e3 => q _ _ H3 ⟨s, rfl, rfl, e2.trans e3, hS.ex e3⟩
    · obtain ⟨s, rfl, rfl, e2, hS⟩ := hP
      have R2 := R.ex e2
      generalize hcnt : (r.filter fun c => !decide (c = 46)).length = cnt
      refine q_asgR (ear_v (ev_untilQ (m := 400) (r := r) (ev_var rfl) (ev_var rfl) ev_c hS hkl hr' rb (by omega)) (ear_v (ev_untilQ (m := 0) (r := r) (ev_var rfl) (ev_var rfl) ev_c hS hkl hr' rb (by omega)) (ear_v (ev_seenQ (m := 400) (r := r) (ev_var rfl) (ev_var rfl) ev_c hS hkl hr' rb (by omega)) (ear_v (ev_lenO (ev_var rfl) hS) ear_nil)))) (fun H1 xs h => ?_) (fun l xs H3 e3 h hl => ?_)
      · obtain ⟨ys1, rfl, ys2, rfl, ys3, rfl, ys4, rfl, rfl⟩ := h
        show 4 ≤ 1000
        decide
      · obtain ⟨ys1, rfl, ys2, rfl, ys3, rfl, ys4, rfl, rfl⟩ := h
        have u1 := until_luntil (p := 400) R.wid rl (by omega)
        have u2 := until_luntil (p := 0) R.wid rl (by omega)
        rw [u1, u2, seen_len, hcnt, rlen]
        have hlat : optZ (latF rows r (stand cs.length rows) (List.range r.length) (rows.length : Int)) = optZ (dueLast cs.length r x) := by
          rw [← hrows]
          exact lat_due rl xl
        have hasc : Asc rows := fun y hy c hc => by
          rw [rmem y hy] at hc
          exact sg_lt (rowB_asc xl xb c hc)
        generalize hH4 : upd H3 l (.lst [.int (luntil cs.length rows r 400 : Int), .int (luntil cs.length rows r 0 : Int), .int (cnt : Int), .int ((400 : Nat) : Int)]) = H4
        have e24 : Ex H2 H4 := by
          rw [← hH4]
          exact e3.trans (Ex.new hl)
        have hl4 : H4 l = some (.lst [.int (luntil cs.length rows r 400 : Int), .int (luntil cs.length rows r 0 : Int), .int (cnt : Int), .int ((400 : Nat) : Int)]) := by
          rw [← hH4]
          exact upd_same
        have fin : ∀ H5, Ex H4 H5 → tSeq (tDrop (tBM K "list" rAppend (tVar 6) (tCons (tCall (spIdle A) [] E0 (tCons (tVar 4) (tCons (tVar 3) tNil))) tNil))) (tRet (tCall (spSame 3) [] E0 (tCons (tVar 6) (tCons (tLst (tCons (tCall spLuntil [] E0 (tCons (tVar 1) (tCons (tVar 2) (tCons (tVar 3) (tCons (tC (V.int 400)) tNil))))) (tCons (tCall spLuntil [] E0 (tCons (tVar 1) (tCons (tVar 2) (tCons (tVar 3) (tCons (tC (V.int 0)) tNil))))) (tCons (tVar 5) (tCons (tC (V.int 400)) (tCons (tVar 7) tNil)))))) tNil)))) { nx := fun x H' => Q V.non H', rt := Q } [some (.ref hb), some (.int (cs.length : Int)), some (.ref a), some (vS r), some (.ref s), some (.int (cnt : Int)), some (.ref l), some (optZ (dueLast cs.length r x)), none, none] H5 := fun H5 e5 => by
          have hS5 := hS.ex (e24.trans e5)
          have R5 := R2.ex (e24.trans e5)
          refine s_app (l := l) (xs := [.int (luntil cs.length rows r 400 : Int), .int (luntil cs.length rows r 0 : Int), .int (cnt : Int), .int ((400 : Nat) : Int)]) (e5 _ _ hl4) (ev_var rfl) (v := optZ (dueLast cs.length r x)) (ev_call (dvs := []) (ea2 (ev_var rfl) (ev_var rfl)) (fun H6 e6 Q q E => ⟨s, cs, kept, rows, r, rfl, hS5.ex e6, rl, hr', rb, by rw [hlat]; exact q⟩)) (by show 4 < 100000; decide) fun H6 e6 => ?_
          have e56 : Ex H2 (upd H6 l (.lst ([.int (luntil cs.length rows r 400 : Int), .int (luntil cs.length rows r 0 : Int), .int (cnt : Int), .int ((400 : Nat) : Int)] ++ [optZ (dueLast cs.length r x)]))) := Ex.mut (e24.trans (e5.trans e6)) (fresh_back e3 hl)
          generalize hH7 : upd H6 l (.lst ([.int (luntil cs.length rows r 400 : Int), .int (luntil cs.length rows r 0 : Int), .int (cnt : Int), .int ((400 : Nat) : Int)] ++ [optZ (dueLast cs.length r x)])) = H7 at e56
          have hl7 : H7 l = some (.lst [.int (luntil cs.length rows r 400 : Int), .int (luntil cs.length rows r 0 : Int), .int (cnt : Int), .int ((400 : Nat) : Int), optZ (dueLast cs.length r x)]) := by
            rw [← hH7]
            exact upd_same
          have R7 := R2.ex e56
          refine s_retSame (ev_var rfl) (ear_v (ev_call (dvs := []) (vs := [.int (cs.length : Int), .ref a, vS r, .int ((400 : Nat) : Int)]) (ea_cons (ev_var rfl) (ea3 (ev_var rfl) (ev_var rfl) ev_c)) (fun H8 e8 Q q E => ⟨a, rows, cs.length, 400, r, rfl, R7.ex e8, hasc, rl, by omega, q⟩))
            (ear_v (ev_call (dvs := []) (vs := [.int (cs.length : Int), .ref a, vS r, .int ((0 : Nat) : Int)]) (ea_cons (ev_var rfl) (ea3 (ev_var rfl) (ev_var rfl) ev_c)) (fun H8 e8 Q q E => ⟨a, rows, cs.length, 0, r, rfl, R7.ex e8, hasc, rl, by omega, q⟩)) (ear_v (ev_var rfl) (ear_v ev_c (ear_v (ev_var rfl) ear_nil))))) (fun H1 xs h => ?_) (fun p xs H8 e8 h hp => ?_) (fun H8 e8 => k H8 (e2.trans (e56.trans e8)))
          · obtain ⟨ys1, rfl, ys2, rfl, ys3, rfl, ys4, rfl, ys5, rfl, rfl⟩ := h
            show 5 ≤ 1000
            decide
          · obtain ⟨ys1, rfl, ys2, rfl, ys3, rfl, ys4, rfl, ys5, rfl, rfl⟩ := h
            refine sm_same (n := 2) ((Ex.new hp) _ _ (e8 _ _ hl7)) upd_same (by show 5 ≤ 1000; decide) fun y hy => ?_
            simp only [List.mem_cons, List.not_mem_nil, or_false] at hy
            rcases hy with rfl | rfl | rfl | rfl | rfl
            · exact sm_int
            · exact sm_int
            · exact sm_int
            · exact sm_int
            · exact sm_optZ
        have R4 := R2.ex e24
        have hx0 : (rows.map vS)[0]? = some (vS x) := by
          have q := R4.get (i := 0) (by omega)
          rw [rget] at q
          exact q
        refine q_if (b := decide (ov r x = x)) (et_test (ev_op (ev_call (dvs := []) (z := vS (ov r x)) (ea2 (ev_var rfl) (ev_op (ev_var rfl) ev_c (rv_ixLn (i := 0) (sq_of R4.at_) hx0))) (fun H6 e6 Q q E => ⟨r, x, rfl, by omega, by omega, q⟩)) (ev_op (ev_var rfl) ev_c (rv_ixLn (i := 0) (sq_of R4.at_) hx0)) rv_eqS)) (fun hb H5 e5 => ?_) (fun hb H5 e5 => ?_)
        · have hd : dueLast cs.length r x = 400 := by
            unfold dueLast
            rw [if_pos (of_decide_eq_true hb)]
          rw [hd] at fin
          exact s_asg ev_c fun H6 e6 => fin H6 (e5.trans e6)
        · have hne := of_decide_eq_false hb
          have R5 := R4.ex e5
          have hz : optZ (dueLast cs.length r x) = if (List.range cs.length).all (fun k => decide (r.getD k 46 = 46) || !decide (x.getD k 46 = 46)) = true then .int 399 else .non := by
            unfold dueLast
            rw [if_neg hne]
            split <;> rfl
          rw [hz] at fin
          refine s_asg (ev_if (b := (List.range cs.length).all (fun k => decide (r.getD k 46 = 46) || !decide (x.getD k 46 = 46))) (et_is (et_B (ev_all (bs := (List.range cs.length).map (fun k => decide (r.getD k 46 = 46) || !decide (x.getD k 46 = 46))) (eA (el_lcA (vs := [9]) (n := cs.length) (ei_rng1 (ea1 (ev_var rfl)) (by omega) (by omega)) (by omega) (fun i => .bl (decide (r.getD i 46 = 46) || !decide (x.getD i 46 = 46))) (fun i hi => rfl) (fun i hi => ?_)) (by rw [List.map_map] <;> rfl)))) (by rw [List.all_map] <;> rfl)) (fun h => by rw [if_pos h]; exact ev_c) (fun h => by rw [if_neg (by rw [h]; decide)]; exact ev_c)) fun H6 e6 => fin H6 (e5.trans e6)
          exact ev_orV (ev_op (ev_op (ev_var rfl) (ev_var rfl) (rv_ixSn (i := i) (by omega) (getD_some (by omega)))) ev_c (rv_eq1 (b := 46))) (fun _ => ev_op (ev_op (ev_op (ev_var rfl) ev_c (rv_ixLn (i := 0) (sq_of R5.at_) hx0)) (ev_var rfl) (rv_ixSn (i := i) (by omega) (getD_some (by omega)))) ev_c (rv_ne1 (b := 46)))
end
end Nt
end
section
set_option Elab.async false
set_option linter.all false
set_option maxRecDepth 100000
set_option maxHeartbeats 1000000
namespace Nt
open PySem PySem.Spec PyProof.Rows L2 Evl SX
theorem bag_not {H : Hp} {b l0 p : Addr} {xs : List V} (B : BagAt H b l0) (h : H p = some (.lst xs)) (hx : xs.length = 5 → ∃ y, xs[1]? = some y ∧ ∀ i, y ≠ .int i) : p ≠ b := fun e => by
  obtain ⟨_, _, _, _, _, g1, _⟩ := B
  rw [e, g1] at h
  have q := HO.lst.inj (Option.some.inj h)
  obtain ⟨y, h1, h2⟩ := hx (by rw [← q] <;> rfl)
  rw [← q] at h1
  exact h2 _ (Option.some.inj h1).symm
theorem bag_noS {H : Hp} {b l0 p : Addr} {xs : List (List Nat)} (B : BagAt H b l0) (h : H p = some (.lst (xs.map vS))) : p ≠ b := bag_not B h fun hl => by
  rw [List.length_map] at hl
  exact ⟨vS xs[1], by rw [List.getElem?_map, List.getElem?_eq_getElem (show 1 < xs.length by omega)] <;> rfl, fun i e => by cases e⟩
theorem bag_noI {H : Hp} {b l0 p C dx : Addr} {fs : List (Str × V)} (B : BagAt H b l0) (h : H p = some (.ins C dx fs)) : p ≠ b := fun e => by
  obtain ⟨_, _, _, _, _, g1, _⟩ := B
  rw [e, g1] at h
  cases h
theorem bag_noT {H : Hp} {b l0 p : Addr} {xs : List V} (B : BagAt H b l0) (h : H p = some (.tup xs)) : p ≠ b := fun e => by
  obtain ⟨_, _, _, _, _, g1, _⟩ := B
  rw [e, g1] at h
  cases h
theorem cells_hidB {H : Hp} {b l0 cl : Addr} {cs : Cells} (h : CellsAt H cl cs) (B : BagAt H b l0) : CellsAt (hid b H) cl cs := by
  obtain ⟨ts, h1, h2⟩ := id h
  refine cells_hid h B (bag_not B h1 fun hl => ⟨_, range_get (by rw [List.length_map, List.length_range] at hl; omega), fun i e => by cases e⟩)
theorem band_hidB {A : Ad} {H : Hp} {b l0 hb : Addr} {cs : Cells} {G : List (List Nat)} (h : BandAt A H hb cs G) (B : BagAt H b l0) : BandAt A (hid b H) hb cs G := by
  obtain ⟨dx, cl, kd, sl, rl, ll, h1, h2, h3⟩ := h
  exact ⟨dx, cl, kd, sl, rl, ll, hid_at h1 (bag_noI B h1), cells_hidB h2 B, hid_at h3 fun e => by
    obtain ⟨_, _, _, _, _, g1, _⟩ := B
    rw [e, g1] at h3
    cases h3⟩
theorem rows_hidB {H : Hp} {b l0 a : Addr} {rows : List (List Nat)} {n : Nat} (h : RowsAt H a rows n) (B : BagAt H b l0) : RowsAt (hid b H) a rows n := ⟨hid_at h.at_ (bag_noS B h.at_), h.wid, h.few, h.nar⟩
theorem stream_hidB {A : Ad} {H : Hp} {b l0 s : Addr} {cs : Cells} {G rows : List (List Nat)} (h : StreamAt A H s cs G rows) (B : BagAt H b l0) : StreamAt A (hid b H) s cs G rows := by
  obtain ⟨dx, hb, rl, h1, h2, h3, h4⟩ := h
  exact ⟨dx, hb, rl, hid_at h1 (bag_noI B h1), band_hidB h2 B, rows_hidB h3 B, h4⟩
/-- what stands while a turn of the law runs -/
structure St (A : Ad) (W : Hp) (cl sw kp hb s pa : Addr) (cs : Cells) (sown kept G rows : List (List Nat)) : Prop where
  home : HomeAt W cl sw kp cs sown kept
  band : BandAt A W hb cs G
  strm : StreamAt A W s cs G rows
  past : RowsAt W pa rows cs.length
  inn : ∀ r ∈ rows, r ∈ kept
  eqG : ∀ r, r ∈ kept ↔ r ∈ G
theorem St.ex {A : Ad} {W W' : Hp} {cl sw kp hb s pa : Addr} {cs : Cells} {sown kept G rows : List (List Nat)} (h : St A W cl sw kp hb s pa cs sown kept G rows) (e : Ex W W') : St A W' cl sw kp hb s pa cs sown kept G rows := ⟨h.home.ex e, h.band.ex e, h.strm.ex e, h.past.ex e, h.inn, h.eqG⟩
section
variable {K : PySem.W.Frag} {σ : L2.St} {W H H' : Hp} {ta tb tc te tl : TE} {t : TA} {x y z v : V} {D : Ends} {tz tu : TS} {A : Ad} {E : XK}
theorem q_asgG {P : V → Hp → Prop} {g : TG} (h : EvP te σ H P) (k : ∀ v H1, P v H1 → g v σ H1 fun σ' H' => tz D σ' H') : tSeq (tAsg te g) tz D σ H := h _ k
theorem EvTP.of {b : Bool} {t : TT} (h : EvT t σ H b) : EvTP t σ H (fun b' H1 => b' = b ∧ Ex H H1) := fun Q q => h H (Ex.refl H) _ fun H1 e1 => q b H1 ⟨rfl, e1⟩
theorem q_ifSet {i : Nat} {t : TT} {R : Bool → Hp → Prop} {P : V → Hp → Prop} {f : V} (hf : σ[i]? = some (some f)) (h : EvTP t σ H R) (h1 : ∀ H1, R true H1 → EvP te σ H1 P) (h2 : ∀ H1, R false H1 → P f H1) (k : ∀ v H1, P v H1 → tz D (σ.set i (some v)) H1) : tSeq (tIfS t (tAsg te (gName i)) tNext) tz D σ H := h _ fun b H1 r => by
  cases b with
  | true => exact h1 H1 r _ k
  | false =>
    have hi : i < σ.length := by
      by_cases hi : i < σ.length
      · exact hi
      · rw [List.getElem?_eq_none (by omega)] at hf
        cases hf
    have e : σ.set i (some f) = σ := by
      refine List.ext_getElem? fun j => ?_
      by_cases hj : j = i
      · subst hj
        rw [List.getElem?_set_self hi, hf]
      · rw [List.getElem?_set_ne (fun e => hj e.symm)]
    show tz D σ H1
    have q := k f H1 (h2 H1 r)
    rw [e] at q
    exact q
theorem p_if {t : TT} {R : Bool → Hp → Prop} {P : V → Hp → Prop} (h : EvTP t σ H R) (h1 : ∀ H1, R true H1 → EvP ta σ H1 P) (h2 : ∀ H1, R false H1 → EvP tb σ H1 P) : EvP (tIf t ta tb) σ H P := fun Q q => h _ fun b H1 r => by
  cases b with
  | true => exact h1 H1 r Q q
  | false => exact h2 H1 r Q q
theorem ev_sameT {sp : Sp} {dvs vs ys : List V} {ta : TA} {E' : XK} {t : Addr} (ha : EvA ta σ H vs) (hs : ∀ H1, Ex H H1 → ∀ Q : VK, RetT ys H1 Q → ∀ E, sp (vs ++ dvs) H1 Q E) (hb : Ev tb σ H (.ref t)) (ht : H t = some (.tup ys)) (hl : ys.length ≤ 1000) (hy : ∀ H1, Ex H H1 → ∀ y ∈ ys, SmN 2 H1 y y) :
    Ev (tCall (spSame 3) [] E (tCons (tCall sp dvs E' ta) (tCons tb tNil))) σ H (.bl true) := fun H1 e Q q => ha H1 e _ fun H2 e2 => hs H2 (e.trans e2) _ (fun t2 H3 nt e3 ht2 => hb H3 (e.trans (e2.trans e3)) _ fun H4 e4 => by
    have e14 := (e2.trans e3).trans e4
    exact ⟨.ref t2, .ref t, rfl, sm_tup (n := 2) (e4 _ _ ht2) ((e.trans e14) _ _ ht) rfl hl (fun i u w hu hv => by
      rw [hu] at hv
      cases hv
      exact hy H4 (e.trans e14) u (List.mem_of_getElem? hu)), fun H5 e5 => q H5 (e14.trans e5)⟩) E'
theorem p_told {k : V} (h : Ev te σ H v) : EvP (tTup (tCons (tC k) (tCons te tNil))) σ H (fun d H2 => ∃ t, d = .ref t ∧ Ex H H2 ∧ H2 t = some (.tup [k, v])) := fun Q q => h H (Ex.refl H) _ fun H1 e1 => ⟨by show 2 ≤ sizeLine; decide, fun t ht => q _ _ ⟨t, rfl, e1.trans (Ex.new ht), upd_same⟩⟩
theorem ev_sameLL {t' : TA} {R R' : Hp → List V → Prop} (h1 : EaR t σ H R) (h2 : EaR t' σ H R') (hR : ∀ H H' xs, Ex H H' → R H xs → R H' xs) (hz : ∀ H1 xs, R H1 xs → xs.length ≤ 1000) (hR' : ∀ H H' xs, Ex H H' → R' H xs → R' H' xs) (hz' : ∀ H1 xs, R' H1 xs → xs.length ≤ 1000)
    (hs : ∀ xs ys H1 p q, Ex H H1 → R H1 xs → R' H1 ys → H1 p = some (.lst xs) → H1 q = some (.lst ys) → SmN 3 H1 (.ref p) (.ref q)) : Ev (tCall (spSame 3) [] E (tCons (tLst t) (tCons (tLst t') tNil))) σ H (.bl true) := fun H1 e Q q =>
  h1 H1 e _ fun xs H2 e2 r => ⟨by show xs.length ≤ 16777216; have := hz _ _ r; omega, fun p hp => h2 _ (e.trans (e2.trans (Ex.new hp))) _ fun ys H3 e3 r' => ⟨by show ys.length ≤ 16777216; have := hz' _ _ r'; omega, fun p2 hp2 => by
    have e23 : Ex H2 (upd H3 p2 (.lst ys)) := (Ex.new (o := .lst xs) hp).trans (e3.trans (Ex.new hp2))
    have hl1 := (Ex.new (o := .lst ys) hp2) _ _ (e3 _ _ (upd_same (H := H2) (a := p) (o := .lst xs)))
    exact ⟨.ref p, .ref p2, rfl, hs xs ys _ p p2 (e.trans (e2.trans e23)) (hR _ _ _ e23 r) (hR' _ _ _ (Ex.new hp2) r') hl1 upd_same, fun H4 e4 => q H4 ((e2.trans e23).trans e4)⟩⟩⟩
theorem bag_hidS {x l0 b C dx : Addr} {fs : List (Str × V)} (B : BagAt H b l0) (h : H x = some (.ins C dx fs)) : BagAt (hid x H) b l0 := by
  obtain ⟨ns, a1, a2, a3, a4, g1, g2, g3⟩ := B
  exact ⟨ns, a1, a2, a3, a4, hid_at g1 (ne_of g1 h (by intro z; cases z)), hid_at g2 (ne_of g2 h (by intro z; cases z)), g3⟩
theorem ev_windowQ {x : Addr} {cs : Cells} {G rows : List (List Nat)} {m : Nat} {Es : L2.St → XK} (ha : Ev ta σ H (.ref x)) (hb : Ev tb σ H (.int (m : Int))) (hS : StreamAt A H x cs G rows) (h1 : 1 ≤ m) (h2 : m ≤ rows.length) : Ev (Nr.tMethQ (A.C "Stream") "window" 0 1 (spWindow A) (fun vs zs => vs ++ ([.int 1] ++ zs)) Es ta tNil (tCons tb tNil)) σ H (vS (stand cs.length (rows.take m))) := fun H1 e Q q =>
  ha H1 e _ fun H2 e2 => by
    obtain ⟨dx, _, _, hx, _⟩ := id (hS.ex (e.trans e2))
    refine ⟨x, dx, _, rfl, hx, fsS_no (by decide +kernel) (by decide +kernel), hb H2 (e.trans e2) _ fun H3 e3 => ⟨rfl, rfl, x, cs, G, rows, 1, some m, rfl, hS.ex (e.trans (e2.trans e3)), Nat.le_refl 1, by omega, fun e he => ?_, fun H4 e4 => q H4 (e2.trans (e3.trans e4))⟩⟩
    cases he
    omega
theorem p_sameR {P1 : V → Hp → Prop} {P2 : V → V → Hp → Prop} (h1 : EvP ta σ H P1) (h2 : ∀ v H1, P1 v H1 → EvP tb σ H1 (P2 v)) (hs : ∀ v w H2, P2 v w H2 → SmN 3 H2 v w) (k : ∀ H3, D.rt (.bl true) H3) : tRet (tCall (spSame 3) [] E (tCons ta (tCons tb tNil))) D σ H := h1 _ fun v H1 p1 => h2 v H1 p1 _ fun w H2 p2 => ⟨v, w, rfl, hs v w H2 p2, fun H3 _ => k H3⟩
theorem FactsAt.ex {p : Addr} {rows : List (List Nat)} {st : List Nat} {sp : Int} {tel en : List V} (h : FactsAt H p rows st sp tel en) (e : Ex H H') : FactsAt H' p rows st sp tel en := by
  obtain ⟨l1, l2, l3, h1, h2, h3, h4⟩ := h
  exact ⟨l1, l2, l3, e _ _ h1, e _ _ h2, e _ _ h3, e _ _ h4⟩
theorem sm_facts {p q : Addr} {rows : List (List Nat)} {st : List Nat} {sp : Int} {tel en : List V} (h1 : FactsAt H p rows st sp tel en) (h2 : FactsAt H q rows st sp tel en) (hr : rows.length ≤ 1000) (ht : tel.length ≤ 1000) (ht2 : ∀ x ∈ tel, SmN 1 H x x) (he : en.length ≤ 1000) (he2 : ∀ x ∈ en, SmN 1 H x x) : SmN 3 H (.ref p) (.ref q) := by
  obtain ⟨a1, a2, a3, g1, g2, g3, g4⟩ := h1
  obtain ⟨b1, b2, b3, k1, k2, k3, k4⟩ := h2
  refine sm_lst (n := 2) g1 k1 rfl (by show 8 ≤ 1000; decide) fun i u w hu hv => ?_
  match i, hu, hv with
  | 0, hu, hv =>
    cases hu
    cases hv
    exact sm_same (n := 1) g2 k2 (by rw [List.length_map]; exact hr) fun z hz => by
      obtain ⟨y, _, rfl⟩ := List.mem_map.mp hz
      exact sm_str
  | 1, hu, hv =>
    cases hu
    cases hv
    exact sm_str
  | 2, hu, hv =>
    cases hu
    cases hv
    exact sm_int
  | 3, hu, hv =>
    cases hu
    cases hv
    exact sm_same (n := 1) g3 k3 ht ht2
  | 4, hu, hv =>
    cases hu
    cases hv
    exact sm_same (n := 1) g4 k4 he he2
  | 5, hu, hv =>
    cases hu
    cases hv
    exact sm_int
  | 6, hu, hv =>
    cases hu
    cases hv
    exact sm_str
  | 7, hu, hv =>
    cases hu
    cases hv
    exact sm_bl
  | i + 8, hu, hv => cases hu
theorem p_band {cl : Addr} {cs : Cells} {seeds kept : List (List Nat)} {xs : List V} (ha : EvL ta σ H xs) (hb : EvL tb σ H (seeds.map vS)) (hc : ∀ p H1, Ex H H1 → H1 p = some (.lst xs) → CellsAt H1 p cs) (HO : HomeOk cs seeds kept) (hcd : CellsAt H cl cs) :
    EvP (tMake (A.C "Band") (spBandInit A) [.int 800] E (tCons ta (tCons tb tNil))) σ H (fun v H2 => ∃ s, v = .ref s ∧ H s = none ∧ Ex H H2 ∧ BandAt A H2 s cs (grow seeds 800 1000 0 [List.replicate cs.length 46])) := fun Q q =>
  ha H (Ex.refl H) _ fun p H1 np e1 hp => hb H1 e1 _ fun rl H2 nrl e2 hrl x dx' nx ndx ne => by
    have e3 : Ex H2 (upd (upd H2 dx' (.own x)) x (.ins (A.C "Band") dx' [])) := Ex.mut (Ex.new ndx) nx
    have e13 := (e1.trans e2).trans e3
    have c12 := HO.ok.few
    have hf := HO.few
    refine ⟨x, dx', p, rl, cs, seeds, rfl, upd_same, (hc p H1 e1 hp).ex (e2.trans e3), HO.ok, ⟨e3 _ _ hrl, fun s hs => (HO.so.seed s hs).len, by omega, by omega⟩, by omega, fun s hs => ⟨(HO.so.seed s hs).row, (HO.so.seed s hs).non⟩, HO.so.nod, HO.so.cov, HO.small, fun H3 eh hB => ⟨rfl, q _ H3 ⟨x, rfl, fresh_back (e1.trans e2) nx, fun a o ha => eh _ _ (hid_at (e13 a o ha) (ne_of_none ((e1.trans e2) a o ha) nx)), hB⟩⟩⟩
end
section
variable {P : Program} {w : World} {K : PySem.W.Frag} {mg : Str → Option Value} {base : Heap} {A : Ad}
abbrev n_law : List Str := ["_law_script", "_law_bag_here", "_law_frame_here", "_law_sown", "_law_kept", "_law_wide", "_law_past_here", "_law_home_here", "_law_flow", "_law_turn", "_law_line_here", "_law_n", "_law_p", "_law_k", "_law_v", "_law_fault", "_law_due", "_law_last", "_law_changed", "_law_without", "_law_c"]
theorem sc_law : FnScope n_law ["_law_script"] (defScope s_law) := ⟨rfl, rfl, rfl, by decide +kernel, rfl, by decide +kernel, by decide +kernel⟩
def spLaw (K : PySem.W.Frag) : Sp := fun vs H Q _ => ∃ (a : Addr) (ns : List Int), vs = [.ref a] ∧ SqL K H a (ns.map V.int) ∧ ns.length ≤ 63 ∧ ∀ H2, Q (.bl true) H2
theorem ok_law (T : Tx K mg A) (ok_orderedlots : ∀ _ : Tx K mg A, FnOk P w K mg base CX0 8 (A.f "ordered_lots") (A.fd "ordered_lots") ["lots"] spOrdered) : FnOk P w K mg base CX0 24 (A.f "law") (A.fd "law") ["_law_script"] (spLaw K) := by
  have ok_Bandinit := fun T : Tx K mg A => ok_Bandinit (P := P) (w := w) (base := base) T ok_orderedlots
  refine T.F_law.ok sc_law (fun vs H Q E h => ?_) (fun cdv A' outer s H vs Q E hr h => ?_)
  · obtain ⟨a, ns, rfl, _⟩ := h
    rfl
  · obtain ⟨a, ns, rfl, ha, h63, k⟩ := h
    refine ⟨_, PSs.nox (pss_cons (ps_set (i := 1) sc_law.nd rfl (Or.inl rfl) (pe_call (ok_wbag T) (hr.mono (by decide)) (by rfl) T.g_wbag T.F_wbag.kp T.b_wbag .nil pass0 (pa_cons (pv 0) pa_nil)))
      (pss_cons (ps_asg (pe_call (ok_whome T) (hr.mono (by decide)) (by rfl) T.g_whome T.F_whome.kp T.b_whome .nil pass0 (pa_cons (pv 1) pa_nil)) (pg_lst rfl (pgs_cons (pg_name (i := 2) sc_law.nd rfl (Or.inl rfl) (Or.inr rfl)) (pgs_cons (pg_name (i := 3) sc_law.nd rfl (Or.inl rfl) (Or.inr rfl)) (pgs_cons (pg_name (i := 4) sc_law.nd rfl (Or.inl rfl) (Or.inr rfl)) pgs_nil)))))
      (pss_cons (ps_set (i := 5) sc_law.nd rfl (Or.inl rfl) (pe_callB call_len_seq (by rfl) T.n_len PySem.boot_len (pa_cons (pv 2) pa_nil)))
      (pss_cons (ps_set (i := 6) sc_law.nd rfl (Or.inl rfl) (pe_call (ok_wpast T) (hr.mono (by decide)) (by rfl) T.g_wpast T.F_wpast.kp T.b_wpast .nil pass0 (pa_cons (pv 1) (pa_cons (pv 3) (pa_cons (pv 4) (pa_cons (pe_call (ok_wdraw T) (hr.mono (by decide)) (by rfl) T.g_wdraw T.F_wdraw.kp T.b_wdraw .nil pass0 (pa_cons (pv 1) (pa_cons pe_int pa_nil))) pa_nil))))))
      (pss_cons (ps_set (i := 7) sc_law.nd rfl (Or.inl rfl) (pe_make T.mk_Band (ok_Bandinit T) (hr.mono (by decide)) (by rfl) T.g_Band T.b_Bandinit.choose_spec.2 T.b_Bandinit.choose_spec.1 pass0 (pa_cons (pe_callTy call_list_of (by rfl) T.n_list (by decide +kernel) (pa_cons (pv 2) pa_nil)) (pa_cons (pe_callTy call_list_of (by rfl) T.n_list (by decide +kernel) (pa_cons (pv 3) pa_nil)) pa_nil))))
      (pss_cons (ps_set (i := 8) sc_law.nd rfl (Or.inl rfl) (pe_make T.mk_Stream (ok_Streaminit T) (hr.mono (by decide)) (by rfl) T.g_Stream T.b_Streaminit.choose_spec.2 T.b_Streaminit.choose_spec.1 pass0 (pa_cons (pv 7) (pa_cons (pe_callTy call_list_of (by rfl) T.n_list (by decide +kernel) (pa_cons (pv 6) pa_nil)) pa_nil))))
      (pss_cons (ps_if (PW.pt (pw_and (pt_cmpR op_eq (pe_call (ok_wdraw T) (hr.mono (by decide)) (by rfl) T.g_wdraw T.F_wdraw.kp T.b_wdraw .nil pass0 (pa_cons (pv 1) (pa_cons pe_int pa_nil))) pe_int (nomark _)) (pw_and1 (pt_not (pt_val (pe_call (ok_wfullso T) (hr.mono (by decide)) (by rfl) T.g_wfullso T.F_wfullso.kp T.b_wfullso .nil pass0 (pa_cons (pv 7) (pa_cons (pv 5) (pa_cons (pe_op op_rep (pe_lst (pa_cons (pe_call (ok_wof T) (hr.mono (by decide)) (by rfl) T.g_wof T.F_wof.kp T.b_wof .nil pass0 (pa_cons (pv 1) (pa_cons (pv 4) pa_nil))) pa_nil)) pe_int) (pa_cons (pe_call (ok_wof T) (hr.mono (by decide)) (by rfl) T.g_wof T.F_wof.kp T.b_wof .nil pass0 (pa_cons (pv 1) (pa_cons (pv 4) pa_nil))) pa_nil))))))))))
      (pss_one (ps_ret pe_bl))
      pss_nil)
      (pss_cons (ps_for PassesOwn.never rfl (pi_range1 (by rfl) T.n_range (pa_cons pe_int pa_nil)) (pg_name (i := 9) sc_law.nd rfl (Or.inl rfl) (Or.inr rfl))
      (pss_cons (ps_par (i := 10) (j := 11) (by rfl) sc_law.nd rfl rfl (by decide) rfl rfl (pa_cons (pe_call (ok_wline T) (hr.mono (by decide)) (by rfl) T.g_wline T.F_wline.kp T.b_wline .nil pass0 (pa_cons (pv 1) (pa_cons (pv 3) (pa_cons (pv 4) pa_nil)))) (pa_cons (pe_callB call_len_seq (by rfl) T.n_len PySem.boot_len (pa_cons (pv 6) pa_nil)) pa_nil)) (by rfl))
      (pss_cons (ps_for PassesOwn.never rfl (pi_range1 (by rfl) T.n_range (pa_cons (pe_op op_add (pv 11) pe_int) pa_nil)) (pg_name (i := 12) sc_law.nd rfl (Or.inl rfl) (Or.inr rfl))
      (pss_one (ps_if (pt_not (pt_val (pe_call (ok_wsame T 3) (hr.mono (by decide)) (by rfl) T.g_wsame T.F_wsame.kp T.b_wsame .nil pass0 (pa_cons (Nr.pe_callQ (ok_showsuntil0 T) (hr.mono (by decide)) (by rfl) T.g_showsuntil T.F_showsuntil.kp T.kb_showsuntil (Nr.at_of_passes pass0) (pa_cons (pv 8) (pa_cons (pv 10) pa_nil)) (pk_cons (pv 12) pk_nil)) (pa_cons (pe_call (ok_wuntil T) (hr.mono (by decide)) (by rfl) T.g_wuntil T.F_wuntil.kp T.b_wuntil .nil pass0 (pa_cons (pv 5) (pa_cons (pv 6) (pa_cons (pv 10) (pa_cons (pv 12) pa_nil))))) pa_nil)))))
      (pss_one (ps_ret pe_bl))
      pss_nil)))
      (pss_cons (ps_for PassesOwn.never rfl (pi_range1 (by rfl) T.n_range (pa_cons pe_int pa_nil)) (pg_name (i := 13) sc_law.nd rfl (Or.inl rfl) (Or.inr rfl))
      (pss_cons (ps_par (i := 14) (j := 12) (by rfl) sc_law.nd rfl rfl (by decide) rfl rfl (pa_cons (pe_call (ok_wsomeline T) (hr.mono (by decide)) (by rfl) T.g_wsomeline T.F_wsomeline.kp T.b_wsomeline .nil pass0 (pa_cons (pv 1) (pa_cons (pv 2) (pa_cons (pv 3) (pa_cons (pv 4) (pa_cons pe_int pa_nil)))))) (pa_cons (pe_call (ok_wsomespot T) (hr.mono (by decide)) (by rfl) T.g_wsomespot T.F_wsomespot.kp T.b_wsomespot .nil pass0 (pa_cons (pv 1) (pa_cons pe_int (pa_cons (pv 11) (pa_cons pe_int pa_nil))))) pa_nil)) (by rfl))
      (pss_cons (ps_set (i := 15) sc_law.nd rfl (Or.inl rfl) (pe_call (ok_wwrong T) (hr.mono (by decide)) (by rfl) T.g_wwrong T.F_wwrong.kp T.b_wwrong .nil pass0 (pa_cons (pv 2) (pa_cons (pv 4) (pa_cons (pv 14) pa_nil)))))
      (pss_cons (ps_if (PW.pt (pw_and (pt_cmpR op_isN (pv 15) pe_non (nomark _)) (pw_and1 (pt_not (pt_val (pe_call (ok_wis T) (hr.mono (by decide)) (by rfl) T.g_wis T.F_wis.kp T.b_wis .nil pass0 (pa_cons (pv 12) (pa_cons pe_int (pa_cons (pv 11) pa_nil)))))))))
      (pss_one (ps_set (i := 15) sc_law.nd rfl (Or.inl rfl) (pe_tup (pa_cons pe_str (pa_cons (pv 12) pa_nil)))))
      pss_nil)
      (pss_cons (ps_set (i := 16) sc_law.nd rfl (Or.inl rfl) (pe_ifExp (pt_cmpR op_notN (pv 15) pe_non (nomark _)) (pv 15) (pe_tup (pa_cons pe_str (pa_cons (pe_call (ok_wuntil T) (hr.mono (by decide)) (by rfl) T.g_wuntil T.F_wuntil.kp T.b_wuntil .nil pass0 (pa_cons (pv 5) (pa_cons (pv 6) (pa_cons (pv 14) (pa_cons (pv 12) pa_nil))))) pa_nil)))))
      (pss_cons (ps_if (pt_not (pt_val (pe_call (ok_wsame T 3) (hr.mono (by decide)) (by rfl) T.g_wsame T.F_wsame.kp T.b_wsame .nil pass0 (pa_cons (pe_call (ok_wasksuntil T) (hr.mono (by decide)) (by rfl) T.g_wasksuntil T.F_wasksuntil.kp T.b_wasksuntil .nil pass0 (pa_cons (pv 8) (pa_cons (pv 14) (pa_cons (pv 12) (pa_cons (pe_cmpR op_eq (pv 13) pe_int (nomark _)) pa_nil))))) (pa_cons (pv 16) pa_nil)))))
      (pss_one (ps_ret pe_bl))
      pss_nil)
      (pss_cons (ps_set (i := 16) sc_law.nd rfl (Or.inl rfl) (pe_ifExp (pt_cmpR op_notN (pv 15) pe_non (nomark _)) (pv 15) (pe_tup (pa_cons pe_str (pa_cons (pe_callB call_len_seq (by rfl) T.n_len PySem.boot_len (pa_cons (pe_lc (own := [("_law_c", 20)]) (g := (gName 20)) (by rfl) sc_law.nd (pi_str (pv 14)) (blkOk_by (own := [("_law_c", 20)]) (N := n_law) (sc := defScope s_law) (by decide +kernel)) (fun _ _ _ _ _ => (pg_name (i := 20) sc_law.nd rfl (Or.inl rfl) (Or.inr rfl))) (fun _ _ _ _ _ => (pts_one (pt_cmpR op_ne (pv 20) pe_str (nomark _)))) (fun _ _ _ _ _ => (pv 20))) pa_nil)) pa_nil)))))
      (pss_one (ps_if (pt_not (pt_val (pe_call (ok_wsame T 3) (hr.mono (by decide)) (by rfl) T.g_wsame T.F_wsame.kp T.b_wsame .nil pass0 (pa_cons (pe_call (ok_wasksseen T) (hr.mono (by decide)) (by rfl) T.g_wasksseen T.F_wasksseen.kp T.b_wasksseen .nil pass0 (pa_cons (pv 8) (pa_cons (pv 14) (pa_cons (pv 12) pa_nil)))) (pa_cons (pv 16) pa_nil)))))
      (pss_one (ps_ret pe_bl))
      pss_nil)))))))))
      (pss_cons (ps_if (pt_not (pt_val (pe_call (ok_wsame T 3) (hr.mono (by decide)) (by rfl) T.g_wsame T.F_wsame.kp T.b_wsame .nil pass0 (pa_cons (pe_lst (pa_cons (pe_meth0 (pv 8) T.c_Stream T.m_Streamrows (ok_Streamrows T) (hr.mono (by decide)) T.b_Streamrows .nil pass0) (pa_cons (pe_prop (pv 8) T.c_Stream T.p_Streamstanding (ok_Streamstanding T) (hr.mono (by decide)) T.b_Streamstanding .nil pass0 rfl) pa_nil))) (pa_cons (pe_lst (pa_cons (pv 6) (pa_cons (pe_call (ok_wstanding T) (hr.mono (by decide)) (by rfl) T.g_wstanding T.F_wstanding.kp T.b_wstanding .nil pass0 (pa_cons (pv 5) (pa_cons (pv 6) pa_nil))) pa_nil))) pa_nil)))))
      (pss_one (ps_ret pe_bl))
      pss_nil)
      (pss_cons (ps_set (i := 12) sc_law.nd rfl (Or.inl rfl) (pe_call (ok_wdraw T) (hr.mono (by decide)) (by rfl) T.g_wdraw T.F_wdraw.kp T.b_wdraw .nil pass0 (pa_cons (pv 1) (pa_cons (pe_op op_add (pv 11) pe_int) pa_nil))))
      (pss_cons (ps_set (i := 17) sc_law.nd rfl (Or.inl rfl) (Nr.pe_callQ (ok_showsuntil0 T) (hr.mono (by decide)) (by rfl) T.g_showsuntil T.F_showsuntil.kp T.kb_showsuntil (Nr.at_of_passes pass0) (pa_cons (pv 8) (pa_cons (pv 10) pa_nil)) (pk_cons (pv 12) pk_nil)))
      (pss_cons (ps_set (i := 18) sc_law.nd rfl (Or.inl rfl) (pe_meth0 (pv 8) T.c_Stream T.m_Streamtwin (ok_Streamtwin T) (hr.mono (by decide)) T.b_Streamtwin .nil pass0))
      (pss_cons (ps_expr (Nr.pe_methQ (pv 18) T.c_Stream T.m_Streamput (ok_Streamput T) (hr.mono (by decide)) T.kb_Streamput (Nr.at_of_passes pass0) (pa_cons (pv 10) pa_nil) (pk_cons (pv 12) pk_nil)))
      (pss_cons (ps_if (pt_cmpR op_gt (pv 17) pe_int (nomark _))
      (pss_cons (ps_set (i := 19) sc_law.nd rfl (Or.inl rfl) (pe_ifExp (pt_cmpR op_gt (pv 17) pe_int (nomark _)) (Nr.pe_methQ0 (pv 8) T.c_Stream T.m_Streamwindow (ok_Streamwindow T) (hr.mono (by decide)) T.kb_Streamwindow.choose_spec (Nr.at_of_passes pass0) (pk_cons (pe_op op_sub (pv 17) pe_int) pk_nil)) (pe_ix ix_list (pv 4) pe_int (fun _ _ => rfl))))
      (pss_one (ps_if (pt_cmpR op_eq (Nr.pe_methQ0 (pv 18) T.c_Stream T.m_Streamwindow (ok_Streamwindow T) (hr.mono (by decide)) T.kb_Streamwindow.choose_spec (Nr.at_of_passes pass0) (pk_cons (pv 17) pk_nil)) (pv 19) (nomark _))
      (pss_one (ps_ret pe_bl))
      pss_nil)))
      pss_nil)
      (pss_cons (ps_set (i := 8) sc_law.nd rfl (Or.inl rfl) (pv 18))
      (pss_one (ps_set (i := 6) sc_law.nd rfl (Or.inl rfl) (pe_op op_cat (pe_op op_cat (pe_slice sl_list (pv 6) po_none (po_some (pv 12))) (pe_lst (pa_cons (pv 10) pa_nil))) (pe_slice sl_list (pv 6) (po_some (pv 12)) po_none)))))))))))))))
      (pss_one (ps_ret (pe_call (ok_wsame T 3) (hr.mono (by decide)) (by rfl) T.g_wsame T.F_wsame.kp T.b_wsame .nil pass0 (pa_cons (pe_call (ok_wfacts T) (hr.mono (by decide)) (by rfl) T.g_wfacts T.F_wfacts.kp T.b_wfacts .nil pass0 (pa_cons (pv 8) pa_nil)) (pa_cons (pe_call (ok_wduefacts T) (hr.mono (by decide)) (by rfl) T.g_wduefacts T.F_wduefacts.kp T.b_wduefacts .nil pass0 (pa_cons (pv 5) (pa_cons (pv 6) pa_nil))) pa_nil))))))))))))) , ?_⟩
    refine q_asgP (P := fun v H2 => ∃ b l0, v = .ref b ∧ BagAt H2 b l0) (fun Q q => (ea1 (ev_var rfl) : EvA (tCons (tVar 0) tNil) _ H [.ref a]) H (Ex.refl H) _ fun H1 e1 => ⟨a, ns, rfl, ex_l e1 ha, h63, fun b l0 H2 hb e2 B => q _ H2 ⟨b, l0, rfl, B⟩⟩) fun v H1 hv => ?_
    obtain ⟨b, l0, rfl, B1⟩ := hv
    refine q_asgG (P := fun v H3 => ∃ p cl sw kp cs sown kept, v = .ref p ∧ H3 p = some (.lst [.ref cl, .ref sw, .ref kp]) ∧ BagAt H3 b l0 ∧ HomeAt (hid b H3) cl sw kp cs sown kept) (fun Q q => (ea1 (ev_var rfl) : EvA (tCons (tVar 1) tNil) [some (.ref a), some (.ref b), none, none, none, none, none, none, none, none, none, none, none, none, none, none, none, none, none, none, none] H1 [.ref b]) H1 (Ex.refl H1) _ fun H2 e2 => ⟨b, l0, rfl, B1.ex e2, fun p H3 cl sw kp cs sown kept hp e3 B3 HA => q _ H3 ⟨p, cl, sw, kp, cs, sown, kept, rfl, hp, B3, HA⟩⟩) fun v H3 hv => ?_
    obtain ⟨p, cl, sw, kp, cs, sown, kept, rfl, hp, B3, HA⟩ := hv
    refine ⟨p, _, rfl, sq_of hp, rfl, .ref cl, _, rfl, .ref sw, _, rfl, .ref kp, _, rfl, rfl, ?_⟩
    have hok := HA.ok
    have c1 := hok.ok.one
    have c12 := hok.ok.few
    have hpos := hok.pos
    have hmost := hok.most
    have hwid : ∀ y ∈ kept, y.length = cs.length ∧ rowB cs y = true := hok.row
    obtain ⟨ts, g1, g2⟩ := id HA.cells
    have wb3 := hid_none b H3
    refine q_asg (v := .int (cs.length : Int)) (ev_is (ev_lenL (ev_var rfl) (sq_of (hid_ex b H3 _ _ g1))) (by rw [List.length_map, List.length_range])) fun H4 e4 => ?_
    have e34 : Ex (hid b H3) H4 := (hid_ex b H3).trans e4
    -- the past
    refine q_asgP (P := fun v H5 => ∃ pa rows, v = .ref pa ∧ (∀ r ∈ rows, r ∈ kept) ∧ rows.length ≤ 9 ∧ Ex (hid b H3) H5 ∧ BagAt H5 b l0 ∧ RowsAt (hid b H5) pa rows cs.length) (fun Q q => ?_) fun v H5 hv => ?_
    · refine ⟨_, rfl, _, rfl, _, rfl, ?_⟩
      refine p_draw (W := hid b H3) (l0 := l0) (ev_var rfl) ev_c e34 wb3 (B3.ex e4) (by decide) (by decide) _ fun v H6 hv => ?_
      obtain ⟨⟨d, rfl, hd⟩, e6, B6⟩ := hv
      exact ⟨b, l0, cl, sw, kp, cs, sown, kept, d, rfl, by omega, B6, HA.ex (to_hid e6 wb3), fun p H7 rows h1 h2 e7 B7 h3 => q _ H7 ⟨p, rows, rfl, h1, by omega, (to_hid e6 wb3).trans e7, B7, h3⟩⟩
    obtain ⟨pa, rows, rfl, hin, hr9, e5, B5, R5⟩ := hv
    have HA5 := HA.ex (to_hid e5 wb3)
    have HA5' := HA5.ex (hid_ex b H5)
    have R5' := R5.ex (hid_ex b H5)
    -- the band, the stream
    refine q_asgP (p_band (xs := (List.range cs.length).map fun i => .ref (ts i)) (el_listOf (ev_var rfl) (sq_of (e5 _ _ g1))) (el_listOf (ev_var rfl) (sq_of HA5'.sownAt.at_)) (fun p H6 e6 hp => ⟨ts, hp, fun i hi => (e5.trans e6) _ _ (g2 i hi)⟩) hok HA5'.cells) fun v H6 hv => ?_
    obtain ⟨hb, rfl, nhb, e6, BA⟩ := hv
    generalize hG : grow sown 800 1000 0 [List.replicate cs.length 46] = G at BA
    have heqG : ∀ r, r ∈ kept ↔ r ∈ G := by
      rw [← hG]
      exact hok.same
    have sok : StrmOk cs G rows := ⟨c1, c12, fun y hy => ⟨(hwid y (hin y hy)).2, (heqG y).mp (hin y hy)⟩⟩
    refine q_asgP (p_stream (b := hb) (rows := rows) (ev_var rfl) (el_listOf (ev_var rfl) (sq_of (e6 _ _ R5'.at_))) BA R5.wid sok (by omega)) fun v H7 hv => ?_
    obtain ⟨s, rfl, ns, e7, SA⟩ := hv
    have B7 := B5.ex (e6.trans e7)
    have S7 : St A (hid b H7) cl sw kp hb s pa cs sown kept G rows := ⟨HA5.ex (hid_mono (e6.trans e7)), band_hidB (BA.ex e7) B7, stream_hidB SA B7, R5.ex (hid_mono (e6.trans e7)), hin, heqG⟩
    have wb7 := hid_none b H7
    -- full_so
    refine q_ifP (P := fun bb H8 => bb = false ∧ Ex (hid b H7) H8 ∧ BagAt H8 b l0) (fun Q q => ?_) (fun H8 hp => by cases hp.1) (fun H8 hp => ?_)
    · refine p_draw (W := hid b H7) (l0 := l0) (ev_var rfl) ev_c (hid_ex b H7) wb7 B7 (by decide) (by decide) _ fun v H8 hv => ?_
      obtain ⟨⟨d, rfl, hd⟩, e8, B8⟩ := hv
      refine ⟨rfl, _, rfl, ?_⟩
      have St8 := S7.ex e8
      by_cases hd0 : (d : Int) = 0
      · rw [decide_eq_true (show V.int (d : Int) = V.int 0 by rw [hd0])]
        dsimp only
        rw [if_pos rfl]
        refine ⟨_, rfl, _, rfl, ?_⟩
        refine p_ofE (W := hid b H7) (l0 := l0) (p := kp) (items := kept.map vS) (ev_var rfl) (ev_var rfl) S7.home.keptAt.at_ e8 wb7 B8 (by rw [List.length_map]; exact hpos) (by rw [List.length_map]; omega) _ fun v H9 hv => ?_
        obtain ⟨hm, e9, B9⟩ := hv
        obtain ⟨x, hx, rfl⟩ := List.mem_map.mp hm
        refine ⟨by show 1 ≤ sizeLine; decide, fun l9 hl9 => ⟨l9, 400, _, rfl, rfl, upd_same, by decide, by decide, by show 1 * 400 ≤ sizeLine; decide, fun q9 hq9 => ?_⟩⟩
        have e910 := (Ex.new (o := .lst [vS x]) hl9).trans (Ex.new (o := .lst (List.replicate (400 : Int).toNat [vS x]).flatten) hq9)
        generalize hH10 : upd (upd H9 l9 (.lst [vS x])) q9 (.lst (List.replicate (400 : Int).toNat [vS x]).flatten) = H10 at e910
        have hq10 : H10 q9 = some (.lst ((List.replicate 400 x).map vS)) := by
          rw [← hH10, upd_same]
          have : ∀ n, (List.replicate n [vS x]).flatten = (List.replicate n x).map vS := fun n => by
            induction n with
            | zero => rfl
            | succ n ih => rw [List.replicate_succ, List.replicate_succ, List.flatten_cons, ih] <;> rfl
          rw [show (400 : Int).toNat = 400 from rfl, this]
        have B10 := B9.ex e910
        have e10 : Ex (hid b H7) H10 := e9.trans e910
        have w10 := hid_none b H10
        have hqb : q9 ≠ b := fun e => by
          obtain ⟨_, _, _, _, _, z1, _⟩ := B9.ex (Ex.new (o := .lst [vS x]) hl9)
          rw [← e, hq9] at z1
          cases z1
        have S10 := S7.ex (to_hid e10 wb7)
        refine p_ofE (W := hid b H10) (l0 := l0) (p := kp) (items := kept.map vS) (ev_var rfl) (ev_var rfl) S10.home.keptAt.at_ (hid_ex b H10) w10 B10 (by rw [List.length_map]; exact hpos) (by rw [List.length_map]; omega) _ fun v H11 hv => ?_
        obtain ⟨hm, e11, B11⟩ := hv
        obtain ⟨r, hr', rfl⟩ := List.mem_map.mp hm
        exact ⟨hb, q9, cs, G, x, r, rfl, S10.band.ex e11, e11 _ _ (hid_at hq10 hqb), c1, c12, fun y hy => hwid y ((heqG y).mpr hy), (heqG x).mp hx, (heqG r).mp hr', fun H12 e12 => ⟨true, rfl, q false H12 ⟨rfl, (to_hid e10 wb7).trans (e11.trans e12), B11.ex e12⟩⟩⟩
      · rw [decide_eq_false (show ¬ V.int (d : Int) = V.int 0 from fun e => hd0 (V.int.inj e))]
        exact q false H8 ⟨rfl, e8, B8⟩
    · obtain ⟨_, e8, B8⟩ := hp
      refine q_forP (P := fun n H9 => n = 2 ∧ Ex H8 H9) (p_rng1 (EvP.of ev_c fun H9 e9 => ⟨2, rfl, by decide, rfl, e9⟩))
        (fun n i σ' H' => n = 2 ∧ ∃ (W : Hp) (s pa : Addr) (rows : List (List Nat)) (o9 o10 o11 o12 o13 o14 o15 o16 o17 o18 o19 o20 : Option V), σ' = [some (.ref a), some (.ref b), some (.ref cl), some (.ref sw), some (.ref kp), some (.int (cs.length : Int)), some (.ref pa), some (.ref hb), some (.ref s), o9, o10, o11, o12, o13, o14, o15, o16, o17, o18, o19, o20] ∧ W b = none ∧ Ex W H' ∧ BagAt H' b l0 ∧ St A W cl sw kp hb s pa cs sown kept G rows ∧ rows.length ≤ 9 + i)
        (fun n H9 hP => ⟨hP.1, hid b H7, s, pa, rows, none, none, none, none, none, none, none, none, none, none, none, none, rfl, wb7, e8.trans hP.2, B8.ex hP.2, S7, hr9⟩)
        (fun n i σ' H' hi h H9 e9 => ?_) (fun n σ' H' h => ?_)
      · obtain ⟨hn2, W, s, pa, rows, o9, o10, o11, o12, o13, o14, o15, o16, o17, o18, o19, o20, rfl, wb, eW, B, S, hrl⟩ := h
        have R := S.past
        have hwr : ∀ y ∈ rows, y.length = cs.length ∧ rowB cs y = true := fun y hy => hwid y (S.inn y hy)
        have hasc : Asc rows := fun y hy c hc => sg_lt (rowB_asc (hwr y hy).1 (hwr y hy).2 c hc)
        have hGl : ∀ y ∈ G, y.length = cs.length := fun y hy => (hwid y ((heqG y).mpr hy)).1
        have eW9 := eW.trans e9
        refine q_parP (P := fun x y H10 => ∃ r, x = vS r ∧ y = .int (rows.length : Int) ∧ r ∈ kept ∧ Ex W H10 ∧ BagAt H10 b l0) (fun Q q => ?_) fun x y H10 hP => ?_
        · refine p_line (W := W) (l0 := l0) (ev_var rfl) (ev_var rfl) (ev_var rfl) eW9 wb (B.ex e9) S.home _ fun v H10 hv => ?_
          obtain ⟨r, rfl, hr', e10, B10⟩ := hv
          refine (ev_is (ev_lenL (ev_var rfl) (sq_of (e10 _ _ R.at_))) (by rw [List.length_map]) : Ev _ _ H10 (.int (rows.length : Int))) H10 (Ex.refl H10) _ fun H11 e11 => q _ _ H11 ⟨r, rfl, rfl, hr', e10.trans e11, B10.ex e11⟩
        obtain ⟨r, rfl, rfl, hr', e10, B10⟩ := hP
        have rl := (hwid r hr').1
        have rb := (hwid r hr').2
        have hrG := (heqG r).mp hr'
        -- shows_until at all places
        refine q_forP (P := fun n H11 => n = rows.length + 1 ∧ Ex H10 H11) (p_rng1 (EvP.of (ev_op (ev_var rfl) ev_c rv_add) fun H11 e11 => ⟨rows.length + 1, rfl, by omega, rfl, e11⟩))
          (fun n j σ' H' => n = rows.length + 1 ∧ Ex H10 H' ∧ ∃ o12 : Option V, σ' = [some (.ref a), some (.ref b), some (.ref cl), some (.ref sw), some (.ref kp), some (.int (cs.length : Int)), some (.ref pa), some (.ref hb), some (.ref s), some (.int (i : Int)), some (vS r), some (.int (rows.length : Int)), o12, o13, o14, o15, o16, o17, o18, o19, o20])
          (fun n H11 hP => ⟨hP.1, hP.2, o12, rfl⟩) (fun n j σ' H' hj h H11 e11 => ?_) (fun n σ' H' h => ?_)
        · obtain ⟨hn, f1, o12, rfl⟩ := h
          have S11 := S.ex (e10.trans (f1.trans e11))
          have hu := until_luntil (p := j) (fun y hy => (hwr y hy).1) rl (by omega)
          refine s_skip (et_is (et_not (a := true) (et_B (ev_call (dvs := []) (z := .bl true) (ea2 (ev_untilQ (m := j) (r := r) (ev_var rfl) (ev_var rfl) (ev_var rfl) S11.strm hGl hrG rb (by omega)) (ev_call (dvs := []) (ea_cons (ev_var rfl) (ea3 (ev_var rfl) (ev_var rfl) (ev_var rfl))) (fun H12 e12 Q q E => ⟨pa, rows, cs.length, j, r, rfl, S11.past.ex e12, hasc, rl, by omega, q⟩))) (fun H12 e12 Q q E => ⟨_, _, rfl, by rw [hu]; exact sm_int, q⟩)))) rfl) fun H12 e12 => ⟨hn, f1.trans (e11.trans e12), _, rfl⟩
        · obtain ⟨hn, f1, o12, rfl⟩ := h
          have e11 := e10.trans f1
          have B11 := B10.ex f1
          -- the asks
          refine q_forP (P := fun n H12 => n = 2 ∧ Ex H' H12) (p_rng1 (EvP.of ev_c fun H12 e12 => ⟨2, rfl, by decide, rfl, e12⟩))
            (fun n j σ' H' => n = 2 ∧ Ex W H' ∧ BagAt H' b l0 ∧ ∃ o12 o13 o14 o15 o16 : Option V, σ' = [some (.ref a), some (.ref b), some (.ref cl), some (.ref sw), some (.ref kp), some (.int (cs.length : Int)), some (.ref pa), some (.ref hb), some (.ref s), some (.int (i : Int)), some (vS r), some (.int (rows.length : Int)), o12, o13, o14, o15, o16, o17, o18, o19, o20])
            (fun n H12 hP => ⟨hP.1, e11.trans hP.2, B11.ex hP.2, o12, o13, o14, o15, o16, rfl⟩) (fun n j σ' H' hj h H12 e12 => ?_) (fun n σ' H' h => ?_)
          · obtain ⟨hn, f1, fB, o12, o13, o14, o15, o16, rfl⟩ := h
            have S12 := S.ex (to_hid (f1.trans e12) wb)
            refine q_parP (P := fun x y H13 => PVn 2 (hid b H13) x ∧ PVn 2 (hid b H13) y ∧ Ex W H13 ∧ BagAt H13 b l0) (fun Q q => ?_) fun v p H13 hP => ?_
            · refine ⟨_, rfl, _, rfl, _, rfl, _, rfl, ?_⟩
              refine ⟨b, l0, cl, sw, kp, cs, sown, kept, rfl, fB.ex e12, S12.home, fun v H13 pv e13 B13 => ?_⟩
              refine ⟨_, rfl, _, rfl, ?_⟩
              refine ⟨b, l0, rows.length, rfl, by omega, B13, fun p H14 pp e14 B14 => ?_⟩
              exact q v p H14 ⟨pv.ex (to_hid e14 (hid_none b H13)), pp, (to_hid ((to_hid (f1.trans e12) wb).trans e13) wb).trans e14, B14⟩
            obtain ⟨pv, pp, e13, B13⟩ := hP
            have S13 := S.ex e13
            have hA13 : Args2 H13 v p := by
              obtain ⟨t1, ht1⟩ := pv.pl
              obtain ⟨t2, ht2⟩ := pp.pl
              exact ⟨⟨t1, ht1.ex (hid_ex b H13)⟩, ⟨t2, ht2.ex (hid_ex b H13)⟩, pv.len⟩
            have sv : SmN 2 H13 v v := pv.sm.ex (hid_ex b H13)
            have sp : SmN 2 H13 p p := pp.sm.ex (hid_ex b H13)
            have hinG : (∃ r ∈ kept, v = vS r) ↔ ∃ r ∈ G, v = vS r := ⟨fun ⟨r, h1, h2⟩ => ⟨r, (heqG r).mp h1, h2⟩, fun ⟨r, h1, h2⟩ => ⟨r, (heqG r).mpr h1, h2⟩⟩
            -- the error of the row
            refine q_asgP (P := fun f H14 => Ex H13 H14 ∧ ((isRow cs v = false ∧ ∃ t, f = .ref t ∧ H14 t = some (.tup [.str "BadRow", v])) ∨ (isRow cs v = true ∧ (∃ r ∈ G, v = vS r) ∧ f = .non) ∨ (isRow cs v = true ∧ (¬ ∃ r ∈ G, v = vS r) ∧ ∃ t, f = .ref t ∧ H14 t = some (.tup [.str "NotInBand", v])))) (fun Q q => ?_) fun f H14 hf => ?_
            · obtain ⟨t1, ht1⟩ := hA13.pv
              refine (ea3 (ev_var rfl) (ev_var rfl) (ev_var rfl) : EvA (tCons (tVar 2) (tCons (tVar 4) (tCons (tVar 14) tNil))) [some (.ref a), some (.ref b), some (.ref cl), some (.ref sw), some (.ref kp), some (.int (cs.length : Int)), some (.ref pa), some (.ref hb), some (.ref s), some (.int (i : Int)), some (vS r), some (.int (rows.length : Int)), some p, some (.int (j : Int)), some v, o15, o16, o17, o18, o19, o20] H13 [.ref cl, .ref kp, v]) H13 (Ex.refl H13) _ fun H14 e14 => ⟨cl, kp, cs, kept, v, t1, rfl, (S13.ex e14).home.cells, by omega, (S13.ex e14).home.keptAt.at_, ht1.ex e14, hA13.len, fun h t H15 nt e15 ht => q _ H15 ⟨e14.trans e15, Or.inl ⟨h, t, rfl, ht⟩⟩, fun h1 h2 H15 e15 => q _ H15 ⟨e14.trans e15, Or.inr (Or.inl ⟨h1, hinG.mp h2, rfl⟩)⟩, fun h1 h2 t H15 nt e15 ht => q _ H15 ⟨e14.trans e15, Or.inr (Or.inr ⟨h1, fun h => h2 (hinG.mpr h), t, rfl, ht⟩)⟩⟩
            obtain ⟨e14, hf⟩ := hf
            obtain ⟨t2, ht2⟩ := hA13.pp
            have hF1 : isRow cs v = false → fault cs G rows.length v p = .bad := fun h => by
              unfold fault
              rw [if_pos h]
            have hF2 : isRow cs v = true → (∃ r ∈ G, v = vS r) → fault cs G rows.length v p = if isNum p 0 (rows.length : Int) = true then .ok else .mom := fun h h2 => by
              unfold fault
              rw [if_neg (by rw [h]; decide), if_pos h2]
            have hF3 : isRow cs v = true → (¬ ∃ r ∈ G, v = vS r) → fault cs G rows.length v p = .out := fun h h2 => by
              unfold fault
              rw [if_neg (by rw [h]; decide), if_neg h2]
            have hEt : EvT (tAnd (tTest (tOp (fun x y H Q => y = V.non ∧ Q (V.bl (decide (x = V.non))) H) (tVar 15) (tC V.non))) (tNot (tB (tCall (spIsNumber K) [] E0 (tCons (tVar 12) (tCons (tC (V.int 0)) (tCons (tVar 11) tNil))))))) [some (.ref a), some (.ref b), some (.ref cl), some (.ref sw), some (.ref kp), some (.int (cs.length : Int)), some (.ref pa), some (.ref hb), some (.ref s), some (.int (i : Int)), some (vS r), some (.int (rows.length : Int)), some p, some (.int (j : Int)), some v, some f, o16, o17, o18, o19, o20] H14 (decide (f = .non) && !isNum p 0 (rows.length : Int)) :=
              et_and (et_test (ev_op (ev_var rfl) ev_c rv_isN)) fun _ => et_not (et_B (ev_call (dvs := []) (ea3 (ev_var rfl) ev_c (ev_var rfl)) (fun H15 e15 Q q E => ⟨p, t2, 0, (rows.length : Int), rfl, ht2.ex (e14.trans e15), q⟩)))
            refine q_ifSet (f := f) (P := fun f' H15 => Ex H14 H15 ∧ ((fault cs G rows.length v p = .ok ∧ f' = .non) ∨ (fault cs G rows.length v p ≠ .ok ∧ ∃ t, f' = .ref t ∧ H15 t = some (.tup (answer v p .non (fault cs G rows.length v p)))))) rfl (EvTP.of hEt) (fun H15 hb => ?_) (fun H15 hb => ?_) fun f' H15 hf' => ?_
            · obtain ⟨hb, e15⟩ := hb
              rw [eq_comm, Bool.and_eq_true] at hb
              have hfn := of_decide_eq_true hb.1
              have hnn : isNum p 0 (rows.length : Int) = false := by simpa using hb.2
              have hmom : fault cs G rows.length v p = .mom := by
                rcases hf with ⟨_, t, rfl, _⟩ | ⟨h1, h2, _⟩ | ⟨_, _, t, rfl, _⟩
                · cases hfn
                · rw [hF2 h1 h2, hnn] <;> rfl
                · cases hfn
              intro Q q
              exact ⟨_, rfl, by show 2 ≤ sizeLine; decide, fun t ht => q _ _ ⟨e15.trans (Ex.new ht), Or.inr ⟨(by rw [hmom]; intro h; cases h), t, rfl, by rw [hmom]; exact upd_same⟩⟩⟩
            · obtain ⟨hb, e15⟩ := hb
              refine ⟨e15, ?_⟩
              rcases hf with ⟨h1, t, rfl, ht⟩ | ⟨h1, h2, rfl⟩ | ⟨h1, h2, t, rfl, ht⟩
              · exact Or.inr ⟨(by rw [hF1 h1]; intro h; cases h), t, rfl, by rw [hF1 h1]; exact e15 _ _ ht⟩
              · have hn : isNum p 0 (rows.length : Int) = true := by simpa using hb
                exact Or.inl ⟨by rw [hF2 h1 h2, hn] <;> rfl, rfl⟩
              · exact Or.inr ⟨(by rw [hF3 h1 h2]; intro h; cases h), t, rfl, by rw [hF3 h1 h2]; exact e15 _ _ ht⟩
            obtain ⟨e15, hf'⟩ := hf'
            generalize hF : fault cs G rows.length v p = F at hf'
            clear hF1 hF2 hF3 hf hEt
            have e135 := e14.trans e15
            have S15 := S13.ex e135
            have hA15 := hA13.ex e135
            -- what is due
            have hok : F = .ok → ∃ (r' : List Nat) (m : Nat), v = vS r' ∧ r' ∈ kept ∧ p = .int (m : Int) ∧ m ≤ rows.length := fun hFo => by
              rw [hFo] at hF
              unfold fault at hF
              by_cases h1 : isRow cs v = false
              · rw [if_pos h1] at hF
                cases hF
              · rw [if_neg h1] at hF
                by_cases h2 : ∃ r ∈ G, v = vS r
                · rw [if_pos h2] at hF
                  by_cases h3 : isNum p 0 (rows.length : Int) = true
                  · obtain ⟨m, hm1, hm2⟩ := isNum_int h3
                    obtain ⟨r', hr1, hr2⟩ := h2
                    exact ⟨r', m, hr2, (heqG r').mpr hr1, hm1, by omega⟩
                  · rw [if_neg h3] at hF
                    cases hF
                · rw [if_neg h2] at hF
                  cases hF
            have hnok : F ≠ .ok → ∀ (r' : List Nat) (m : Nat), v = vS r' → r' ∈ G → p = .int (m : Int) → m ≤ rows.length → False := fun hne r' m h1 h2 h3 h4 => by
              have h2' := (heqG r').mpr h2
              rw [h1, h3, fault_ok h2 (hwid r' h2').1 (hwid r' h2').2 h4] at hF
              exact hne hF.symm
            have hdue : ∀ (c : List Nat → Nat → Nat), ∃ x : V, (∀ (r' : List Nat) (m : Nat), v = vS r' → r' ∈ G → p = .int (m : Int) → m ≤ rows.length → x = .int (c r' m : Int)) ∧ (∀ (r' : List Nat) (m : Nat), F = .ok → v = vS r' → p = .int (m : Int) → x = .int (c r' m : Int)) ∧ SmN 2 H15 x x := fun c => by
              by_cases hFo : F = .ok
              · obtain ⟨r', m, h1, h2, h3, h4⟩ := hok hFo
                have huniq : ∀ (r2 : List Nat) (m2 : Nat), v = vS r2 → p = .int (m2 : Int) → V.int (c r' m : Int) = .int (c r2 m2 : Int) := fun r2 m2 g1 g2 => by
                  rw [h1] at g1
                  rw [h3] at g2
                  have := vS_inj g1
                  have := V.int.inj g2
                  have : m = m2 := by omega
                  subst this
                  subst r2
                  rfl
                exact ⟨.int (c r' m : Int), fun r2 m2 g1 _ g2 _ => huniq r2 m2 g1 g2, fun r2 m2 _ g1 g2 => huniq r2 m2 g1 g2, sm_int⟩
              · exact ⟨.non, fun r' m h1 h2 h3 h4 => (hnok hFo r' m h1 h2 h3 h4).elim, fun r' m h => absurd h hFo, sm_non⟩
            have hans : ∀ x H16, Ex H15 H16 → SmN 2 H15 x x → ∀ y ∈ answer v p x F, SmN 2 H16 y y := fun x H16 e16 sx y hy => by
              have sv' := sv.ex (e135.trans e16)
              have sp' := sp.ex (e135.trans e16)
              have sx' := sx.ex e16
              cases F <;> simp only [answer, List.mem_cons, List.not_mem_nil, or_false] at hy <;> rcases hy with rfl | rfl
              · exact sm_str
              · exact sx'
              · exact sm_str
              · exact sv'
              · exact sm_str
              · exact sv'
              · exact sm_str
              · exact sp'
            have hanl : ∀ x, (answer v p x F).length = 2 := fun x => by cases F <;> rfl
            have hane : F ≠ .ok → ∀ x y, answer v p x F = answer v p y F := fun h x y => by
              cases F with
              | ok => exact absurd rfl h
              | bad => rfl
              | out => rfl
              | mom => rfl
            obtain ⟨x1, hx1, hx1', sx1⟩ := hdue fun r' m => untilF rows.length (seenL rows r' m) 0
            refine q_asgP (P := fun d H16 => Ex H15 H16 ∧ ∃ t, d = .ref t ∧ H16 t = some (.tup (answer v p x1 F))) (p_if (EvTP.of (b := !decide (f' = .non)) (et_test (ev_op (ev_var rfl) ev_c rv_notN))) (fun H16 hbb => ?_) (fun H16 hbb => ?_)) fun d H16 hd => ?_
            · obtain ⟨hbb, e16⟩ := hbb
              rcases hf' with ⟨_, rfl⟩ | ⟨hne, t, rfl, ht⟩
              · simp at hbb
              · exact EvP.of (ev_var rfl) fun H17 e17 => ⟨e16.trans e17, t, rfl, by rw [hane hne x1 .non]; exact (e16.trans e17) _ _ ht⟩
            · obtain ⟨hbb, e16⟩ := hbb
              rcases hf' with ⟨hFo, rfl⟩ | ⟨hne, t, rfl, ht⟩
              · obtain ⟨r', m, h1, h2, h3, h4⟩ := hok hFo
                subst h1
                subst h3
                have hx := hx1' r' m hFo rfl rfl
                have r'l := (hwid r' h2).1
                rw [until_luntil (fun y hy => (hwr y hy).1) r'l h4] at hx
                have S16 := S15.ex e16
                intro Q q
                refine (ev_call (dvs := []) (z := .int (luntil cs.length rows r' m : Int)) (ea_cons (ev_var rfl) (ea3 (ev_var rfl) (ev_var rfl) (ev_var rfl))) (fun H17 e17 Q q E => ⟨pa, rows, cs.length, m, r', rfl, S16.past.ex e17, hasc, r'l, h4, q⟩) : Ev (tCall spLuntil [] E0 (tCons (tVar 5) (tCons (tVar 6) (tCons (tVar 14) (tCons (tVar 12) tNil))))) [some (.ref a), some (.ref b), some (.ref cl), some (.ref sw), some (.ref kp), some (.int (cs.length : Int)), some (.ref pa), some (.ref hb), some (.ref s), some (.int (i : Int)), some (vS r), some (.int (rows.length : Int)), some (.int (m : Int)), some (.int (j : Int)), some (vS r'), some .non, o16, o17, o18, o19, o20] H16 (.int (luntil cs.length rows r' m : Int))) H16 (Ex.refl H16) _ fun H17 e17 => ⟨by show 2 ≤ sizeLine; decide, fun t ht => q _ _ ⟨(e16.trans e17).trans (Ex.new ht), t, rfl, ?_⟩⟩
                rw [hFo, hx, upd_same]
                rfl
              · simp at hbb
            obtain ⟨e16, dt, rfl, hdt⟩ := hd
            have S16 := S15.ex e16
            have hA16 := hA15.ex e16
            refine q_skip (et_is (et_not (a := true) (et_B (ev_sameT (ys := answer v p x1 F) (dvs := []) (vs := [.ref s, v, p, .bl (decide ((j : Int) = 1))]) (ea_cons (ev_var rfl) (ea3 (ev_var rfl) (ev_var rfl) (ev_op (ev_var rfl) ev_c rv_eqI))) (fun H17 e17 Q q E => ⟨s, cs, G, rows, v, p, x1, _, rfl, S16.strm.ex e17, hGl, hA16.ex e17, hx1, by rw [hF]; exact q⟩) (ev_var rfl) hdt (by rw [hanl]; decide) (fun H17 e17 y hy => hans x1 H17 (e16.trans e17) sx1 y hy)))) rfl) fun H17 e17 => ?_
            have e157 := e16.trans e17
            obtain ⟨x2, hx2, hx2', sx2⟩ := hdue fun r' m => (seenL rows r' m).length
            refine q_asgP (P := fun d H18 => Ex H17 H18 ∧ ∃ t, d = .ref t ∧ H18 t = some (.tup (answer v p x2 F))) (p_if (EvTP.of (b := !decide (f' = .non)) (et_test (ev_op (ev_var rfl) ev_c rv_notN))) (fun H18 hbb => ?_) (fun H18 hbb => ?_)) fun d H18 hd => ?_
            · obtain ⟨hbb, e18⟩ := hbb
              rcases hf' with ⟨_, rfl⟩ | ⟨hne, t, rfl, ht⟩
              · simp at hbb
              · exact EvP.of (ev_var rfl) fun H19 e19 => ⟨e18.trans e19, t, rfl, by rw [hane hne x2 .non]; exact (e157.trans (e18.trans e19)) _ _ ht⟩
            · obtain ⟨hbb, e18⟩ := hbb
              rcases hf' with ⟨hFo, rfl⟩ | ⟨hne, t, rfl, ht⟩
              · obtain ⟨r', m, h1, h2, h3, h4⟩ := hok hFo
                subst h1
                subst h3
                have hx := hx2' r' m hFo rfl rfl
                have r'l := (hwid r' h2).1
                rw [seen_len] at hx
                refine EvP.imp (p_told (ev_count (r := r') (j := 20) (ev_var rfl) (by omega) (show 20 < 21 by decide))) fun d H19 hd => ?_
                obtain ⟨t, rfl, e19, ht⟩ := hd
                refine ⟨e18.trans e19, t, rfl, ?_⟩
                rw [hFo, hx, ht]
                rfl
              · simp at hbb
            obtain ⟨e18, dt2, rfl, hdt2⟩ := hd
            have e158 := e157.trans e18
            have S18 := S15.ex e158
            have hA18 := hA15.ex e158
            refine s_skip (et_is (et_not (a := true) (et_B (ev_sameT (ys := answer v p x2 F) (dvs := []) (vs := [.ref s, v, p]) (ea3 (ev_var rfl) (ev_var rfl) (ev_var rfl)) (fun H19 e19 Q q E => ⟨s, cs, G, rows, v, p, x2, rfl, S18.strm.ex e19, hGl, hA18.ex e19, hx2, by rw [hF]; exact q⟩) (ev_var rfl) hdt2 (by rw [hanl]; decide) (fun H19 e19 y hy => hans x2 H19 (e158.trans e19) sx2 y hy)))) rfl) fun H19 e19 => ?_
            have e139 := e135.trans (e158.trans e19)
            exact ⟨hn, e13.trans e139, B13.ex e139, _, _, _, _, _, rfl⟩
          · obtain ⟨hn, f1, fB, o12, o13, o14, o15, o16, rfl⟩ := h
            have S1 := S.ex f1
            obtain ⟨dx, hb', rl', hs1, hs2, hs3, hs4⟩ := id S1.strm
            have hww : ∀ y ∈ rows, y.length = cs.length := fun y hy => (hwr y hy).1
            refine q_skip (et_is (et_not (a := true) (et_B (ev_sameLL (ear_l (el_meth (vs := []) (dvs := []) (xs := rows.map vS) (ev_var rfl) hs1 (fsS_no (by decide +kernel) (by decide +kernel)) ea_nil (fun H1 e1 Q q E => ⟨s, cs, G, rows, rfl, S1.strm.ex e1, q⟩)) (ear_v (ev_prop (dvs := []) (z := vS (stand cs.length rows)) (ev_var rfl) hs1 (fun H1 e1 Q q E => ⟨s, cs, G, rows, rfl, S1.strm.ex e1, q⟩)) ear_nil))
              (ear_v (ev_var rfl) (ear_v (ev_call (dvs := []) (z := vS (lstand cs.length rows)) (ea2 (ev_var rfl) (ev_var rfl)) (fun H1 e1 Q q E => ⟨pa, rows, cs.length, rfl, S1.past.ex e1, hasc, q⟩)) ear_nil))
              (fun H1 H2 xs e h => ?_) (fun H1 xs h => ?_) (fun H1 H2 xs e h => h) (fun H1 xs h => ?_) (fun xs ys H1 p q e h h' hp hq => ?_)))) rfl) fun H12 e12 => ?_
            · obtain ⟨p, ys, rfl, hp, ys2, rfl, rfl⟩ := h
              exact ⟨p, _, rfl, e _ _ hp, _, rfl, rfl⟩
            · obtain ⟨p, ys, rfl, hp, ys2, rfl, rfl⟩ := h
              show 2 ≤ 1000
              decide
            · obtain ⟨ys, rfl, ys2, rfl, rfl⟩ := h
              show 2 ≤ 1000
              decide
            · obtain ⟨l1, ys1, rfl, hl1, ys2, rfl, rfl⟩ := h
              obtain ⟨ys3, rfl, ys4, rfl, rfl⟩ := h'
              refine sm_lst (n := 2) hp hq rfl (by show 2 ≤ 1000; decide) fun i u w hu hv => ?_
              match i, hu, hv with
              | 0, hu, hv =>
                cases hu
                cases hv
                exact sm_same (n := 1) hl1 ((S1.past.ex e).at_) (by rw [List.length_map]; omega) fun z hz => by
                  obtain ⟨y, _, rfl⟩ := List.mem_map.mp hz
                  exact sm_str
              | 1, hu, hv =>
                cases hu
                cases hv
                rw [stand_lstand hww]
                exact sm_str
              | i + 2, hu, hv => cases hu
            have e12' := f1.trans e12
            -- the place
            refine q_asgP (p_draw (W := W) (l0 := l0) (top := (rows.length : Int) + 1) (ev_var rfl) (ev_op (ev_var rfl) ev_c rv_add) e12' wb (fB.ex e12) (by omega) (by omega)) fun v H13 hv => ?_
            obtain ⟨⟨m, rfl, hm⟩, e13, B13⟩ := hv
            have S13 := S.ex e13
            refine q_asg (ev_untilQ (m := m) (r := r) (ev_var rfl) (ev_var rfl) (ev_var rfl) S13.strm hGl hrG rb (by omega)) fun H14 e14 => ?_
            generalize hU : untilF rows.length (seenL rows r m) 0 = U
            have hUD := (until_D (n := cs.length) (rows := rows) (r := r) (p := m) rl (by omega)).1
            rw [hU] at hUD
            have S14 := S13.ex e14
            obtain ⟨dx4, hb4, rl4, hs4', _⟩ := id S14.strm
            refine q_asgP (P := fun v H15 => ∃ x, v = .ref x ∧ H14 x = none ∧ Ex H14 H15 ∧ StreamAt A H15 x cs G rows) (fun Q q => ⟨_, rfl, s, dx4, _, rfl, hs4', fsS_no (by decide +kernel) (by decide +kernel), s, cs, G, rows, rfl, S14.strm, by omega, fun x H15 nx e15 hx => q _ H15 ⟨x, rfl, nx, e15, hx⟩⟩) fun v H15 hv => ?_
            obtain ⟨x, rfl, nx, e15, SX⟩ := hv
            have B15 := B13.ex (e14.trans e15)
            have eW15 : Ex W H15 := e13.trans (e14.trans e15)
            have wx : W x = none := fresh_back (e13.trans e14) nx
            obtain ⟨dx5, hb5, rl5, hx5, _⟩ := id SX
            -- put
            refine q_dropP (P := fun v H16 => Ex (hid x H15) H16 ∧ StreamAt A H16 x cs G (rows.take m ++ [r] ++ rows.drop m)) (fun Q q => ⟨_, rfl, x, dx5, _, rfl, hx5, fsS_no (by decide +kernel) (by decide +kernel), _, rfl, _, rfl, rfl, rfl, x, cs, G, rows, r, m, rfl, SX, rl, rb, hrG, by omega, by omega, fun H16 e16 hS => q _ H16 ⟨e16, hS⟩⟩) fun v H16 hv => ?_
            obtain ⟨e16, SY⟩ := hv
            have B16 : BagAt H16 b l0 := (bag_hidS B15 hx5).ex e16
            have eW16 : Ex W H16 := (to_hid eW15 wx).trans e16
            have S16 := S.ex eW16
            generalize hrw : rows.take m ++ [r] ++ rows.drop m = rows2 at SY
            have hrl2 : rows2.length = rows.length + 1 := by
              rw [← hrw, List.length_append, List.length_append, List.length_take, List.length_drop, List.length_singleton]
              omega
            have hmem2 : ∀ y ∈ rows2, y ∈ kept := fun y hy => by
              rw [← hrw] at hy
              rcases List.mem_append.mp hy with h | h
              · rcases List.mem_append.mp h with h | h
                · exact S.inn y (List.mem_of_mem_take h)
                · rw [List.mem_singleton.mp h]
                  exact hr'
              · exact S.inn y (List.mem_of_mem_drop h)
            have fin : ∀ (D : Ends) (H19 : Hp) (z19 : Option V), Ex H16 H19 → (∀ pa2 H20, H19 pa2 = none → Ex H19 H20 → H20 pa2 = some (.lst (rows2.map vS)) → D.nx [some (.ref a), some (.ref b), some (.ref cl), some (.ref sw), some (.ref kp), some (.int (cs.length : Int)), some (.ref pa2), some (.ref hb), some (.ref x), some (.int (i : Int)), some (vS r), some (.int (rows.length : Int)), some (.int (m : Int)), o13, o14, o15, o16, some (.int (U : Int)), some (.ref x), z19, o20] H20) →
                tSeq (tAsg (tVar 18) (gName 8)) (tAsg (tOp rCat (tOp rCat (tSl (rSlL K) (tVar 6) tNoPart (tPart (tVar 12))) (tLst (tCons (tVar 10) tNil))) (tSl (rSlL K) (tVar 6) (tPart (tVar 12)) tNoPart)) (gName 6)) D [some (.ref a), some (.ref b), some (.ref cl), some (.ref sw), some (.ref kp), some (.int (cs.length : Int)), some (.ref pa), some (.ref hb), some (.ref s), some (.int (i : Int)), some (vS r), some (.int (rows.length : Int)), some (.int (m : Int)), o13, o14, o15, o16, some (.int (U : Int)), some (.ref x), z19, o20] H19 := fun D H19 z19 e19 kd => by
              have R19 := (S16.ex e19).past
              refine q_asg (ev_var rfl) fun H20 e20 => ?_
              have R20 := R19.ex e20
              refine s_asgL (xs := rows2.map vS) (eA (el_catN (xs := (rows.take m).map vS ++ [vS r]) (ys := (rows.drop m).map vS) (el_catN (xs := (rows.take m).map vS) (ys := [vS r]) (eA (el_slTo (k := (m : Int)) (ev_var rfl) (ev_var rfl) (sq_of R20.at_) (by omega)) (by rw [Int.toNat_natCast, List.map_take])) (el_lst (ea1 (ev_var rfl)) (by simp)) (by rw [List.length_map, List.length_take]; show _ + 1 ≤ _; omega)) (eA (el_slFrom (k := (m : Int)) (ev_var rfl) (ev_var rfl) (sq_of R20.at_) (by omega)) (by rw [Int.toNat_natCast, List.map_drop])) (by rw [List.length_append, List.length_map, List.length_map, List.length_take, List.length_drop]; show _ + 1 + _ ≤ _; omega)) (by rw [← hrw, List.map_append, List.map_append] <;> rfl)) fun pa2 H21 np e21 hp => kd pa2 H21 (fresh_back e20 np) (e20.trans e21) hp
            have done : ∀ (H19 : Hp) (pa2 : Addr) (H20 : Hp), Ex H16 H19 → H19 pa2 = none → Ex H19 H20 → H20 pa2 = some (.lst (rows2.map vS)) → hid b H20 b = none ∧ Ex (hid b H20) H20 ∧ BagAt H20 b l0 ∧ St A (hid b H20) cl sw kp hb x pa2 cs sown kept G rows2 ∧ rows2.length ≤ 9 + (i + 1) := fun H19 pa2 H20 e19 np e20 hp => by
              have B20 := B16.ex (e19.trans e20)
              have SX := S.ex (to_hid (eW16.trans (e19.trans e20)) wb)
              exact ⟨hid_none b H20, hid_ex b H20, B20, ⟨SX.home, SX.band, stream_hidB (SY.ex (e19.trans e20)) B20, rows_hidB ⟨hp, fun y hy => (hwid y (hmem2 y hy)).1, by omega, by omega⟩ B20, hmem2, heqG⟩, by omega⟩
            refine q_when (b := decide (0 < (U : Int))) (et_test (ev_op (ev_var rfl) ev_c rv_gt)) (fun hb0 H17 e17 => ?_) (fun hb0 H17 e17 => ?_)
            · have hU0 : 0 < U := by
                have := of_decide_eq_true hb0
                omega
              have hne := until_shows (n := cs.length) hww rl (show m ≤ rows.length by omega) U hU hU0
              rw [hrw] at hne
              refine q_asg (v := vS (stand cs.length (rows.take (U - 1)))) (ev_if (b := decide ((1 : Int) < (U : Int))) (et_test (ev_op (ev_var rfl) ev_c rv_gt)) (fun h1 => ?_) (fun h1 => ?_)) fun H18 e18 => ?_
              · have := of_decide_eq_true h1
                exact ev_windowQ (m := U - 1) (ev_var rfl) (ev_is (ev_op (ev_var rfl) ev_c rv_sub) (by
                  show V.int _ = V.int _
                  congr 1
                  omega)) (S16.strm.ex e17) (by omega) (by omega)
              · have h1 := of_decide_eq_false h1
                have hU1 : U = 1 := by omega
                have hst0 : stand cs.length (rows.take (U - 1)) = kept.getD 0 [] := by
                  rw [hU1, hok.head]
                  rfl
                rw [hst0]
                exact ev_op (ev_var rfl) ev_c (rv_ixLn (i := 0) (sq_of (S16.ex e17).home.keptAt.at_) ((S16.ex e17).home.keptAt.get hpos))
              · refine s_skip (et_is (et_test (ev_op (ev_windowQ (m := U) (ev_var rfl) (ev_var rfl) (SY.ex (e17.trans e18)) hU0 (by omega)) (ev_var rfl) rv_eqS)) (decide_eq_false hne)) fun H19 e19 => ?_
                exact fin _ H19 _ ((e17.trans e18).trans e19) fun pa2 H20 np e20 hp => by
                  obtain ⟨d1, d2, d3, d4, d5⟩ := done H19 pa2 H20 ((e17.trans e18).trans e19) np e20 hp
                  exact ⟨hn2, hid b H20, x, pa2, rows2, _, _, _, _, _, _, _, _, _, _, _, _, rfl, d1, d2, d3, d4, d5⟩
            · exact fin _ H17 _ e17 fun pa2 H20 np e20 hp => by
                obtain ⟨d1, d2, d3, d4, d5⟩ := done H17 pa2 H20 e17 np e20 hp
                exact ⟨hn2, hid b H20, x, pa2, rows2, _, _, _, _, _, _, _, _, _, _, _, _, rfl, d1, d2, d3, d4, d5⟩
      · obtain ⟨_, W, s, pa, rows, o9, o10, o11, o12, o13, o14, o15, o16, o17, o18, o19, o20, rfl, wb, eW, B, S, hrl⟩ := h
        have S1 := S.ex eW
        have hwr : ∀ y ∈ rows, y.length = cs.length ∧ rowB cs y = true := fun y hy => hwid y (S.inn y hy)
        have hasc : Asc rows := fun y hy c hc => sg_lt (rowB_asc (hwr y hy).1 (hwr y hy).2 c hc)
        have hww : ∀ y ∈ rows, y.length = cs.length := fun y hy => (hwr y hy).1
        have hrow := S.past.few
        refine p_sameR (P1 := fun v H2 => ∃ p1, v = .ref p1 ∧ Ex H' H2 ∧ FactsAt H2 p1 rows (stand cs.length rows) ((rows.length : Int) - ((telN cs.length rows).length : Int)) ((telN cs.length rows).map fun m : Nat => V.int (m : Int)) ((List.range rows.length).map fun i => optI (endN rows (i + 1))))
          (P2 := fun v w H3 => ∃ (p1 p2 : Addr) (ys : List Int), v = .ref p1 ∧ w = .ref p2 ∧ ys.Perm ((ltel cs.length rows).map fun m : Nat => (m : Int)) ∧ ys.Pairwise (· ≥ ·) ∧ FactsAt H3 p1 rows (stand cs.length rows) ((rows.length : Int) - ((telN cs.length rows).length : Int)) ((telN cs.length rows).map fun m : Nat => V.int (m : Int)) ((List.range rows.length).map fun i => optI (endN rows (i + 1))) ∧ FactsAt H3 p2 rows (lstand cs.length rows) ((rows.length : Int) - (ys.length : Int)) (ys.map V.int) ((List.range rows.length).map fun i => optI (lend cs.length rows (i + 1))))
          (fun Q q => ?_) (fun v H2 hv Q q => ?_) (fun v w H3 h => ?_) (fun H3 => k H3)
        · exact (ea1 (ev_var rfl) : EvA (tCons (tVar 8) tNil) [some (.ref a), some (.ref b), some (.ref cl), some (.ref sw), some (.ref kp), some (.int (cs.length : Int)), some (.ref pa), some (.ref hb), some (.ref s), o9, o10, o11, o12, o13, o14, o15, o16, o17, o18, o19, o20] H' [.ref s]) H' (Ex.refl H') _ fun H1 e1 => ⟨s, cs, G, rows, rfl, S1.strm.ex e1, fun p1 H2 e2 hf => q _ H2 ⟨p1, rfl, e1.trans e2, hf⟩⟩
        · obtain ⟨p1, rfl, e2, hf⟩ := hv
          exact (ea2 (ev_var rfl) (ev_var rfl) : EvA (tCons (tVar 5) (tCons (tVar 6) tNil)) [some (.ref a), some (.ref b), some (.ref cl), some (.ref sw), some (.ref kp), some (.int (cs.length : Int)), some (.ref pa), some (.ref hb), some (.ref s), o9, o10, o11, o12, o13, o14, o15, o16, o17, o18, o19, o20] H2 [.int (cs.length : Int), .ref pa]) H2 (Ex.refl H2) _ fun H3 e3 => ⟨pa, rows, cs.length, rfl, S1.past.ex (e2.trans e3), hasc, fun ys p2 H4 y1 y2 e4 hd => q _ H4 ⟨p1, p2, ys, rfl, rfl, y1, y2, hf.ex (e3.trans e4), hd⟩⟩
        · obtain ⟨p1, p2, ys, rfl, rfl, y1, y2, hf, hd⟩ := h
          have ey := tel_eq hww y1 y2
          have hen : ((List.range rows.length).map fun i => optI (lend cs.length rows (i + 1))) = (List.range rows.length).map fun i => optI (endN rows (i + 1)) := List.map_congr_left fun i hi => by
            rw [end_lend hww hrow (by omega) (by have := List.mem_range.mp hi; omega)]
          rw [hen, ← stand_lstand hww, ey, List.length_map, List.map_map] at hd
          refine sm_facts hf hd hrow ?_ (fun x hx => ?_) (by rw [List.length_map, List.length_range]; exact hrow) (fun x hx => ?_)
          · have q := y1.length_eq
            rw [List.length_map] at q
            rw [ey, List.length_map] at q
            rw [List.length_map]
            have hl : (telN cs.length rows).length ≤ (prs rows).length := by
              unfold telN
              rw [List.length_map]
              exact (ntell_sub _ _).length_le
            rw [prs_len] at hl
            omega
          · obtain ⟨m, _, rfl⟩ := List.mem_map.mp hx
            exact sm_int
          · obtain ⟨m, _, rfl⟩ := List.mem_map.mp hx
            exact sm_optI
end
end Nt
end
section
set_option Elab.async false
set_option linter.all false
set_option maxRecDepth 100000
set_option maxHeartbeats 1000000
namespace Nt
open PySem PySem.Spec PyProof.Rows L2 Evl SX
section
variable {P : Program} {w : World} {K : PySem.W.Frag} {mg : Str → Option Value} {base : Heap} {A : Ad}
abbrev n_lotsize : List Str := ["lot"]
theorem sc_lotsize : FnScope n_lotsize ["lot"] (defScope s_lotsize) := ⟨rfl, rfl, rfl, by decide +kernel, rfl, by decide +kernel, by decide +kernel⟩
theorem lot_key (T : Tx K mg A) {Ar : Around} {s : Shared} {x : Str} {t : Tok} (hd : Ar.depth < recursionLimit) (KX : K.In s.heap) (lim : s.heap.NoLimit) :
    wpAny (model P w) Ar (call (.ref (A.f "lot_size")) [.str x t]) (PySem.W.KeyPure (.int (Txt.count x "+")) s) (fun _ _ => False) s := by
  obtain ⟨oc, od, dV, kV, doc, pm, an, cdv, ct, osl, hfd, lk, hcd, _, _⟩ := T.F_lotsize.ex
  have hb := T.b_lotsize s [.str x t] KX rfl
  rw [hfd] at lk hb
  refine wpAny_call (codeAny_call_function hd (KX _ _ lk) rfl sc_lotsize.co sc_lotsize.gen rfl (PySem.W.codeRec_of KX hcd) (hb _ _ _ _ ?_))
  refine wpAny_newFunctionEnv_cells sc_lotsize.kind (fun y hy => ?_) fun env he s1 z => ?_
  · rw [List.mem_singleton.mp hy]
    exact .inl rfl
  · subst he
    refine ⟨lim.keeps z.toInCall.keep, codeAny_func ?_⟩
    obtain ⟨h1, tk, rfl, hk⟩ := z.done
    refine wpAny_execs_cons ?_
    refine wpAny_Return_some ?_
    refine PySem.Call_method1 rfl rfl rfl ?_
    refine wpAny_Name (wpAny_loadName_local rfl rfl z.toInCall.ns (v := .str x t) rfl ?_) (by decide)
    refine ⟨"str", _, PySem.F.plainAttrs_str, PySem.F.slot_str_count, PySem.F.type_str_count, typeIs_str _ _ _, (fun _ e => nomatch e), Calls.callWith_builtin rfl (Calls.evalArgs_plain (Calls.spliced_cons ?_))⟩
    refine Calls.Constant_str ?_
    refine Calls.spliced_nil ?_
    refine PySem.SC.count ?_
    exact ⟨h1, _, rfl, hk, .int _ _⟩
end
end Nt
end
section
set_option Elab.async false
set_option linter.all false
set_option maxRecDepth 100000
set_option maxHeartbeats 1000000
namespace Nt
open PySem PySem.Spec PyProof.Rows L2 Evl SX
/-! ### sorted(xs, key=lot_size) -/
def IsTxt (v : Value) (x : Str) : Prop := ∃ t, v = Value.str x t
theorem each_txt : ∀ {vs : List Value} {xs : List Str}, StrsAre vs xs → PySem.W.EachIs IsTxt vs xs
  | _, _, .nil => .nil
  | _, _, .cons _ _ h => .cons ⟨_, rfl⟩ (each_txt h)
theorem txt_each : ∀ {vs : List Value} {xs : List Str}, PySem.W.EachIs IsTxt vs xs → StrsAre vs xs
  | _, _, .nil => .nil
  | _, _, .cons ⟨_, rfl⟩ h => .cons _ _ (txt_each h)
def rSortedLot (K : PySem.W.Frag) (f : Addr) : List V → List V → Hp → VK → Prop := fun vs zs H Q => ∃ (a : Addr) (xs : List Str), vs = [V.ref a] ∧ zs = [V.ref f] ∧ SqL K H a (xs.map V.str) ∧ xs.length < 64 ∧
  ∀ (ys : List Str) (p : Addr), H p = none → Q (.ref p) (upd H p (.lst (ys.map V.str)))
theorem cr_sortedLot {X : Cx} {A : Ad} (T : Tx X.K X.mg A) (hd : X.A.depth < recursionLimit) (hu : X.A.units + 2 < cLine) : CallRK X (.builtin "sorted") [Str.ofString "key"] (rSortedLot X.K (A.f "lot_size")) := by
  intro pins s σ H vs zs us ws Q I r rz h
  obtain ⟨a, xs, rfl, rfl, hs, h64, q⟩ := h
  obtain rfl := Vals.ref1 r
  obtain ⟨w1, rfl, e1⟩ := vals1 rz
  obtain rfl : w1 = Value.ref (A.f "lot_size") := e1
  obtain ⟨its, rv, hl, _⟩ := I.list hs
  refine PySem.W.sorted_key_data (b := false) (bs := xs) (R := IsTxt) (fun x : Str => .int (Txt.count x "+")) hl.isList (each_txt (strsAre_of rv)) (PySem.W.AllAlike.of fun _ _ => by simp [PySem.W.alike]) (PySem.W.Sortable.others fun _ => ⟨(fun h => nomatch h), (fun _ h => nomatch h)⟩) (by rw [sizeLine_eq]; omega) (fun p _ => ?_) (PyProof.Rows.ksk_s1 _ _) (fun _ => PyProof.Rows.ksk_l1 _ _) (fun _ => PyProof.Rows.ksk_t1 _ _)
    (fun v p ⟨t, e⟩ _ h tk kp => ?_) fun out c h' tk kp hf hD hlen eo => ?_
  · exact hu
  · subst e
    exact lot_key T hd (I.kIn.keeps kp) (I.nolimit.keeps kp)
  · have hn : (xs.mergeSort (PySem.W.dataLe false fun x : Str => .int (Txt.count x "+"))).length ≤ sizeLine := by
      rw [← eo.length, hlen, sizeLine_eq]; omega
    exact ⟨.ref _, upd H (s.heap.objs.size + 1) (.lst (_ : List V)), I.laid (t' := tk) (fun b u e => kp b u e) (Nat.le_succ _) ⟨by rw [List.length_map]; exact hn, out, c, vals_of_strs (txt_each eo), hD⟩, rfl, q _ _ (I.hok.fresh (Nat.le_succ _))⟩
section
variable {P : Program} {w : World} {K : PySem.W.Frag} {mg : Str → Option Value} {base : Heap} {A : Ad}
abbrev n_orderedlots : List Str := ["lots"]
theorem sc_orderedlots : FnScope n_orderedlots ["lots"] (defScope s_orderedlots) := ⟨rfl, rfl, rfl, by decide +kernel, rfl, by decide +kernel, by decide +kernel⟩
theorem ok_orderedlots (T : Tx K mg A) : FnOk P w K mg base CX0 8 (A.f "ordered_lots") (A.fd "ordered_lots") ["lots"] spOrdered := by
  refine T.F_orderedlots.ok sc_orderedlots (fun vs H Q E h => ?_) (fun cdv A' outer s H vs Q E hr h => ?_)
  · obtain ⟨a, xs, rfl, _⟩ := h
    rfl
  · obtain ⟨a, xs, rfl, ha, h64, k⟩ := h
    refine ⟨_, PSs.nox (pss_one (ps_ret (pe_callBK (cr_sortedLot T hr.depth (show (A'.deeper _).units + 2 < cLine from by have := hr.units; omega)) (by rfl) T.n_sorted (by decide +kernel) (pa_cons (pe_callB (Nr.cr_sortedT rfl) (by rfl) T.n_sorted (by decide +kernel) (pa_cons (pe_callTy (Nr.cr_setT rfl) (by rfl) T.n_set (by decide +kernel) (pa_cons (pv 0) pa_nil)) pa_nil)) pa_nil) (pk_cons (pe_glob (v := .ref (A.f "lot_size")) (by rfl) T.g_lotsize rfl) pk_nil)))), ?_⟩
    exact ⟨.ref a, rfl, a, xs.map S, rfl, .inl (.inl (by rw [List.map_map]; exact ha)), (by rw [List.length_map]; exact h64), fun p hp => ⟨p, (xs.map S).length, rfl, upd_same, (by rw [List.length_map]; exact h64), fun ss p2 hl hp2 => ⟨p2, ss, rfl, rfl, .inl (.inl upd_same), (by rw [List.length_map] at hl; omega), fun ys p3 hp3 => k p3 _ (((Ex.new hp).trans (Ex.new hp2)).trans (Ex.new hp3))⟩⟩⟩
end
end Nt
end
section
set_option Elab.async false
set_option linter.all false
set_option maxRecDepth 100000
set_option maxHeartbeats 1000000
namespace Nh
open PySem PySem.Spec PyProof.Rows L2
/-! ### checks over a part of the heap that is given by its addresses -/
inductive Ck where
  | fa (f : He.Fa)
  | glo (x : Str) (a : Addr)
  | cls (C : Addr)
  | mk (C f : Addr)
  | noat (C : Addr) (f : Str)
  | meth (C : Addr) (m : Str) (f : Addr)
  | prop (C : Addr) (x : Str) (p g : Addr)
  | oexC (C : Addr)
  | oexL (C : Addr)
  | init (C f : Addr)
  | typ (f : Addr)
  | xf (C : Addr)
  | exm (C D : Addr) (b : Bool)
def exB (refs : List Value → Bool) (nid : String) (K : PySem.W.Frag) (C : Addr) : Bool := match K.lookup C with
  | some ⟨.type "type", _, .cls cd, sl⟩ => (match cd.mro, sl.toList with
    | .ref C' :: bm, [_, _, _, _, some (.builtin n), _] => C' == C && (n == nid && (!cd.hasDel && (cd.hasDict && refs bm)))
    | _, _ => false)
  | _ => false
theorem exB_ok {refs : List Value → Bool} {nid : String} {K : PySem.W.Frag} {C : Addr} (q : exB refs nid K C = true) :
    ∃ nm qn N bs bm sn sub ab col dd k0 k1 k2 k3 k5, K.lookup C = some (excClassObj nm qn C N bs bm true sn sub ab col dd k0 k1 k2 k3 k5 nid) ∧ refs bm = true := by
  unfold exB at q
  split at q
  · rename_i dd cd sl ho
    split at q
    · rename_i C' bm k0 k1 k2 k3 n k5 hm hs
      simp only [Bool.and_eq_true, beq_iff_eq, Bool.not_eq_true'] at q
      obtain ⟨rfl, rfl, hdel, hdc, hr⟩ := q
      obtain ⟨nm, bs, mro, ns, qn, hd, sn, sub, ab, col, del⟩ := cd
      dsimp only at hm hdel hdc
      subst hm hdel hdc
      have hsl : sl = #[k0, k1, k2, k3, some (.builtin n), k5] := by
        obtain ⟨l⟩ := sl
        simp only at hs
        rw [hs]
      subst hsl
      exact ⟨nm, qn, ns, bs, bm, sn, sub, ab, col, dd, k0, k1, k2, k3, k5, ho, hr⟩
    · cases q
  · cases q
def oxB (K : PySem.W.Frag) (C : Addr) : Bool := He.eqO (PySem.W.findIn K (.ref C) "__setattr__") (some (some (.builtin "object.__setattr__"))) && (decide (PySem.W.subIn K (.ref C) (.type "BaseException") = some true) && (decide (PySem.W.typeIn K (.ref C) = some (.type "type")) && PySem.W.keepIn K (.ref C)))
def Ck.ok (K : PySem.W.Frag) : Ck → Bool
  | .fa f => f.ok K
  | .glo x a => He.eqO (PySem.W.nsIn K mainGlobals x) (some (some (.ref a)))
  | .cls C => PySem.W.plainGet K C Str.empty && (PySem.W.hasDictIn K C && (PySem.W.plainOver K C && He.eqO (PySem.W.findIn K (.ref C) "__setattr__") (some (some (.builtin "object.__setattr__")))))
  | .mk C f => PySem.W.makesIn K C && (He.eqO (PySem.W.findIn K (.ref C) "__init__") (some (some (.ref f))) && (PySem.W.isFn K (.ref f) && PySem.W.keepIn K (.ref C)))
  | .noat C f => He.eqO (PySem.W.findIn K (.ref C) f) (some none)
  | .meth C m f => He.eqO (PySem.W.findIn K (.ref C) m) (some (some (.ref f))) && (PySem.W.isFn K (.ref f) && PySem.W.keepIn K (.ref f))
  | .prop C x p g => He.eqO (PySem.W.findIn K (.ref C) x) (some (some (.ref p))) && (He.eqO (PySem.W.specialIn K (.ref p) "__get__") (some (some (.builtin "property.__get__"))) && (decide (PySem.W.takesIn K (.ref p) = some true) && (match PySem.W.recIn K p "property" with
    | some (.ref g' :: _) => decide (g' = g)
    | _ => false)))
  | .oexC C => exB PySem.HandSPX.refsVE "ValueError.__new__" K C && oxB K C
  | .oexL C => exB PySem.LEX.refsLE "LookupError.__new__" K C && oxB K C
  | .init C f => He.eqO (PySem.W.findIn K (.ref C) "__init__") (some (some (.ref f)))
  | .typ f => decide (PySem.W.typeIn K (.ref f) = some (.type "function"))
  | .xf C => xfB K C
  | .exm C D b => decide (PySem.W.exmOne K (.ref C) (.ref D) = some b)
section
variable {K : PySem.W.Frag} {h : Heap} {mg : Str → Option Value}
theorem glo_ok (X : K.In h) (G : h.Ns mainGlobals mg) {x : Str} {a : Addr} (c : (Ck.glo x a).ok K = true) : mg x = some (.ref a) := PySem.W.mg_of X G (He.eqO_ok c)
theorem free_ok (X : K.In h) (G : h.Ns mainGlobals mg) {x : Str} (c : (Ck.fa (.free x)).ok K = true) : mg x = none := He.free_ok X G c
theorem int_ok (X : K.In h) (G : h.Ns mainGlobals mg) {x : Str} {i : Int} (c : (Ck.fa (.int x i)).ok K = true) : ∃ t, mg x = some (.int i t) := He.int_ok X G c
theorem str_ok (X : K.In h) (G : h.Ns mainGlobals mg) {x z : Str} (c : (Ck.fa (.str x z)).ok K = true) : ∃ t, mg x = some (.str z t) := He.str_ok X G c
theorem cls_ok {C : Addr} (c : (Ck.cls C).ok K = true) : Cls K C := by
  obtain ⟨c1, c⟩ := He.ba c
  obtain ⟨c2, c⟩ := He.ba c
  obtain ⟨c3, c4⟩ := He.ba c
  exact ⟨c1, c2, c3, He.eqO_ok c4⟩
theorem mk_ok {C f : Addr} (c : (Ck.mk C f).ok K = true) : Mk K C f := by
  obtain ⟨c1, c⟩ := He.ba c
  obtain ⟨c2, c⟩ := He.ba c
  obtain ⟨c3, c4⟩ := He.ba c
  exact ⟨c1, He.eqO_ok c2, c3, c4⟩
theorem noat_ok {C : Addr} {f : Str} (c : (Ck.noat C f).ok K = true) : NoAttr K C f := He.eqO_ok c
theorem meth_ok {C f : Addr} {m : Str} (c : (Ck.meth C m f).ok K = true) : Meth K C m f := by
  obtain ⟨c1, c⟩ := He.ba c
  obtain ⟨c2, c3⟩ := He.ba c
  exact ⟨He.eqO_ok c1, c2, c3⟩
theorem prop_ok {C p g : Addr} {x : Str} (c : (Ck.prop C x p g).ok K = true) : PropOf K C x p g := by
  obtain ⟨c1, c⟩ := He.ba c
  obtain ⟨c2, c⟩ := He.ba c
  obtain ⟨c3, c4⟩ := He.ba c
  refine ⟨He.eqO_ok c1, He.eqO_ok c2, of_decide_eq_true c3, ?_⟩
  split at c4
  · rename_i g' rest e
    have e2 : g' = g := of_decide_eq_true c4
    exact ⟨rest, by rw [e, e2]⟩
  · cases c4
theorem oexC_ok {C : Addr} (c : (Ck.oexC C).ok K = true) : OexC K C := by
  obtain ⟨c0, c⟩ := He.ba c
  obtain ⟨c1, c⟩ := He.ba c
  obtain ⟨c2, c⟩ := He.ba c
  obtain ⟨c3, c4⟩ := He.ba c
  exact ⟨exB_ok c0, He.eqO_ok c1, of_decide_eq_true c2, of_decide_eq_true c3, c4⟩
theorem oexL_ok {C : Addr} (c : (Ck.oexL C).ok K = true) : OexL K C := by
  obtain ⟨c0, c⟩ := He.ba c
  obtain ⟨c1, c⟩ := He.ba c
  obtain ⟨c2, c⟩ := He.ba c
  obtain ⟨c3, c4⟩ := He.ba c
  exact ⟨exB_ok c0, He.eqO_ok c1, of_decide_eq_true c2, of_decide_eq_true c3, c4⟩
theorem init_ok {C f : Addr} (c : (Ck.init C f).ok K = true) : PySem.W.findIn K (.ref C) "__init__" = some (some (.ref f)) := He.eqO_ok c
theorem none_ok {C : Addr} {f : Str} (c : (Ck.noat C f).ok K = true) : PySem.W.findIn K (.ref C) f = some none := He.eqO_ok c
theorem typ_ok {f : Addr} (c : (Ck.typ f).ok K = true) : PySem.W.typeIn K (.ref f) = some (.type "function") := of_decide_eq_true c
theorem xf_ok {C : Addr} (c : (Ck.xf C).ok K = true) : XfC K C := xfB_ok c
theorem exm_ok {C D : Addr} {b : Bool} (c : (Ck.exm C D b).ok K = true) : PySem.W.exmOne K (.ref C) (.ref D) = some b := of_decide_eq_true c
end
/-! ### a def by its address -/
structure Dd where
  ad : Addr
  name : Str
  qual : Str
  params : Arguments
  body : List Stmt
  scope : Scope
  dfl : List V
  kwd : List (Str × V)
def fnA (K : PySem.W.Frag) (a : Addr) : He.FnW := match K.lookup a with
  | some ⟨_, _, .func fd, _⟩ => some (fd.name, fd.qualname, fd.params, fd.body, fd.scope, fd.globals, fd.closure, fd.builtins)
  | _ => none
def fdA (K : PySem.W.Frag) (a : Addr) : FuncData := match K.lookup a with
  | some ⟨_, _, .func fd, _⟩ => fd
  | _ => PySem.W.fnOf Str.empty Str.empty ⟨[], [], none, [], [], none, []⟩ [] ⟨.function, [], false, false, []⟩ .none .none .none .none none .none .none
def Dd.val (d : Dd) : He.FnW := some (d.name, d.qual, d.params, .stmts d.body, d.scope, mainGlobals, [], builtinsNs)
def Dd.ok (K : PySem.W.Frag) (d : Dd) : Bool := PySem.W.keepIn K (.ref d.ad) && (match K.lookup d.ad with
  | some ⟨_, _, .func fd, _⟩ => PySem.W.codeIn K fd.code d.qual && (He.dflB K fd.defaults d.dfl && He.kwdB K fd.kwdefaults d.kwd)
  | _ => false)
theorem Dd.funD {K : PySem.W.Frag} {d : Dd} (e : fnA K d.ad = d.val) (c : d.ok K = true) : FunD K d.name d.qual d.params d.body d.scope d.dfl d.kwd d.ad (fdA K d.ad) := by
  obtain ⟨kp, c2⟩ := He.ba c
  unfold fnA at e
  unfold fdA
  cases q : K.lookup d.ad with
  | none =>
    rw [q] at c2
    cases c2
  | some o =>
    obtain ⟨oc, od, dt, osl⟩ := o
    rw [q] at c2 e
    cases dt with
    | func fd =>
      obtain ⟨n1, n2, n3, n4, n5, n6, n7, n8, n9, n10, n11, n12, n13, n14, n15⟩ := fd
      have e2 : (some (n1, n2, n3, n4, n5, n6, n7, n15) : He.FnW) = some (d.name, d.qual, d.params, .stmts d.body, d.scope, mainGlobals, [], builtinsNs) := e
      simp only [Option.some.injEq, Prod.mk.injEq] at e2
      obtain ⟨h1, h2, h3, h4, h5, h6, h7, h8⟩ := e2
      subst h1 h2 h3 h4 h5 h6 h7 h8
      have c3 : (PySem.W.codeIn K n13 d.qual && (He.dflB K n8 d.dfl && He.kwdB K n9 d.kwd)) = true := c2
      obtain ⟨k1, k2⟩ := He.ba c3
      obtain ⟨k3, k4⟩ := He.ba k2
      exact ⟨⟨oc, od, n8, n9, n10, n11, n12, n13, n14, osl, rfl, q, k1, He.dflB_ok k3, He.kwdB_ok k4⟩, kp⟩
    | _ => cases c2
/-! ### the Hook -/
def obsA (cs : List Ck) (fn : List Dd) (K : PySem.W.Frag) : He.AlD := ((cs.all fun c => c.ok K) && fn.all fun d => d.ok K, fn.map fun d => fnA K d.ad)
def valA (fn : List Dd) : He.AlD := (true, fn.map Dd.val)
def SaysA (cs : List Ck) (fn : List Dd) (K : PySem.W.Frag) : Prop := obsA cs fn K = valA fn
def hookA (as : List Addr) (cs : List Ck) (fn : List Dd) : PySem.W.Hook where
  α := He.AlD
  obs := fun s => obsA cs fn (He.frG s.heap.get? as)
  val := fun _ => valA fn
  says := fun _ h => ∃ K : PySem.W.Frag, K.In h ∧ SaysA cs fn K
  of := fun _ _ e => ⟨_, He.frG_in, e⟩
  keeps := fun _ _ _ ⟨K, hK, c⟩ k => ⟨K, PySem.W.Frag.In.keeps hK k, c⟩
theorem obsA_eq {as : List Addr} {cs : List Ck} {fn : List Dd} {g : Addr → Option Obj} {s : Shared} (h : ∀ a, g a = s.heap.get? a) : obsA cs fn (He.frG g as) = (hookA as cs fn).obs s := by
  have e : g = s.heap.get? := funext h
  rw [e] <;> rfl
section
variable {cs : List Ck} {fn : List Dd} {K : PySem.W.Frag}
theorem SaysA.fact (c : SaysA cs fn K) (i : Nat) {f : Ck} (h : cs[i]? = some f) : f.ok K = true := by
  have c1 := (He.ba (show ((cs.all fun c => c.ok K) && fn.all fun d => d.ok K) = true from congrArg (fun z : He.AlD => z.1) c)).1
  exact List.all_eq_true.mp c1 f (List.mem_of_getElem? h)
theorem SaysA.def_ (c : SaysA cs fn K) (i : Nat) {d : Dd} (h : fn[i]? = some d) : FunD K d.name d.qual d.params d.body d.scope d.dfl d.kwd d.ad (fdA K d.ad) := by
  have c2 := (He.ba (show ((cs.all fun c => c.ok K) && fn.all fun d => d.ok K) = true from congrArg (fun z : He.AlD => z.1) c)).2
  have e : fn.map (fun d => fnA K d.ad) = fn.map Dd.val := congrArg (fun z : He.AlD => z.2) c
  have e2 : (fn.map fun d => fnA K d.ad)[i]? = (fn.map Dd.val)[i]? := by rw [e]
  rw [List.getElem?_map, List.getElem?_map, h] at e2
  exact Dd.funD (Option.some.inj e2) (List.all_eq_true.mp c2 d (List.mem_of_getElem? h))
end
end Nh
end
section
set_option Elab.async false
set_option linter.all false
set_option maxRecDepth 100000
set_option maxHeartbeats 0
namespace Nh
open PySem PySem.Spec PyProof.Rows L2 Nt
def tbF0 : List (Str × Addr) := [("()", 600), ("BadRow.__init__", 86), ("Band.__init__", 404), ("Band.blank_row", 459), ("Band.check_row", 481), ("Band.names", 423), ("NoMoment.__init__", 213), ("NotInBand.__init__", 194), ("Stream.__bool__", 767), ("Stream.__init__", 608), ("Stream.__len__", 760), ("Stream.__repr__", 774), ("Stream.check_moment", 781), ("Stream.end_of", 713), ("Stream.ends", 718), ("Stream.last_moment", 788), ("Stream.put", 673), ("Stream.rows", 631), ("Stream.spare_count", 623), ("Stream.standing", 615), ("Stream.tellers", 708), ("Stream.twin", 739), ("Stream.window", 702), ("Stream.window_row", 795), ("_law_any", 933), ("_law_asks_seen", 966), ("_law_asks_until", 959), ("_law_bag", 809), ("_law_closed", 864), ("_law_draw", 816)]
def tbF1 : List (Str × Addr) := [("_law_due_facts", 912), ("_law_end", 900), ("_law_facts", 907), ("_law_frame", 840), ("_law_full_so", 978), ("_law_home", 871), ("_law_is", 919), ("_law_line", 878), ("_law_mended", 852), ("_law_odd_line", 938), ("_law_of", 823), ("_law_over", 857), ("_law_past", 885), ("_law_same", 828), ("_law_seed", 847), ("_law_some_line", 945), ("_law_some_spot", 952), ("_law_standing", 890), ("_law_tellers", 895), ("_law_until", 973), ("_law_word", 835), ("_law_wrong", 926), ("blank", 321), ("check_cells", 299), ("check_seeds", 384), ("grown_rows", 391), ("is_name", 223), ("is_number", 230), ("is_row", 304), ("latest_idle", 265)]
def tbF2 : List (Str × Addr) := [("law", 983), ("lot_of", 314), ("lot_size", 338), ("newest_at", 237), ("newest_tellers", 592), ("next_at", 244), ("ordered_lots", 345), ("over", 309), ("seen", 251), ("shows_until", 258), ("union", 331), ("within", 326)]
def tbF : List (Str × Addr) := tbF0 ++ (tbF1 ++ (tbF2))
def tbC0 : List (Str × Addr) := [("BadRow", 89), ("Band", 581), ("NoMoment", 216), ("NotInBand", 197), ("Stream", 798), ("Stream.spare_count", 624), ("Stream.standing", 616)]
def tbC : List (Str × Addr) := tbC0
def af (n : Str) : Addr := (tbF.lookup n).getD 0
def ac (n : Str) : Addr := (tbC.lookup n).getD 0
def d_isname : Dd := ⟨af "is_name", "is_name", "is_name", defArgs s_isname, defBody s_isname, defScope s_isname, [], []⟩
def d_isnumber : Dd := ⟨af "is_number", "is_number", "is_number", defArgs s_isnumber, defBody s_isnumber, defScope s_isnumber, [], []⟩
def d_newestat : Dd := ⟨af "newest_at", "newest_at", "newest_at", defArgs s_newestat, defBody s_newestat, defScope s_newestat, [], []⟩
def d_nextat : Dd := ⟨af "next_at", "next_at", "next_at", defArgs s_nextat, defBody s_nextat, defScope s_nextat, [], []⟩
def d_seen : Dd := ⟨af "seen", "seen", "seen", defArgs s_seen, defBody s_seen, defScope s_seen, [], []⟩
def d_showsuntil : Dd := ⟨af "shows_until", "shows_until", "shows_until", defArgs s_showsuntil, defBody s_showsuntil, defScope s_showsuntil, [], []⟩
def d_latestidle : Dd := ⟨af "latest_idle", "latest_idle", "latest_idle", defArgs s_latestidle, defBody s_latestidle, defScope s_latestidle, [], []⟩
def d_checkcells : Dd := ⟨af "check_cells", "check_cells", "check_cells", defArgs s_checkcells, defBody s_checkcells, defScope s_checkcells, [], []⟩
def d_isrow : Dd := ⟨af "is_row", "is_row", "is_row", defArgs s_isrow, defBody s_isrow, defScope s_isrow, [], []⟩
def d_over : Dd := ⟨af "over", "over", "over", defArgs s_over, defBody s_over, defScope s_over, [], []⟩
def d_lotof : Dd := ⟨af "lot_of", "lot_of", "lot_of", defArgs s_lotof, defBody s_lotof, defScope s_lotof, [], []⟩
def d_blank : Dd := ⟨af "blank", "blank", "blank", defArgs s_blank, defBody s_blank, defScope s_blank, [], []⟩
def d_within : Dd := ⟨af "within", "within", "within", defArgs s_within, defBody s_within, defScope s_within, [], []⟩
def d_union : Dd := ⟨af "union", "union", "union", defArgs s_union, defBody s_union, defScope s_union, [], []⟩
def d_lotsize : Dd := ⟨af "lot_size", "lot_size", "lot_size", defArgs s_lotsize, defBody s_lotsize, defScope s_lotsize, [], []⟩
def d_orderedlots : Dd := ⟨af "ordered_lots", "ordered_lots", "ordered_lots", defArgs s_orderedlots, defBody s_orderedlots, defScope s_orderedlots, [], []⟩
def d_checkseeds : Dd := ⟨af "check_seeds", "check_seeds", "check_seeds", defArgs s_checkseeds, defBody s_checkseeds, defScope s_checkseeds, [], []⟩
def d_grownrows : Dd := ⟨af "grown_rows", "grown_rows", "grown_rows", defArgs s_grownrows, defBody s_grownrows, defScope s_grownrows, [], []⟩
def d_Bandinit : Dd := ⟨af "Band.__init__", "__init__", "Band.__init__", defArgs s_Bandinit, defBody s_Bandinit, defScope s_Bandinit, [], [("most", .int 800)]⟩
def d_Bandnames : Dd := ⟨af "Band.names", "names", "Band.names", defArgs s_Bandnames, defBody s_Bandnames, defScope s_Bandnames, [], []⟩
def d_Bandblankrow : Dd := ⟨af "Band.blank_row", "blank_row", "Band.blank_row", defArgs s_Bandblankrow, defBody s_Bandblankrow, defScope s_Bandblankrow, [], []⟩
def d_Bandcheckrow : Dd := ⟨af "Band.check_row", "check_row", "Band.check_row", defArgs s_Bandcheckrow, defBody s_Bandcheckrow, defScope s_Bandcheckrow, [], []⟩
def d_newesttellers : Dd := ⟨af "newest_tellers", "newest_tellers", "newest_tellers", defArgs s_newesttellers, defBody s_newesttellers, defScope s_newesttellers, [], []⟩
def d_Streaminit : Dd := ⟨af "Stream.__init__", "__init__", "Stream.__init__", defArgs s_Streaminit, defBody s_Streaminit, defScope s_Streaminit, [.ref (af "()")], []⟩
def d_Streamstanding : Dd := ⟨af "Stream.standing", "standing", "Stream.standing", defArgs s_Streamstanding, defBody s_Streamstanding, defScope s_Streamstanding, [], []⟩
def d_Streamsparecount : Dd := ⟨af "Stream.spare_count", "spare_count", "Stream.spare_count", defArgs s_Streamsparecount, defBody s_Streamsparecount, defScope s_Streamsparecount, [], []⟩
def d_Streamrows : Dd := ⟨af "Stream.rows", "rows", "Stream.rows", defArgs s_Streamrows, defBody s_Streamrows, defScope s_Streamrows, [], []⟩
def d_Streamput : Dd := ⟨af "Stream.put", "put", "Stream.put", defArgs s_Streamput, defBody s_Streamput, defScope s_Streamput, [], []⟩
def d_Streamwindow : Dd := ⟨af "Stream.window", "window", "Stream.window", defArgs s_Streamwindow, defBody s_Streamwindow, defScope s_Streamwindow, [], [("start", .int 1), ("end", .non)]⟩
def d_Streamtellers : Dd := ⟨af "Stream.tellers", "tellers", "Stream.tellers", defArgs s_Streamtellers, defBody s_Streamtellers, defScope s_Streamtellers, [], [("start", .int 1), ("end", .non)]⟩
def d_Streamendof : Dd := ⟨af "Stream.end_of", "end_of", "Stream.end_of", defArgs s_Streamendof, defBody s_Streamendof, defScope s_Streamendof, [], []⟩
def d_Streamends : Dd := ⟨af "Stream.ends", "ends", "Stream.ends", defArgs s_Streamends, defBody s_Streamends, defScope s_Streamends, [], []⟩
def d_Streamtwin : Dd := ⟨af "Stream.twin", "twin", "Stream.twin", defArgs s_Streamtwin, defBody s_Streamtwin, defScope s_Streamtwin, [], []⟩
def d_Streamlen : Dd := ⟨af "Stream.__len__", "__len__", "Stream.__len__", defArgs s_Streamlen, defBody s_Streamlen, defScope s_Streamlen, [], []⟩
def d_Streambool : Dd := ⟨af "Stream.__bool__", "__bool__", "Stream.__bool__", defArgs s_Streambool, defBody s_Streambool, defScope s_Streambool, [], []⟩
def d_Streamrepr : Dd := ⟨af "Stream.__repr__", "__repr__", "Stream.__repr__", defArgs s_Streamrepr, defBody s_Streamrepr, defScope s_Streamrepr, [], []⟩
def d_Streamcheckmoment : Dd := ⟨af "Stream.check_moment", "check_moment", "Stream.check_moment", defArgs s_Streamcheckmoment, defBody s_Streamcheckmoment, defScope s_Streamcheckmoment, [], []⟩
def d_Streamlastmoment : Dd := ⟨af "Stream.last_moment", "last_moment", "Stream.last_moment", defArgs s_Streamlastmoment, defBody s_Streamlastmoment, defScope s_Streamlastmoment, [], []⟩
def d_Streamwindowrow : Dd := ⟨af "Stream.window_row", "window_row", "Stream.window_row", defArgs s_Streamwindowrow, defBody s_Streamwindowrow, defScope s_Streamwindowrow, [], []⟩
def d_wbag : Dd := ⟨af "_law_bag", "_law_bag", "_law_bag", defArgs s_wbag, defBody s_wbag, defScope s_wbag, [], []⟩
def d_wdraw : Dd := ⟨af "_law_draw", "_law_draw", "_law_draw", defArgs s_wdraw, defBody s_wdraw, defScope s_wdraw, [], []⟩
def d_wof : Dd := ⟨af "_law_of", "_law_of", "_law_of", defArgs s_wof, defBody s_wof, defScope s_wof, [], []⟩
def d_wsame : Dd := ⟨af "_law_same", "_law_same", "_law_same", defArgs s_wsame, defBody s_wsame, defScope s_wsame, [], []⟩
def d_wword : Dd := ⟨af "_law_word", "_law_word", "_law_word", defArgs s_wword, defBody s_wword, defScope s_wword, [], []⟩
def d_wframe : Dd := ⟨af "_law_frame", "_law_frame", "_law_frame", defArgs s_wframe, defBody s_wframe, defScope s_wframe, [], []⟩
def d_wseed : Dd := ⟨af "_law_seed", "_law_seed", "_law_seed", defArgs s_wseed, defBody s_wseed, defScope s_wseed, [], []⟩
def d_wmended : Dd := ⟨af "_law_mended", "_law_mended", "_law_mended", defArgs s_wmended, defBody s_wmended, defScope s_wmended, [], []⟩
def d_wover : Dd := ⟨af "_law_over", "_law_over", "_law_over", defArgs s_wover, defBody s_wover, defScope s_wover, [], []⟩
def d_wclosed : Dd := ⟨af "_law_closed", "_law_closed", "_law_closed", defArgs s_wclosed, defBody s_wclosed, defScope s_wclosed, [], []⟩
def d_whome : Dd := ⟨af "_law_home", "_law_home", "_law_home", defArgs s_whome, defBody s_whome, defScope s_whome, [], []⟩
def d_wline : Dd := ⟨af "_law_line", "_law_line", "_law_line", defArgs s_wline, defBody s_wline, defScope s_wline, [], []⟩
def d_wpast : Dd := ⟨af "_law_past", "_law_past", "_law_past", defArgs s_wpast, defBody s_wpast, defScope s_wpast, [], []⟩
def d_wstanding : Dd := ⟨af "_law_standing", "_law_standing", "_law_standing", defArgs s_wstanding, defBody s_wstanding, defScope s_wstanding, [], []⟩
def d_wtellers : Dd := ⟨af "_law_tellers", "_law_tellers", "_law_tellers", defArgs s_wtellers, defBody s_wtellers, defScope s_wtellers, [], []⟩
def d_wend : Dd := ⟨af "_law_end", "_law_end", "_law_end", defArgs s_wend, defBody s_wend, defScope s_wend, [], []⟩
def d_wfacts : Dd := ⟨af "_law_facts", "_law_facts", "_law_facts", defArgs s_wfacts, defBody s_wfacts, defScope s_wfacts, [], []⟩
def d_wduefacts : Dd := ⟨af "_law_due_facts", "_law_due_facts", "_law_due_facts", defArgs s_wduefacts, defBody s_wduefacts, defScope s_wduefacts, [], []⟩
def d_wis : Dd := ⟨af "_law_is", "_law_is", "_law_is", defArgs s_wis, defBody s_wis, defScope s_wis, [], []⟩
def d_wwrong : Dd := ⟨af "_law_wrong", "_law_wrong", "_law_wrong", defArgs s_wwrong, defBody s_wwrong, defScope s_wwrong, [], []⟩
def d_wany : Dd := ⟨af "_law_any", "_law_any", "_law_any", defArgs s_wany, defBody s_wany, defScope s_wany, [], []⟩
def d_woddline : Dd := ⟨af "_law_odd_line", "_law_odd_line", "_law_odd_line", defArgs s_woddline, defBody s_woddline, defScope s_woddline, [], []⟩
def d_wsomeline : Dd := ⟨af "_law_some_line", "_law_some_line", "_law_some_line", defArgs s_wsomeline, defBody s_wsomeline, defScope s_wsomeline, [], []⟩
def d_wsomespot : Dd := ⟨af "_law_some_spot", "_law_some_spot", "_law_some_spot", defArgs s_wsomespot, defBody s_wsomespot, defScope s_wsomespot, [], []⟩
def d_wasksuntil : Dd := ⟨af "_law_asks_until", "_law_asks_until", "_law_asks_until", defArgs s_wasksuntil, defBody s_wasksuntil, defScope s_wasksuntil, [], []⟩
def d_wasksseen : Dd := ⟨af "_law_asks_seen", "_law_asks_seen", "_law_asks_seen", defArgs s_wasksseen, defBody s_wasksseen, defScope s_wasksseen, [], []⟩
def d_wuntil : Dd := ⟨af "_law_until", "_law_until", "_law_until", defArgs s_wuntil, defBody s_wuntil, defScope s_wuntil, [], []⟩
def d_wfullso : Dd := ⟨af "_law_full_so", "_law_full_so", "_law_full_so", defArgs s_wfullso, defBody s_wfullso, defScope s_wfullso, [], []⟩
def d_law : Dd := ⟨af "law", "law", "law", defArgs s_law, defBody s_law, defScope s_law, [], []⟩
def d_BadRowinit : Dd := ⟨af "BadRow.__init__", "__init__", "BadRow.__init__", defArgs s_BadRowinit, defBody s_BadRowinit, defScope s_BadRowinit, [], []⟩
def d_NotInBandinit : Dd := ⟨af "NotInBand.__init__", "__init__", "NotInBand.__init__", defArgs s_NotInBandinit, defBody s_NotInBandinit, defScope s_NotInBandinit, [], []⟩
def d_NoMomentinit : Dd := ⟨af "NoMoment.__init__", "__init__", "NoMoment.__init__", defArgs s_NoMomentinit, defBody s_NoMomentinit, defScope s_NoMomentinit, [], []⟩
def fns0 : List Dd := [d_isname, d_isnumber, d_newestat, d_nextat, d_seen, d_showsuntil, d_latestidle, d_checkcells, d_isrow, d_over, d_lotof, d_blank, d_within, d_union, d_lotsize, d_orderedlots, d_checkseeds, d_grownrows, d_Bandinit, d_Bandnames, d_Bandblankrow, d_Bandcheckrow, d_newesttellers, d_Streaminit, d_Streamstanding, d_Streamsparecount, d_Streamrows, d_Streamput, d_Streamwindow, d_Streamtellers]
def fns1 : List Dd := [d_Streamendof, d_Streamends, d_Streamtwin, d_Streamlen, d_Streambool, d_Streamrepr, d_Streamcheckmoment, d_Streamlastmoment, d_Streamwindowrow, d_wbag, d_wdraw, d_wof, d_wsame, d_wword, d_wframe, d_wseed, d_wmended, d_wover, d_wclosed, d_whome, d_wline, d_wpast, d_wstanding, d_wtellers, d_wend, d_wfacts, d_wduefacts, d_wis, d_wwrong, d_wany]
def fns2 : List Dd := [d_woddline, d_wsomeline, d_wsomespot, d_wasksuntil, d_wasksseen, d_wuntil, d_wfullso, d_law, d_BadRowinit, d_NotInBandinit, d_NoMomentinit]
def fns : List Dd := fns0 ++ (fns1 ++ (fns2))
def cks0 : List Ck := [.glo "is_name" (af "is_name"), .glo "is_number" (af "is_number"), .glo "newest_at" (af "newest_at"), .glo "next_at" (af "next_at"), .glo "seen" (af "seen"), .glo "shows_until" (af "shows_until"), .glo "latest_idle" (af "latest_idle"), .glo "check_cells" (af "check_cells"), .glo "is_row" (af "is_row"), .glo "over" (af "over"), .glo "lot_of" (af "lot_of"), .glo "blank" (af "blank"), .glo "within" (af "within"), .glo "union" (af "union"), .glo "lot_size" (af "lot_size"), .glo "ordered_lots" (af "ordered_lots"), .glo "check_seeds" (af "check_seeds"), .glo "grown_rows" (af "grown_rows"), .meth (ac "Band") "names" (af "Band.names"), .meth (ac "Band") "blank_row" (af "Band.blank_row"), .meth (ac "Band") "check_row" (af "Band.check_row"), .glo "newest_tellers" (af "newest_tellers"), .prop (ac "Stream") "standing" (ac "Stream.standing") (af "Stream.standing"), .prop (ac "Stream") "spare_count" (ac "Stream.spare_count") (af "Stream.spare_count"), .meth (ac "Stream") "rows" (af "Stream.rows"), .meth (ac "Stream") "put" (af "Stream.put"), .meth (ac "Stream") "window" (af "Stream.window"), .meth (ac "Stream") "tellers" (af "Stream.tellers"), .meth (ac "Stream") "end_of" (af "Stream.end_of"), .meth (ac "Stream") "ends" (af "Stream.ends")]
def cks1 : List Ck := [.meth (ac "Stream") "twin" (af "Stream.twin"), .meth (ac "Stream") "__len__" (af "Stream.__len__"), .meth (ac "Stream") "__bool__" (af "Stream.__bool__"), .meth (ac "Stream") "__repr__" (af "Stream.__repr__"), .meth (ac "Stream") "check_moment" (af "Stream.check_moment"), .meth (ac "Stream") "last_moment" (af "Stream.last_moment"), .meth (ac "Stream") "window_row" (af "Stream.window_row"), .glo "_law_bag" (af "_law_bag"), .glo "_law_draw" (af "_law_draw"), .glo "_law_of" (af "_law_of"), .glo "_law_same" (af "_law_same"), .glo "_law_word" (af "_law_word"), .glo "_law_frame" (af "_law_frame"), .glo "_law_seed" (af "_law_seed"), .glo "_law_mended" (af "_law_mended"), .glo "_law_over" (af "_law_over"), .glo "_law_closed" (af "_law_closed"), .glo "_law_home" (af "_law_home"), .glo "_law_line" (af "_law_line"), .glo "_law_past" (af "_law_past"), .glo "_law_standing" (af "_law_standing"), .glo "_law_tellers" (af "_law_tellers"), .glo "_law_end" (af "_law_end"), .glo "_law_facts" (af "_law_facts"), .glo "_law_due_facts" (af "_law_due_facts"), .glo "_law_is" (af "_law_is"), .glo "_law_wrong" (af "_law_wrong"), .glo "_law_any" (af "_law_any"), .glo "_law_odd_line" (af "_law_odd_line"), .glo "_law_some_line" (af "_law_some_line")]
def cks2 : List Ck := [.glo "_law_some_spot" (af "_law_some_spot"), .glo "_law_asks_until" (af "_law_asks_until"), .glo "_law_asks_seen" (af "_law_asks_seen"), .glo "_law_until" (af "_law_until"), .glo "_law_full_so" (af "_law_full_so"), .glo "law" (af "law"), .cls (ac "Band"), .mk (ac "Band") (af "Band.__init__"), .glo "Band" (ac "Band"), .cls (ac "Stream"), .mk (ac "Stream") (af "Stream.__init__"), .glo "Stream" (ac "Stream"), .noat (ac "Band") "cell_list", .noat (ac "Band") "seed_list", .noat (ac "Band") "row_list", .noat (ac "Band") "known_rows", .noat (ac "Band") "lot_list", .noat (ac "Stream") "band", .noat (ac "Stream") "row_list", .oexC (ac "BadRow"), .glo "BadRow" (ac "BadRow"), .init (ac "BadRow") (af "BadRow.__init__"), .typ (af "BadRow.__init__"), .noat (ac "BadRow") "row", .noat (ac "BadRow") "code", .xf (ac "BadRow"), .oexL (ac "NotInBand"), .glo "NotInBand" (ac "NotInBand"), .init (ac "NotInBand") (af "NotInBand.__init__"), .typ (af "NotInBand.__init__")]
def cks3 : List Ck := [.noat (ac "NotInBand") "row", .noat (ac "NotInBand") "code", .xf (ac "NotInBand"), .oexL (ac "NoMoment"), .glo "NoMoment" (ac "NoMoment"), .init (ac "NoMoment") (af "NoMoment.__init__"), .typ (af "NoMoment.__init__"), .noat (ac "NoMoment") "moment", .noat (ac "NoMoment") "code", .xf (ac "NoMoment"), .exm (ac "NoMoment") (ac "NoMoment") true, .exm (ac "NotInBand") (ac "NoMoment") false, .exm (ac "NotInBand") (ac "NotInBand") true, .exm (ac "BadRow") (ac "NoMoment") false, .exm (ac "BadRow") (ac "NotInBand") false, .exm (ac "BadRow") (ac "BadRow") true, .fa (.free "isinstance"), .fa (.free "len"), .fa (.free "abs"), .fa (.free "all"), .fa (.free "max"), .fa (.free "min"), .fa (.free "repr"), .fa (.free "sorted"), .fa (.free "range"), .fa (.free "enumerate"), .fa (.free "zip"), .fa (.free "str"), .fa (.free "int"), .fa (.free "bool")]
def cks4 : List Ck := [.fa (.free "list"), .fa (.free "tuple"), .fa (.free "dict"), .fa (.free "set"), .fa (.str "LETTERS" "abcdefghijklmnopqrstuvwxyz"), .fa (.int "MOST_ROWS" 800), .fa (.int "MOST_SEEDS" 30), .fa (.int "MOST_CELLS" 12), .fa (.int "MOST_VALUES" 4), .fa (.int "MOST_MOMENTS" 400)]
def cks : List Ck := cks0 ++ (cks1 ++ (cks2 ++ (cks3 ++ (cks4))))
def adl0 : List Addr := [mainGlobals, 30, 31, 85, 86, 88, 89, 176, 177, 193, 194, 196, 197, 212, 213, 215, 216, 222, 223, 229, 230, 236, 237, 243, 244, 250, 251, 257, 258, 264]
def adl1 : List Addr := [265, 298, 299, 303, 304, 308, 309, 313, 314, 320, 321, 325, 326, 330, 331, 337, 338, 344, 345, 383, 384, 390, 391, 399, 403, 404, 422, 423, 458, 459]
def adl2 : List Addr := [480, 481, 580, 581, 591, 592, 600, 601, 607, 608, 614, 615, 616, 622, 623, 624, 630, 631, 672, 673, 695, 701, 702, 703, 707, 708, 712, 713, 717, 718]
def adl3 : List Addr := [738, 739, 759, 760, 766, 767, 773, 774, 780, 781, 787, 788, 794, 795, 797, 798, 808, 809, 815, 816, 822, 823, 827, 828, 834, 835, 839, 840, 846, 847]
def adl4 : List Addr := [851, 852, 856, 857, 863, 864, 870, 871, 877, 878, 884, 885, 889, 890, 894, 895, 899, 900, 906, 907, 911, 912, 918, 919, 925, 926, 932, 933, 937, 938]
def adl5 : List Addr := [944, 945, 951, 952, 958, 959, 965, 966, 972, 973, 977, 978, 982, 983]
def adl : List Addr := adl0 ++ (adl1 ++ (adl2 ++ (adl3 ++ (adl4 ++ (adl5)))))
def nm0 : List Str := ["_wall", "TellsError", "BadCells", "BadSeed", "BadRow", "BadNumber", "TooMany", "Untold", "InvalidText", "Missing", "NotInBand", "NoMoment", "LETTERS", "is_name", "is_number", "newest_at", "next_at", "seen", "shows_until", "latest_idle", "COUNTS", "cell_of", "seed_of", "leading_cells", "leading_seeds", "MOST_ROWS", "MOST_SEEDS", "MOST_CELLS", "MOST_VALUES", "check_cells"]
def nm1 : List Str := ["is_row", "over", "lot_of", "blank", "within", "union", "lot_size", "ordered_lots", "new_places", "can_take", "first_to_take", "taking", "bar_lines", "come", "come_coming", "check_seeds", "grown_rows", "Band", "newest_tellers", "MOST_MOMENTS", "Stream", "_law_bag", "_law_draw", "_law_of", "_law_same", "_law_word", "_law_frame", "_law_seed", "_law_mended", "_law_over"]
def nm2 : List Str := ["_law_closed", "_law_home", "_law_line", "_law_past", "_law_standing", "_law_tellers", "_law_end", "_law_facts", "_law_due_facts", "_law_is", "_law_wrong", "_law_any", "_law_odd_line", "_law_some_line", "_law_some_spot", "_law_asks_until", "_law_asks_seen", "_law_until", "_law_full_so"]
def loose : List Str := nm0 ++ (nm1 ++ (nm2))
abbrev R : PySem.W.OpenRow := PySem.W.OpenLaw.row PySem.Challenge.rw_newesttells_k35_whole_shows_until
abbrev hk : PySem.W.Hook := hookA adl cks fns
def ob (s : PySem.W.SharedT) : He.AlD := obsA cks fns (He.frG (HandSHeadRun.getT s) adl)
theorem ob_eq (s : PySem.W.SharedT) : ob s = hk.obs s.abs := obsA_eq (HandSHeadRun.getT_eq s)
theorem run (w : World) : HandSHeadRun.RunEq R (PySem.W.view R.prog [89]) hk ob 8000 loose w := by
  intro os
  kernel_rfl
end Nh
end
section
set_option Elab.async false
set_option linter.all false
set_option maxRecDepth 100000
set_option maxHeartbeats 0
namespace Nh
open PySem PySem.Spec PyProof.Rows L2 Nt
abbrev adOf (K : PySem.W.Frag) : Ad := ⟨fun n => af n, fun n => fdA K (af n), fun n => ac n⟩
theorem tx_of {K : PySem.W.Frag} {h : Heap} {mg : Str → Option Value} (X : K.In h) (G : h.Ns mainGlobals mg) (c : SaysA cks fns K) : Tx K mg (adOf K) := {
  F_isname := c.def_ 0 (d := d_isname) (by kernel_rfl),
  g_isname := glo_ok X G (c.fact 0 (f := .glo "is_name" (af "is_name")) (by kernel_rfl)),
  F_isnumber := c.def_ 1 (d := d_isnumber) (by kernel_rfl),
  g_isnumber := glo_ok X G (c.fact 1 (f := .glo "is_number" (af "is_number")) (by kernel_rfl)),
  F_newestat := c.def_ 2 (d := d_newestat) (by kernel_rfl),
  g_newestat := glo_ok X G (c.fact 2 (f := .glo "newest_at" (af "newest_at")) (by kernel_rfl)),
  F_nextat := c.def_ 3 (d := d_nextat) (by kernel_rfl),
  g_nextat := glo_ok X G (c.fact 3 (f := .glo "next_at" (af "next_at")) (by kernel_rfl)),
  F_seen := c.def_ 4 (d := d_seen) (by kernel_rfl),
  g_seen := glo_ok X G (c.fact 4 (f := .glo "seen" (af "seen")) (by kernel_rfl)),
  F_showsuntil := c.def_ 5 (d := d_showsuntil) (by kernel_rfl),
  g_showsuntil := glo_ok X G (c.fact 5 (f := .glo "shows_until" (af "shows_until")) (by kernel_rfl)),
  F_latestidle := c.def_ 6 (d := d_latestidle) (by kernel_rfl),
  g_latestidle := glo_ok X G (c.fact 6 (f := .glo "latest_idle" (af "latest_idle")) (by kernel_rfl)),
  F_checkcells := c.def_ 7 (d := d_checkcells) (by kernel_rfl),
  g_checkcells := glo_ok X G (c.fact 7 (f := .glo "check_cells" (af "check_cells")) (by kernel_rfl)),
  F_isrow := c.def_ 8 (d := d_isrow) (by kernel_rfl),
  g_isrow := glo_ok X G (c.fact 8 (f := .glo "is_row" (af "is_row")) (by kernel_rfl)),
  F_over := c.def_ 9 (d := d_over) (by kernel_rfl),
  g_over := glo_ok X G (c.fact 9 (f := .glo "over" (af "over")) (by kernel_rfl)),
  F_lotof := c.def_ 10 (d := d_lotof) (by kernel_rfl),
  g_lotof := glo_ok X G (c.fact 10 (f := .glo "lot_of" (af "lot_of")) (by kernel_rfl)),
  F_blank := c.def_ 11 (d := d_blank) (by kernel_rfl),
  g_blank := glo_ok X G (c.fact 11 (f := .glo "blank" (af "blank")) (by kernel_rfl)),
  F_within := c.def_ 12 (d := d_within) (by kernel_rfl),
  g_within := glo_ok X G (c.fact 12 (f := .glo "within" (af "within")) (by kernel_rfl)),
  F_union := c.def_ 13 (d := d_union) (by kernel_rfl),
  g_union := glo_ok X G (c.fact 13 (f := .glo "union" (af "union")) (by kernel_rfl)),
  F_lotsize := c.def_ 14 (d := d_lotsize) (by kernel_rfl),
  g_lotsize := glo_ok X G (c.fact 14 (f := .glo "lot_size" (af "lot_size")) (by kernel_rfl)),
  F_orderedlots := c.def_ 15 (d := d_orderedlots) (by kernel_rfl),
  g_orderedlots := glo_ok X G (c.fact 15 (f := .glo "ordered_lots" (af "ordered_lots")) (by kernel_rfl)),
  F_checkseeds := c.def_ 16 (d := d_checkseeds) (by kernel_rfl),
  g_checkseeds := glo_ok X G (c.fact 16 (f := .glo "check_seeds" (af "check_seeds")) (by kernel_rfl)),
  F_grownrows := c.def_ 17 (d := d_grownrows) (by kernel_rfl),
  g_grownrows := glo_ok X G (c.fact 17 (f := .glo "grown_rows" (af "grown_rows")) (by kernel_rfl)),
  F_Bandinit := c.def_ 18 (d := d_Bandinit) (by kernel_rfl),
  F_Bandnames := c.def_ 19 (d := d_Bandnames) (by kernel_rfl),
  m_Bandnames := meth_ok (c.fact 18 (f := .meth (ac "Band") "names" (af "Band.names")) (by kernel_rfl)),
  F_Bandblankrow := c.def_ 20 (d := d_Bandblankrow) (by kernel_rfl),
  m_Bandblankrow := meth_ok (c.fact 19 (f := .meth (ac "Band") "blank_row" (af "Band.blank_row")) (by kernel_rfl)),
  F_Bandcheckrow := c.def_ 21 (d := d_Bandcheckrow) (by kernel_rfl),
  m_Bandcheckrow := meth_ok (c.fact 20 (f := .meth (ac "Band") "check_row" (af "Band.check_row")) (by kernel_rfl)),
  F_newesttellers := c.def_ 22 (d := d_newesttellers) (by kernel_rfl),
  g_newesttellers := glo_ok X G (c.fact 21 (f := .glo "newest_tellers" (af "newest_tellers")) (by kernel_rfl)),
  F_Streaminit := c.def_ 23 (d := d_Streaminit) (by kernel_rfl),
  F_Streamstanding := c.def_ 24 (d := d_Streamstanding) (by kernel_rfl),
  p_Streamstanding := prop_ok (c.fact 22 (f := .prop (ac "Stream") "standing" (ac "Stream.standing") (af "Stream.standing")) (by kernel_rfl)),
  F_Streamsparecount := c.def_ 25 (d := d_Streamsparecount) (by kernel_rfl),
  p_Streamsparecount := prop_ok (c.fact 23 (f := .prop (ac "Stream") "spare_count" (ac "Stream.spare_count") (af "Stream.spare_count")) (by kernel_rfl)),
  F_Streamrows := c.def_ 26 (d := d_Streamrows) (by kernel_rfl),
  m_Streamrows := meth_ok (c.fact 24 (f := .meth (ac "Stream") "rows" (af "Stream.rows")) (by kernel_rfl)),
  F_Streamput := c.def_ 27 (d := d_Streamput) (by kernel_rfl),
  m_Streamput := meth_ok (c.fact 25 (f := .meth (ac "Stream") "put" (af "Stream.put")) (by kernel_rfl)),
  F_Streamwindow := c.def_ 28 (d := d_Streamwindow) (by kernel_rfl),
  m_Streamwindow := meth_ok (c.fact 26 (f := .meth (ac "Stream") "window" (af "Stream.window")) (by kernel_rfl)),
  F_Streamtellers := c.def_ 29 (d := d_Streamtellers) (by kernel_rfl),
  m_Streamtellers := meth_ok (c.fact 27 (f := .meth (ac "Stream") "tellers" (af "Stream.tellers")) (by kernel_rfl)),
  F_Streamendof := c.def_ 30 (d := d_Streamendof) (by kernel_rfl),
  m_Streamendof := meth_ok (c.fact 28 (f := .meth (ac "Stream") "end_of" (af "Stream.end_of")) (by kernel_rfl)),
  F_Streamends := c.def_ 31 (d := d_Streamends) (by kernel_rfl),
  m_Streamends := meth_ok (c.fact 29 (f := .meth (ac "Stream") "ends" (af "Stream.ends")) (by kernel_rfl)),
  F_Streamtwin := c.def_ 32 (d := d_Streamtwin) (by kernel_rfl),
  m_Streamtwin := meth_ok (c.fact 30 (f := .meth (ac "Stream") "twin" (af "Stream.twin")) (by kernel_rfl)),
  F_Streamlen := c.def_ 33 (d := d_Streamlen) (by kernel_rfl),
  m_Streamlen := meth_ok (c.fact 31 (f := .meth (ac "Stream") "__len__" (af "Stream.__len__")) (by kernel_rfl)),
  F_Streambool := c.def_ 34 (d := d_Streambool) (by kernel_rfl),
  m_Streambool := meth_ok (c.fact 32 (f := .meth (ac "Stream") "__bool__" (af "Stream.__bool__")) (by kernel_rfl)),
  F_Streamrepr := c.def_ 35 (d := d_Streamrepr) (by kernel_rfl),
  m_Streamrepr := meth_ok (c.fact 33 (f := .meth (ac "Stream") "__repr__" (af "Stream.__repr__")) (by kernel_rfl)),
  F_Streamcheckmoment := c.def_ 36 (d := d_Streamcheckmoment) (by kernel_rfl),
  m_Streamcheckmoment := meth_ok (c.fact 34 (f := .meth (ac "Stream") "check_moment" (af "Stream.check_moment")) (by kernel_rfl)),
  F_Streamlastmoment := c.def_ 37 (d := d_Streamlastmoment) (by kernel_rfl),
  m_Streamlastmoment := meth_ok (c.fact 35 (f := .meth (ac "Stream") "last_moment" (af "Stream.last_moment")) (by kernel_rfl)),
  F_Streamwindowrow := c.def_ 38 (d := d_Streamwindowrow) (by kernel_rfl),
  m_Streamwindowrow := meth_ok (c.fact 36 (f := .meth (ac "Stream") "window_row" (af "Stream.window_row")) (by kernel_rfl)),
  F_wbag := c.def_ 39 (d := d_wbag) (by kernel_rfl),
  g_wbag := glo_ok X G (c.fact 37 (f := .glo "_law_bag" (af "_law_bag")) (by kernel_rfl)),
  F_wdraw := c.def_ 40 (d := d_wdraw) (by kernel_rfl),
  g_wdraw := glo_ok X G (c.fact 38 (f := .glo "_law_draw" (af "_law_draw")) (by kernel_rfl)),
  F_wof := c.def_ 41 (d := d_wof) (by kernel_rfl),
  g_wof := glo_ok X G (c.fact 39 (f := .glo "_law_of" (af "_law_of")) (by kernel_rfl)),
  F_wsame := c.def_ 42 (d := d_wsame) (by kernel_rfl),
  g_wsame := glo_ok X G (c.fact 40 (f := .glo "_law_same" (af "_law_same")) (by kernel_rfl)),
  F_wword := c.def_ 43 (d := d_wword) (by kernel_rfl),
  g_wword := glo_ok X G (c.fact 41 (f := .glo "_law_word" (af "_law_word")) (by kernel_rfl)),
  F_wframe := c.def_ 44 (d := d_wframe) (by kernel_rfl),
  g_wframe := glo_ok X G (c.fact 42 (f := .glo "_law_frame" (af "_law_frame")) (by kernel_rfl)),
  F_wseed := c.def_ 45 (d := d_wseed) (by kernel_rfl),
  g_wseed := glo_ok X G (c.fact 43 (f := .glo "_law_seed" (af "_law_seed")) (by kernel_rfl)),
  F_wmended := c.def_ 46 (d := d_wmended) (by kernel_rfl),
  g_wmended := glo_ok X G (c.fact 44 (f := .glo "_law_mended" (af "_law_mended")) (by kernel_rfl)),
  F_wover := c.def_ 47 (d := d_wover) (by kernel_rfl),
  g_wover := glo_ok X G (c.fact 45 (f := .glo "_law_over" (af "_law_over")) (by kernel_rfl)),
  F_wclosed := c.def_ 48 (d := d_wclosed) (by kernel_rfl),
  g_wclosed := glo_ok X G (c.fact 46 (f := .glo "_law_closed" (af "_law_closed")) (by kernel_rfl)),
  F_whome := c.def_ 49 (d := d_whome) (by kernel_rfl),
  g_whome := glo_ok X G (c.fact 47 (f := .glo "_law_home" (af "_law_home")) (by kernel_rfl)),
  F_wline := c.def_ 50 (d := d_wline) (by kernel_rfl),
  g_wline := glo_ok X G (c.fact 48 (f := .glo "_law_line" (af "_law_line")) (by kernel_rfl)),
  F_wpast := c.def_ 51 (d := d_wpast) (by kernel_rfl),
  g_wpast := glo_ok X G (c.fact 49 (f := .glo "_law_past" (af "_law_past")) (by kernel_rfl)),
  F_wstanding := c.def_ 52 (d := d_wstanding) (by kernel_rfl),
  g_wstanding := glo_ok X G (c.fact 50 (f := .glo "_law_standing" (af "_law_standing")) (by kernel_rfl)),
  F_wtellers := c.def_ 53 (d := d_wtellers) (by kernel_rfl),
  g_wtellers := glo_ok X G (c.fact 51 (f := .glo "_law_tellers" (af "_law_tellers")) (by kernel_rfl)),
  F_wend := c.def_ 54 (d := d_wend) (by kernel_rfl),
  g_wend := glo_ok X G (c.fact 52 (f := .glo "_law_end" (af "_law_end")) (by kernel_rfl)),
  F_wfacts := c.def_ 55 (d := d_wfacts) (by kernel_rfl),
  g_wfacts := glo_ok X G (c.fact 53 (f := .glo "_law_facts" (af "_law_facts")) (by kernel_rfl)),
  F_wduefacts := c.def_ 56 (d := d_wduefacts) (by kernel_rfl),
  g_wduefacts := glo_ok X G (c.fact 54 (f := .glo "_law_due_facts" (af "_law_due_facts")) (by kernel_rfl)),
  F_wis := c.def_ 57 (d := d_wis) (by kernel_rfl),
  g_wis := glo_ok X G (c.fact 55 (f := .glo "_law_is" (af "_law_is")) (by kernel_rfl)),
  F_wwrong := c.def_ 58 (d := d_wwrong) (by kernel_rfl),
  g_wwrong := glo_ok X G (c.fact 56 (f := .glo "_law_wrong" (af "_law_wrong")) (by kernel_rfl)),
  F_wany := c.def_ 59 (d := d_wany) (by kernel_rfl),
  g_wany := glo_ok X G (c.fact 57 (f := .glo "_law_any" (af "_law_any")) (by kernel_rfl)),
  F_woddline := c.def_ 60 (d := d_woddline) (by kernel_rfl),
  g_woddline := glo_ok X G (c.fact 58 (f := .glo "_law_odd_line" (af "_law_odd_line")) (by kernel_rfl)),
  F_wsomeline := c.def_ 61 (d := d_wsomeline) (by kernel_rfl),
  g_wsomeline := glo_ok X G (c.fact 59 (f := .glo "_law_some_line" (af "_law_some_line")) (by kernel_rfl)),
  F_wsomespot := c.def_ 62 (d := d_wsomespot) (by kernel_rfl),
  g_wsomespot := glo_ok X G (c.fact 60 (f := .glo "_law_some_spot" (af "_law_some_spot")) (by kernel_rfl)),
  F_wasksuntil := c.def_ 63 (d := d_wasksuntil) (by kernel_rfl),
  g_wasksuntil := glo_ok X G (c.fact 61 (f := .glo "_law_asks_until" (af "_law_asks_until")) (by kernel_rfl)),
  F_wasksseen := c.def_ 64 (d := d_wasksseen) (by kernel_rfl),
  g_wasksseen := glo_ok X G (c.fact 62 (f := .glo "_law_asks_seen" (af "_law_asks_seen")) (by kernel_rfl)),
  F_wuntil := c.def_ 65 (d := d_wuntil) (by kernel_rfl),
  g_wuntil := glo_ok X G (c.fact 63 (f := .glo "_law_until" (af "_law_until")) (by kernel_rfl)),
  F_wfullso := c.def_ 66 (d := d_wfullso) (by kernel_rfl),
  g_wfullso := glo_ok X G (c.fact 64 (f := .glo "_law_full_so" (af "_law_full_so")) (by kernel_rfl)),
  F_law := c.def_ 67 (d := d_law) (by kernel_rfl),
  g_law := glo_ok X G (c.fact 65 (f := .glo "law" (af "law")) (by kernel_rfl)),
  c_Band := cls_ok (c.fact 66 (f := .cls (ac "Band")) (by kernel_rfl)),
  mk_Band := mk_ok (c.fact 67 (f := .mk (ac "Band") (af "Band.__init__")) (by kernel_rfl)),
  g_Band := glo_ok X G (c.fact 68 (f := .glo "Band" (ac "Band")) (by kernel_rfl)),
  c_Stream := cls_ok (c.fact 69 (f := .cls (ac "Stream")) (by kernel_rfl)),
  mk_Stream := mk_ok (c.fact 70 (f := .mk (ac "Stream") (af "Stream.__init__")) (by kernel_rfl)),
  g_Stream := glo_ok X G (c.fact 71 (f := .glo "Stream" (ac "Stream")) (by kernel_rfl)),
  na_cell_list := noat_ok (c.fact 72 (f := .noat (ac "Band") "cell_list") (by kernel_rfl)),
  na_seed_list := noat_ok (c.fact 73 (f := .noat (ac "Band") "seed_list") (by kernel_rfl)),
  na_row_listB := noat_ok (c.fact 74 (f := .noat (ac "Band") "row_list") (by kernel_rfl)),
  na_known_rows := noat_ok (c.fact 75 (f := .noat (ac "Band") "known_rows") (by kernel_rfl)),
  na_lot_list := noat_ok (c.fact 76 (f := .noat (ac "Band") "lot_list") (by kernel_rfl)),
  na_band := noat_ok (c.fact 77 (f := .noat (ac "Stream") "band") (by kernel_rfl)),
  na_row_listS := noat_ok (c.fact 78 (f := .noat (ac "Stream") "row_list") (by kernel_rfl)),
  F_BadRowinit := c.def_ 68 (d := d_BadRowinit) (by kernel_rfl),
  x_BadRow := oexC_ok (c.fact 79 (f := .oexC (ac "BadRow")) (by kernel_rfl)),
  g_BadRow := glo_ok X G (c.fact 80 (f := .glo "BadRow" (ac "BadRow")) (by kernel_rfl)),
  i_BadRow := init_ok (c.fact 81 (f := .init (ac "BadRow") (af "BadRow.__init__")) (by kernel_rfl)),
  t_BadRow := typ_ok (c.fact 82 (f := .typ (af "BadRow.__init__")) (by kernel_rfl)),
  n_BadRow_row := none_ok (c.fact 83 (f := .noat (ac "BadRow") "row") (by kernel_rfl)),
  n_BadRow_code := none_ok (c.fact 84 (f := .noat (ac "BadRow") "code") (by kernel_rfl)),
  xf_BadRow := xf_ok (c.fact 85 (f := .xf (ac "BadRow")) (by kernel_rfl)),
  F_NotInBandinit := c.def_ 69 (d := d_NotInBandinit) (by kernel_rfl),
  x_NotInBand := oexL_ok (c.fact 86 (f := .oexL (ac "NotInBand")) (by kernel_rfl)),
  g_NotInBand := glo_ok X G (c.fact 87 (f := .glo "NotInBand" (ac "NotInBand")) (by kernel_rfl)),
  i_NotInBand := init_ok (c.fact 88 (f := .init (ac "NotInBand") (af "NotInBand.__init__")) (by kernel_rfl)),
  t_NotInBand := typ_ok (c.fact 89 (f := .typ (af "NotInBand.__init__")) (by kernel_rfl)),
  n_NotInBand_row := none_ok (c.fact 90 (f := .noat (ac "NotInBand") "row") (by kernel_rfl)),
  n_NotInBand_code := none_ok (c.fact 91 (f := .noat (ac "NotInBand") "code") (by kernel_rfl)),
  xf_NotInBand := xf_ok (c.fact 92 (f := .xf (ac "NotInBand")) (by kernel_rfl)),
  F_NoMomentinit := c.def_ 70 (d := d_NoMomentinit) (by kernel_rfl),
  x_NoMoment := oexL_ok (c.fact 93 (f := .oexL (ac "NoMoment")) (by kernel_rfl)),
  g_NoMoment := glo_ok X G (c.fact 94 (f := .glo "NoMoment" (ac "NoMoment")) (by kernel_rfl)),
  i_NoMoment := init_ok (c.fact 95 (f := .init (ac "NoMoment") (af "NoMoment.__init__")) (by kernel_rfl)),
  t_NoMoment := typ_ok (c.fact 96 (f := .typ (af "NoMoment.__init__")) (by kernel_rfl)),
  n_NoMoment_moment := none_ok (c.fact 97 (f := .noat (ac "NoMoment") "moment") (by kernel_rfl)),
  n_NoMoment_code := none_ok (c.fact 98 (f := .noat (ac "NoMoment") "code") (by kernel_rfl)),
  xf_NoMoment := xf_ok (c.fact 99 (f := .xf (ac "NoMoment")) (by kernel_rfl)),
  em_NoMoment_NoMoment := exm_ok (c.fact 100 (f := .exm (ac "NoMoment") (ac "NoMoment") true) (by kernel_rfl)),
  em_NotInBand_NoMoment := exm_ok (c.fact 101 (f := .exm (ac "NotInBand") (ac "NoMoment") false) (by kernel_rfl)),
  em_NotInBand_NotInBand := exm_ok (c.fact 102 (f := .exm (ac "NotInBand") (ac "NotInBand") true) (by kernel_rfl)),
  em_BadRow_NoMoment := exm_ok (c.fact 103 (f := .exm (ac "BadRow") (ac "NoMoment") false) (by kernel_rfl)),
  em_BadRow_NotInBand := exm_ok (c.fact 104 (f := .exm (ac "BadRow") (ac "NotInBand") false) (by kernel_rfl)),
  em_BadRow_BadRow := exm_ok (c.fact 105 (f := .exm (ac "BadRow") (ac "BadRow") true) (by kernel_rfl)),
  n_isinstance := free_ok X G (c.fact 106 (f := .fa (.free "isinstance")) (by kernel_rfl)),
  n_len := free_ok X G (c.fact 107 (f := .fa (.free "len")) (by kernel_rfl)),
  n_abs := free_ok X G (c.fact 108 (f := .fa (.free "abs")) (by kernel_rfl)),
  n_all := free_ok X G (c.fact 109 (f := .fa (.free "all")) (by kernel_rfl)),
  n_max := free_ok X G (c.fact 110 (f := .fa (.free "max")) (by kernel_rfl)),
  n_min := free_ok X G (c.fact 111 (f := .fa (.free "min")) (by kernel_rfl)),
  n_repr := free_ok X G (c.fact 112 (f := .fa (.free "repr")) (by kernel_rfl)),
  n_sorted := free_ok X G (c.fact 113 (f := .fa (.free "sorted")) (by kernel_rfl)),
  n_range := free_ok X G (c.fact 114 (f := .fa (.free "range")) (by kernel_rfl)),
  n_enumerate := free_ok X G (c.fact 115 (f := .fa (.free "enumerate")) (by kernel_rfl)),
  n_zip := free_ok X G (c.fact 116 (f := .fa (.free "zip")) (by kernel_rfl)),
  n_str := free_ok X G (c.fact 117 (f := .fa (.free "str")) (by kernel_rfl)),
  n_int := free_ok X G (c.fact 118 (f := .fa (.free "int")) (by kernel_rfl)),
  n_bool := free_ok X G (c.fact 119 (f := .fa (.free "bool")) (by kernel_rfl)),
  n_list := free_ok X G (c.fact 120 (f := .fa (.free "list")) (by kernel_rfl)),
  n_tuple := free_ok X G (c.fact 121 (f := .fa (.free "tuple")) (by kernel_rfl)),
  n_dict := free_ok X G (c.fact 122 (f := .fa (.free "dict")) (by kernel_rfl)),
  n_set := free_ok X G (c.fact 123 (f := .fa (.free "set")) (by kernel_rfl)),
  g_LETTERS := str_ok X G (c.fact 124 (f := .fa (.str "LETTERS" "abcdefghijklmnopqrstuvwxyz")) (by kernel_rfl)),
  g_MOST_ROWS := int_ok X G (c.fact 125 (f := .fa (.int "MOST_ROWS" 800)) (by kernel_rfl)),
  g_MOST_SEEDS := int_ok X G (c.fact 126 (f := .fa (.int "MOST_SEEDS" 30)) (by kernel_rfl)),
  g_MOST_CELLS := int_ok X G (c.fact 127 (f := .fa (.int "MOST_CELLS" 12)) (by kernel_rfl)),
  g_MOST_VALUES := int_ok X G (c.fact 128 (f := .fa (.int "MOST_VALUES" 4)) (by kernel_rfl)),
  g_MOST_MOMENTS := int_ok X G (c.fact 129 (f := .fa (.int "MOST_MOMENTS" 400)) (by kernel_rfl)) }
end Nh
end
section
set_option Elab.async false
set_option linter.all false
set_option maxRecDepth 100000
set_option maxHeartbeats 0
namespace Nh
open PySem PySem.Spec PyProof.Rows L2 Nt
theorem facts {P : Program} {w : World} {K : PySem.W.Frag} {h : Heap} {mg : Str → Option Value} {f : Addr} (X : K.In h) (G : h.Ns mainGlobals mg) (hfa : mg ("law" : Str) = some (.ref f)) (c : SaysA cks fns K) :
    ∃ fd : FuncData, (∀ (s : Shared) (v : Value), BindsTo s fd ⟨[v], []⟩ [("_law_script", v)]) ∧ ∀ base : Heap, K.In base → base.Ns mainGlobals mg → FnOk P w K mg base CX0 24 f fd ["_law_script"] (spLaw K) := by
  have T := tx_of X G c
  have e := hfa.symm.trans T.g_law
  cases e
  have b := FunD.bindsA (ps := ["_law_script"]) T.F_law fun _ _ _ _ _ _ us hl => match us, hl with | [_], _ => rfl
  exact ⟨_, fun s v => b s [v] rfl, fun base _ _ => ok_law T fun T => ok_orderedlots T⟩
end Nh
open PySem PySem.W PySem.Calls PyProof.Rows
theorem PySem.Challenge.cw_newesttells_k35_whole_shows_until_holds : PySem.Challenge.rw_newesttells_k35_whole_shows_until.Holds := by
  w_on; o_law
  refine HandSHeadRun.head_any (r := OpenLaw.row PySem.Challenge.rw_newesttells_k35_whole_shows_until) (q := view (OpenLaw.row PySem.Challenge.rw_newesttells_k35_whole_shows_until).prog [89]) (H := Nh.hk) (ob := Nh.ob) (M := 8000) (loose := Nh.loose) (d := HandSHeadRun.topDef (OpenLaw.row PySem.Challenge.rw_newesttells_k35_whole_shows_until).prog 89) (kwd := []) Nh.ob_eq
    (by kernel_rfl) (fun s => by kernel_rfl) Nh.run (by kernel_rfl) (by kernel_rfl) (by kernel_rfl) (by rfl) (by first | assumption | decide +kernel) (by decide +kernel) ⟨rfl, rfl, rfl, rfl, rfl, by decide +kernel⟩ ?hw ?hc
  case hw => w_witness2
  case hc =>
    refine L2.walk_ofE (l := PySem.Challenge.rw_newesttells_k35_whole_shows_until) (n := 63) (k := 24) (x := "_law_script") (CX := L2.CX0) rfl (by decide) (by kernel_rfl) ⟨rfl, by decide, by decide⟩ ?F (fun _ _ _ _ z => z)
    intro w mg fa h Y G hmg0
    obtain ⟨K, KX, c⟩ := Y
    have hmg : mg ("law" : PySem.Str) = some (.ref fa) := by
      have e : (HandSHeadRun.topDef (OpenLaw.row PySem.Challenge.rw_newesttells_k35_whole_shows_until).prog 89).name = ("law" : PySem.Str) := by kernel_rfl
      rw [← e]
      exact hmg0
    obtain ⟨fd, hb, hF⟩ := Nh.facts (P := (PySem.Challenge.rw_newesttells_k35_whole_shows_until).prog) (w := w) KX G hmg c
    exact ⟨K, fd, Nt.spLaw K, KX, hb, fun H a ns hl _ hS => ⟨a, ns, rfl, hS, hl, fun _ => rfl⟩, hF⟩
end
