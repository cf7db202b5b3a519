import PyProof.Rows.All
import Wide.All
import OpenK.AllK
import Wide.FinOn
import HandS.ForMost
import HandS.Walk
import HandS.Zip
import KE.GoesNew
import HandS.Set
import HandS.Strs
import HandS.SetFor
import PyProof.Rows.SetFrom
import KE.SortData
import PyProof.P3In
import PyProof.ReprRoads
import PyProof.CallStr
import PyProof.Rows.RegStrFacts
import PyProof.StrLawsRepr
import HandS.Deep
import KE.SortKeyHeap
import HandS.Lambda
import HandS.SortKw
import HandS.Nested
import PyProof.Rows.IntBool
import PyProof.Rows.ListMulArg
import PyProof.ListMulAny
import KE.DataMinMax
import KE.KRevSl
import HandS.TupMul
import HandS.Style
import HandS.EndBits
import HandS.EndTab
import HandS.TupAny
import HandS.Wide
import HandS.IsInst
import HandS.Steps
import KE.GoesMore
import HandS.Conv
import PySem.Challenge.RW_quaytide_k04_whole_work_of_cranes
set_option Elab.async false
set_option linter.all false
set_option maxRecDepth 1000000
set_option maxHeartbeats 4000000
/-! QA: zip of two and of three, each a list or a tuple. -/
namespace Q
open PySem L2 PySem.Spec PyProof.Rows

/-- a list (k) or a tuple -/
def SqB (k : Bool) (K : PySem.W.Frag) (H : Hp) (a : Addr) (xs : List V) : Prop := match k with
  | true => SqL K H a xs
  | false => SqT K H a xs
def IsB (k : Bool) (h : Heap) (a : Addr) (its : Array Value) : Prop := match k with
  | true => h.IsList a its
  | false => h.IsTuple a its
def IterB (k : Bool) (h : Heap) (it a : Addr) (i : Nat) : Prop := match k with
  | true => h.IsListIter it a i
  | false => h.IsTupleIter it a i
def objB (k : Bool) (a : Addr) : Obj := match k with
  | true => { cls := .type "list_iterator", data := .fields #[.ref a, .int 0 0] }
  | false => { cls := .type "tuple_iterator", data := .fields #[.ref a, .int 0 0] }
theorem begB (k : Bool) (a : Addr) (its : Array Value) : Begins (.ref a) (objB k a) (fun h => IsB k h a its) := by
  cases k
  · exact begins_tuple a its
  · exact begins_list a its
theorem drawB {prog : Program} {w : World} {A : Around} (hh : A.handled = none) (k : Bool) (it a : Addr) (hne : a ≠ it) (its : Array Value) :
    Draws prog w A it [it, a] its.size (fun i v => its[i]? = some v) (fun i h => IterB k h it a i ∧ IsB k h a its) := by
  cases k
  · exact Draws.tuple hh it a hne its
  · exact Draws.list hh it a hne its
theorem IterB.at {k : Bool} {h h' : Heap} {it a : Addr} {i : Nat} (x : IterB k h it a i) (q : ∀ o, h.get? it = some o → h'.get? it = some o) : IterB k h' it a i := by
  cases k
  · exact Heap.IsTupleIter.at x q
  · exact Heap.IsListIter.at x q
theorem IterB.obj {k : Bool} {h : Heap} {it a : Addr} {i : Nat} (x : IterB k h it a i) : ∃ o, h.get? it = some o ∧ ∀ v, o.data ≠ .cell v := by
  cases k
  · obtain ⟨o, e, _, d⟩ := x
    exact ⟨o, e, fun v q => by rw [d] at q; cases q⟩
  · obtain ⟨o, e, _, d⟩ := x
    exact ⟨o, e, fun v q => by rw [d] at q; cases q⟩
theorem IterB.new {k : Bool} {h : Heap} {it a : Addr} (e : h.get? it = some (objB k a)) : IterB k h it a 0 := by
  cases k
  · exact ⟨_, e, rfl, rfl⟩
  · exact ⟨_, e, rfl, rfl⟩
theorem IsB.lt {k : Bool} {h : Heap} {a : Addr} {its : Array Value} (x : IsB k h a its) : a < h.objs.size := by
  cases k
  · obtain ⟨o, e, _⟩ := x
    exact Heap.lt_size e
  · obtain ⟨o, e, _⟩ := x
    exact Heap.lt_size e
section
variable {X : Cx} {pins : List (Addr × Obj)} {σ : L2.St} {H : Hp} {s : Shared} {k : Bool} {a : Addr} {xs ys : List V}
theorem seqB (I : Inv X pins σ H s) (h : SqB k X.K H a xs) : ∃ its : List Value, Vals xs its ∧ IsB k s.heap a its.toArray ∧ xs.length ≤ sizeLine := by
  cases k
  · exact I.tuple h
  · obtain ⟨its, r, p, z⟩ := I.list h
    exact ⟨its, r, p.isList, z⟩
theorem seqB_inj (I : Inv X pins σ H s) (h : SqB k X.K H a xs) (h' : SqB k X.K H a ys) : xs = ys := by
  cases k
  · exact I.tuple_inj h h'
  · exact I.list_inj h h'
end

/-! ### two -/
def Itz2 (K : PySem.W.Frag) (k1 k2 : Bool) (a b : Addr) : It :=
  ⟨fun i H => ∃ (xs ys : List V) (x y : V), SqB k1 K H a xs ∧ SqB k2 K H b ys ∧ xs[i]? = some x ∧ ys[i]? = some y,
    fun i H v H' => ∃ T x y, v = .ref T ∧ H T = none ∧ H' = upd H T (.tup [x, y]) ∧ (∀ xs, SqB k1 K H a xs → xs[i]? = some x) ∧ ∀ ys, SqB k2 K H b ys → ys[i]? = some y,
    fun i H => ∃ xs ys : List V, SqB k1 K H a xs ∧ SqB k2 K H b ys ∧ i = min xs.length ys.length⟩
theorem turn_zip2 {P : Program} {w : World} {K : PySem.W.Frag} {elts : List Expr} {kk : Nat} {tpos : Pos} {k1 k2 : Bool} {a b z TI TO i1 i2 : Addr} (D : ZipSep2 z TI TO i1 i2 [i1, a] [i2, b]) (h1 : a ≠ i1) (h2 : b ≠ i2) :
    Turn P w K (.Tuple elts kk tpos) (Itz2 K k1 k2 a b) [z, TI, TO, i1, i2] z (fun i h => IsZip h z TI TO .none ∧ IsTupOf2 h TI (.ref i1) (.ref i2) ∧ (∃ x y, IsTupOf2 h TO x y) ∧ IterB k1 h i1 a i ∧ IterB k2 h i2 b i) where
  mem := by simp
  obj := fun i h st c hc => by
    obtain ⟨hz, hTI, ⟨x, y, hTO⟩, h1, h2⟩ := st
    have e' : c = z ∨ c = TI ∨ c = TO ∨ c = i1 ∨ c = i2 := by simpa using hc
    rcases e' with q | q | q | q | q
    · rw [q]; exact ⟨_, hz, fun v q => nomatch q⟩
    · rw [q]; exact ⟨_, hTI, fun v q => nomatch q⟩
    · rw [q]; exact ⟨_, hTO, fun v q => nomatch q⟩
    · rw [q]; exact h1.obj
    · rw [q]; exact h2.obj
  keep := fun i h h' st k => by
    obtain ⟨hz, hTI, ⟨x, y, hTO⟩, h1, h2⟩ := st
    exact ⟨k z (by simp) _ hz, k TI (by simp) _ hTI, ⟨x, y, k TO (by simp) _ hTO⟩, h1.at fun o q => k i1 (by simp) o q, h2.at fun o q => k i2 (by simp) o q⟩
  item := by
    intro X hP hw hK hc i pins s σ H E I hf st hg
    subst hP hw hK
    obtain ⟨hz, hTI, hTO, g1, g2⟩ := st
    obtain ⟨xs, ys, x, y, hqx, hqy, hx, hy⟩ := hg
    obtain ⟨its, rv, p, _⟩ := seqB I hqx
    obtain ⟨its2, rv2, p2, _⟩ := seqB I hqy
    obtain ⟨u, hu, ru⟩ := rv.get hx
    obtain ⟨u2, hu2, ru2⟩ := rv2.get hy
    have hh := I.ok.hd hc
    have W := GoesN.zip2 (prog := X.prog) (w := X.w) (A := X.A) (elts := elts) (x1 := kk) (pos := tpos) D (drawB (prog := X.prog) (w := X.w) (A := X.A.in1) (by exact hh) k1 i1 a h1 its.toArray) (drawB (by exact hh) k2 i2 b h2 its2.toArray)
    have hi : i < min its.toArray.size its2.toArray.size := by
      have l1 := (List.getElem?_eq_some_iff.mp hu).1
      have l2 := (List.getElem?_eq_some_iff.mp hu2).1
      simp only [List.size_toArray]
      omega
    refine W.goes i s _ E hi ⟨hz, hTI, hTO, ⟨g1, p⟩, ⟨g2, p2⟩⟩ fun v h' tk hY st' hk _ => ?_
    obtain ⟨T, x', y', rfl, hT, e1, e2, hTup⟩ := hY
    obtain ⟨hz', hTI', hTO', ⟨g1', _⟩, ⟨g2', _⟩⟩ := st'
    have ex : x' = u := by
      rw [List.getElem?_toArray, hu] at e1; cases e1; rfl
    have ey : y' = u2 := by
      rw [List.getElem?_toArray, hu2] at e2; cases e2; rfl
    subst ex ey
    have new : ObjOk X.prog X.w (upd H T (.tup [x, y])) h' T (.tup [x, y]) := ⟨by show 2 ≤ sizeLine; decide, [x', y'], .cons ru (.cons ru2 .nil), hTup⟩
    have I1 : Inv X pins σ (upd H T (.tup [x, y])) { s with heap := h', toks := tk } :=
      I.turnedNew (ch := [z, TI, TO, i1, i2]) (fun c o hb q => hk c o (fun q' => hb (by
        have q' : c = z ∨ c = TO ∨ c = i1 ∨ c = i2 := by simpa using q'
        rcases q' with q' | q' | q' | q' <;> simp [q'])) q) hf hT new
    refine ⟨.ref T, _, I1, rfl, ⟨T, x, y, rfl, I.hok.fresh hT, rfl, fun l hl => by rw [seqB_inj I hl hqx]; exact hx, fun l hl => by rw [seqB_inj I hl hqy]; exact hy⟩, ⟨hz', hTI', hTO', g1', g2'⟩, fun c hcm => ?_⟩
    have hn := (hf c hcm).1
    have hlt : c < s.heap.objs.size := by
      have e' : c = z ∨ c = TI ∨ c = TO ∨ c = i1 ∨ c = i2 := by simpa using hcm
      obtain ⟨_, _, hTO⟩ := hTO
      rcases e' with q | q | q | q | q
      · rw [q]; exact Heap.lt_size hz
      · rw [q]; exact Heap.lt_size hTI
      · rw [q]; exact Heap.lt_size hTO
      · rw [q]; obtain ⟨_, e1, _⟩ := g1.obj; exact Heap.lt_size e1
      · rw [q]; obtain ⟨_, e1, _⟩ := g2.obj; exact Heap.lt_size e1
    rw [upd_ne (Nat.ne_of_lt (Nat.lt_of_lt_of_le hlt hT))]
    exact hn
  done := by
    intro X hP hw hK hc i pins s σ H E I hf st hg
    subst hP hw hK
    obtain ⟨hz, hTI, hTO, g1, g2⟩ := st
    obtain ⟨xs, ys, hqx, hqy, hend⟩ := hg
    obtain ⟨its, rv, p, _⟩ := seqB I hqx
    obtain ⟨its2, rv2, p2, _⟩ := seqB I hqy
    have hh := I.ok.hd hc
    have W := GoesN.zip2 (prog := X.prog) (w := X.w) (A := X.A) (elts := elts) (x1 := kk) (pos := tpos) D (drawB (prog := X.prog) (w := X.w) (A := X.A.in1) (by exact hh) k1 i1 a h1 its.toArray) (drawB (by exact hh) k2 i2 b h2 its2.toArray)
    have hi : i = min its.toArray.size its2.toArray.size := by
      simp only [List.size_toArray, ← rv.length, ← rv2.length]
      exact hend
    refine W.stops s (fun s1 => Inv X pins σ H s1) E (by rw [← hi]; exact ⟨hz, hTI, hTO, ⟨g1, p⟩, ⟨g2, p2⟩⟩) fun h' tk hk _ => ?_
    exact I.turnedL (ch := [z, TI, TO, i1, i2]) (fun c o hb q => hk c o (fun q' => hb (by
        have q' : c = z ∨ c = TO ∨ c = i1 ∨ c = i2 := by simpa using q'
        rcases q' with q' | q' | q' | q' <;> simp [q'])) q) hf
  self := fun A i s Q E st h => wpAny_pyIter_zip st.1 h
def iZ2 (K : PySem.W.Frag) (ta : TA) : TI := fun σ H R => ta σ H fun vs H1 => ∃ k1 k2 a b xs ys, vs = [.ref a, .ref b] ∧ SqB k1 K H1 a xs ∧ SqB k2 K H1 b ys ∧ R (Itz2 K k1 k2 a b) H1
theorem pi_zip2 {X : Cx} {e e2 : Expr} {ta : TA} {p pos tpos : Pos} {elts : List Expr} {kk : Nat} (hg : Gl X "zip") (hm : X.mg "zip" = none) (ha : PA X [e, e2] ta)
    (hs : starEach [e, e2] X.env = (false, eval e X.env) :: starEach [e2] X.env) (hpl : (backTo pos (starEach [e2] X.env)).any (·.1) = false) :
    PI X (.Tuple elts kk tpos) (.Call (.Name "zip" p) [e, e2] [] pos) (iZ2 X.K ta) := by
  refine ⟨fun pins s σ H R I h => ?_⟩
  refine Call_ (ld_blt I hg hm PyProof.Rows.boot_zip (PyProof.Rows.callWith_type1 (thn (ha.run pos pins s σ H _ I h) fun us s1 ⟨vs, H1, I1, r1, q1⟩ => ?_) hs hpl))
  obtain ⟨k1, k2, a, b, xs, ys, ex, hqx, hqy, q⟩ := q1
  subst ex
  cases r1 with
  | cons r rr =>
    cases rr with
    | cons r' rr =>
      cases rr
      cases r
      cases r'
      obtain ⟨its, rv, p1, _⟩ := seqB I1 hqx
      obtain ⟨its2, rv2, p2, _⟩ := seqB I1 hqy
      refine zip_begins2 (begB k1 a its.toArray) (begB k2 b its2.toArray) p1 p2 fun h' hz hTI hTO g1 g2 hsz hk => wpAny_pyIter_zip hz ?_
      have I2 : Inv X pins σ H1 { s1 with heap := h' } := I1.kept (t' := s1.toks) hk
      have la := p1.lt
      have lb := p2.lt
      refine ⟨s1.heap.objs.size + 4, [s1.heap.objs.size + 4, s1.heap.objs.size + 2, s1.heap.objs.size + 3, s1.heap.objs.size, s1.heap.objs.size + 1], _, _, H1, rfl, I2,
        turn_zip2 (zip_sep2 (fp1 := [a]) (fp2 := [b]) (fun b hb => by rw [List.mem_singleton.mp hb]; exact la) (fun b hb => by rw [List.mem_singleton.mp hb]; exact lb)) (Nat.ne_of_lt la) (Nat.ne_of_lt (Nat.lt_succ_of_lt lb)), ⟨hz, hTI, ⟨_, _, hTO⟩, .new g1, .new g2⟩, fun c hcm => ?_, q⟩
      have hle : s1.heap.objs.size ≤ c := by
        have e' : c = s1.heap.objs.size + 4 ∨ c = s1.heap.objs.size + 2 ∨ c = s1.heap.objs.size + 3 ∨ c = s1.heap.objs.size ∨ c = s1.heap.objs.size + 1 := by simpa using hcm
        rcases e' with z | z | z | z | z
        · rw [z]; exact Nat.le_add_right _ _
        · rw [z]; exact Nat.le_add_right _ _
        · rw [z]; exact Nat.le_add_right _ _
        · rw [z]; exact Nat.le_refl _
        · rw [z]; exact Nat.le_add_right _ _
      exact I1.fpOk hle (I1.hok.fresh hle)

/-! ### three -/
def Itz3 (K : PySem.W.Frag) (k1 k2 k3 : Bool) (a b c : Addr) : It :=
  ⟨fun i H => ∃ (xs ys zs : List V) (x y z : V), SqB k1 K H a xs ∧ SqB k2 K H b ys ∧ SqB k3 K H c zs ∧ xs[i]? = some x ∧ ys[i]? = some y ∧ zs[i]? = some z,
    fun i H v H' => ∃ T x y z, v = .ref T ∧ H T = none ∧ H' = upd H T (.tup [x, y, z]) ∧ (∀ xs, SqB k1 K H a xs → xs[i]? = some x) ∧ (∀ ys, SqB k2 K H b ys → ys[i]? = some y) ∧ ∀ zs, SqB k3 K H c zs → zs[i]? = some z,
    fun i H => ∃ xs ys zs : List V, SqB k1 K H a xs ∧ SqB k2 K H b ys ∧ SqB k3 K H c zs ∧ i = min (min xs.length ys.length) zs.length⟩
theorem turn_zip3 {P : Program} {w : World} {K : PySem.W.Frag} {elts : List Expr} {kk : Nat} {tpos : Pos} {k1 k2 k3 : Bool} {a b d z TI TO i1 i2 i3 : Addr} (D : ZipSep3 z TI TO i1 i2 i3 [i1, a] [i2, b] [i3, d]) (h1 : a ≠ i1) (h2 : b ≠ i2) (h3 : d ≠ i3) :
    Turn P w K (.Tuple elts kk tpos) (Itz3 K k1 k2 k3 a b d) [z, TI, TO, i1, i2, i3] z (fun i h => IsZip h z TI TO .none ∧ IsTupOf3 h TI (.ref i1) (.ref i2) (.ref i3) ∧ (∃ x y u, IsTupOf3 h TO x y u) ∧ IterB k1 h i1 a i ∧ IterB k2 h i2 b i ∧ IterB k3 h i3 d i) where
  mem := by simp
  obj := fun i h st c hc => by
    obtain ⟨hz, hTI, ⟨x, y, u, hTO⟩, h1, h2, h3⟩ := st
    have e' : c = z ∨ c = TI ∨ c = TO ∨ c = i1 ∨ c = i2 ∨ c = i3 := by simpa using hc
    rcases e' with q | q | q | q | q | q
    · rw [q]; exact ⟨_, hz, fun v q => nomatch q⟩
    · rw [q]; exact ⟨_, hTI, fun v q => nomatch q⟩
    · rw [q]; exact ⟨_, hTO, fun v q => nomatch q⟩
    · rw [q]; exact h1.obj
    · rw [q]; exact h2.obj
    · rw [q]; exact h3.obj
  keep := fun i h h' st k => by
    obtain ⟨hz, hTI, ⟨x, y, u, hTO⟩, h1, h2, h3⟩ := st
    exact ⟨k z (by simp) _ hz, k TI (by simp) _ hTI, ⟨x, y, u, k TO (by simp) _ hTO⟩, h1.at fun o q => k i1 (by simp) o q, h2.at fun o q => k i2 (by simp) o q, h3.at fun o q => k i3 (by simp) o q⟩
  item := by
    intro X hP hw hK hc i pins s σ H E I hf st hg
    subst hP hw hK
    obtain ⟨hz, hTI, hTO, g1, g2, g3⟩ := st
    obtain ⟨xs, ys, zs, x, y, v3, hqx, hqy, hqz, hx, hy, hv3⟩ := hg
    obtain ⟨its, rv, p, _⟩ := seqB I hqx
    obtain ⟨its2, rv2, p2, _⟩ := seqB I hqy
    obtain ⟨its3, rv3, p3, _⟩ := seqB I hqz
    obtain ⟨u, hu, ru⟩ := rv.get hx
    obtain ⟨u2, hu2, ru2⟩ := rv2.get hy
    obtain ⟨u3, hu3, ru3⟩ := rv3.get hv3
    have hh := I.ok.hd hc
    have W := GoesN.zip3 (prog := X.prog) (w := X.w) (A := X.A) (elts := elts) (x1 := kk) (pos := tpos) D (drawB (prog := X.prog) (w := X.w) (A := X.A.in1) (by exact hh) k1 i1 a h1 its.toArray) (drawB (by exact hh) k2 i2 b h2 its2.toArray) (drawB (by exact hh) k3 i3 d h3 its3.toArray)
    have hi : i < min (min its.toArray.size its2.toArray.size) its3.toArray.size := by
      have l1 := (List.getElem?_eq_some_iff.mp hu).1
      have l2 := (List.getElem?_eq_some_iff.mp hu2).1
      have l3 := (List.getElem?_eq_some_iff.mp hu3).1
      simp only [List.size_toArray]
      omega
    refine W.goes i s _ E hi ⟨hz, hTI, hTO, ⟨g1, p⟩, ⟨g2, p2⟩, ⟨g3, p3⟩⟩ fun v h' tk hY st' hk _ => ?_
    obtain ⟨T, x', y', z', rfl, hT, e1, e2, e3, hTup⟩ := hY
    obtain ⟨hz', hTI', hTO', ⟨g1', _⟩, ⟨g2', _⟩, ⟨g3', _⟩⟩ := st'
    have ex : x' = u := by
      rw [List.getElem?_toArray, hu] at e1; cases e1; rfl
    have ey : y' = u2 := by
      rw [List.getElem?_toArray, hu2] at e2; cases e2; rfl
    have ez : z' = u3 := by
      rw [List.getElem?_toArray, hu3] at e3; cases e3; rfl
    subst ex ey ez
    have new : ObjOk X.prog X.w (upd H T (.tup [x, y, v3])) h' T (.tup [x, y, v3]) := ⟨by show 3 ≤ sizeLine; decide, [x', y', z'], .cons ru (.cons ru2 (.cons ru3 .nil)), hTup⟩
    have I1 : Inv X pins σ (upd H T (.tup [x, y, v3])) { s with heap := h', toks := tk } :=
      I.turnedNew (ch := [z, TI, TO, i1, i2, i3]) (fun c o hb q => hk c o (fun q' => hb (by
        have q' : c = z ∨ c = TO ∨ c = i1 ∨ c = i2 ∨ c = i3 := by simpa using q'
        rcases q' with q' | q' | q' | q' | q' <;> simp [q'])) q) hf hT new
    refine ⟨.ref T, _, I1, rfl, ⟨T, x, y, v3, rfl, I.hok.fresh hT, rfl, fun l hl => by rw [seqB_inj I hl hqx]; exact hx, fun l hl => by rw [seqB_inj I hl hqy]; exact hy, fun l hl => by rw [seqB_inj I hl hqz]; exact hv3⟩, ⟨hz', hTI', hTO', g1', g2', g3'⟩, fun c hcm => ?_⟩
    have hn := (hf c hcm).1
    have hlt : c < s.heap.objs.size := by
      have e' : c = z ∨ c = TI ∨ c = TO ∨ c = i1 ∨ c = i2 ∨ c = i3 := by simpa using hcm
      obtain ⟨_, _, _, hTO⟩ := hTO
      rcases e' with q | q | q | q | q | q
      · rw [q]; exact Heap.lt_size hz
      · rw [q]; exact Heap.lt_size hTI
      · rw [q]; exact Heap.lt_size hTO
      · rw [q]; obtain ⟨_, e1, _⟩ := g1.obj; exact Heap.lt_size e1
      · rw [q]; obtain ⟨_, e1, _⟩ := g2.obj; exact Heap.lt_size e1
      · rw [q]; obtain ⟨_, e1, _⟩ := g3.obj; exact Heap.lt_size e1
    rw [upd_ne (Nat.ne_of_lt (Nat.lt_of_lt_of_le hlt hT))]
    exact hn
  done := by
    intro X hP hw hK hc i pins s σ H E I hf st hg
    subst hP hw hK
    obtain ⟨hz, hTI, hTO, g1, g2, g3⟩ := st
    obtain ⟨xs, ys, zs, hqx, hqy, hqz, hend⟩ := hg
    obtain ⟨its, rv, p, _⟩ := seqB I hqx
    obtain ⟨its2, rv2, p2, _⟩ := seqB I hqy
    obtain ⟨its3, rv3, p3, _⟩ := seqB I hqz
    have hh := I.ok.hd hc
    have W := GoesN.zip3 (prog := X.prog) (w := X.w) (A := X.A) (elts := elts) (x1 := kk) (pos := tpos) D (drawB (prog := X.prog) (w := X.w) (A := X.A.in1) (by exact hh) k1 i1 a h1 its.toArray) (drawB (by exact hh) k2 i2 b h2 its2.toArray) (drawB (by exact hh) k3 i3 d h3 its3.toArray)
    have hi : i = min (min its.toArray.size its2.toArray.size) its3.toArray.size := by
      simp only [List.size_toArray, ← rv.length, ← rv2.length, ← rv3.length]
      exact hend
    refine W.stops s (fun s1 => Inv X pins σ H s1) E (by rw [← hi]; exact ⟨hz, hTI, hTO, ⟨g1, p⟩, ⟨g2, p2⟩, ⟨g3, p3⟩⟩) fun h' tk hk _ => ?_
    exact I.turnedL (ch := [z, TI, TO, i1, i2, i3]) (fun c o hb q => hk c o (fun q' => hb (by
        have q' : c = z ∨ c = TO ∨ c = i1 ∨ c = i2 ∨ c = i3 := by simpa using q'
        rcases q' with q' | q' | q' | q' | q' <;> simp [q'])) q) hf
  self := fun A i s Q E st h => wpAny_pyIter_zip st.1 h
def iZ3 (K : PySem.W.Frag) (ta : TA) : TI := fun σ H R => ta σ H fun vs H1 => ∃ k1 k2 k3 a b c xs ys zs, vs = [.ref a, .ref b, .ref c] ∧ SqB k1 K H1 a xs ∧ SqB k2 K H1 b ys ∧ SqB k3 K H1 c zs ∧ R (Itz3 K k1 k2 k3 a b c) H1
theorem pi_zip3 {X : Cx} {e e2 e3 : Expr} {ta : TA} {p pos tpos : Pos} {elts : List Expr} {kk : Nat} (hg : Gl X "zip") (hm : X.mg "zip" = none) (ha : PA X [e, e2, e3] ta)
    (hs : starEach [e, e2, e3] X.env = (false, eval e X.env) :: starEach [e2, e3] X.env) (hpl : (backTo pos (starEach [e2, e3] X.env)).any (·.1) = false) :
    PI X (.Tuple elts kk tpos) (.Call (.Name "zip" p) [e, e2, e3] [] pos) (iZ3 X.K ta) := by
  refine ⟨fun pins s σ H R I h => ?_⟩
  refine Call_ (ld_blt I hg hm PyProof.Rows.boot_zip (PyProof.Rows.callWith_type1 (thn (ha.run pos pins s σ H _ I h) fun us s1 ⟨vs, H1, I1, r1, q1⟩ => ?_) hs hpl))
  obtain ⟨k1, k2, k3, a, b, c, xs, ys, zs, ex, hqx, hqy, hqz, q⟩ := q1
  subst ex
  cases r1 with
  | cons r rr =>
    cases rr with
    | cons r' rr =>
      cases rr with
      | cons r'' rr =>
        cases rr
        cases r
        cases r'
        cases r''
        obtain ⟨its, rv, p1, _⟩ := seqB I1 hqx
        obtain ⟨its2, rv2, p2, _⟩ := seqB I1 hqy
        obtain ⟨its3, rv3, p3, _⟩ := seqB I1 hqz
        refine zip_begins3 (begB k1 a its.toArray) (begB k2 b its2.toArray) (begB k3 c its3.toArray) p1 p2 p3 fun h' hz hTI hTO g1 g2 g3 hsz hk => wpAny_pyIter_zip hz ?_
        have I2 : Inv X pins σ H1 { s1 with heap := h' } := I1.kept (t' := s1.toks) hk
        have la := p1.lt
        have lb := p2.lt
        have lc := p3.lt
        refine ⟨s1.heap.objs.size + 5, [s1.heap.objs.size + 5, s1.heap.objs.size + 3, s1.heap.objs.size + 4, s1.heap.objs.size, s1.heap.objs.size + 1, s1.heap.objs.size + 2], _, _, H1, rfl, I2,
          turn_zip3 (zip_sep3 (fp1 := [a]) (fp2 := [b]) (fp3 := [c]) (fun b hb => by rw [List.mem_singleton.mp hb]; exact la) (fun b hb => by rw [List.mem_singleton.mp hb]; exact lb) (fun b hb => by rw [List.mem_singleton.mp hb]; exact lc)) (Nat.ne_of_lt la) (Nat.ne_of_lt (Nat.lt_succ_of_lt lb)) (Nat.ne_of_lt (Nat.lt_succ_of_lt (Nat.lt_succ_of_lt lc))),
          ⟨hz, hTI, ⟨_, _, _, hTO⟩, .new g1, .new g2, .new g3⟩, fun c hcm => ?_, q⟩
        have hle : s1.heap.objs.size ≤ c := by
          have e' : c = s1.heap.objs.size + 5 ∨ c = s1.heap.objs.size + 3 ∨ c = s1.heap.objs.size + 4 ∨ c = s1.heap.objs.size ∨ c = s1.heap.objs.size + 1 ∨ c = s1.heap.objs.size + 2 := by simpa using hcm
          rcases e' with z | z | z | z | z | z
          · rw [z]; exact Nat.le_add_right _ _
          · rw [z]; exact Nat.le_add_right _ _
          · rw [z]; exact Nat.le_add_right _ _
          · rw [z]; exact Nat.le_refl _
          · rw [z]; exact Nat.le_add_right _ _
          · rw [z]; exact Nat.le_add_right _ _
        exact I1.fpOk hle (I1.hok.fresh hle)
end Q
/-! QB: sorted(set(xs)) of ints. call_set_lstR is HandS.SetFor's rule for a tuple, turned to a list. -/
namespace Q
open PySem L2 PySem.Spec PyProof.Rows
section
variable {P : Program} {w : World} {A : Around} {E : Value → Shared → Prop} {s : Shared}
set_option maxHeartbeats 3200000 in
theorem call_set_lstR {l : Addr} {items : Array Value} (ns : List Int) {Q : Value → Shared → Prop} (hh : A.handled = none) (hl : s.heap.IsList l items) (hit : IntsAre items.toList ns) (hb : ns.length + 1 < scanBound)
    (h : ∀ (h' : Heap) (tk c : Nat), SetR w h' s.heap.objs.size (fun j => decide (j ∈ ns)) c → c ≤ ns.length → (∀ b o, s.heap.get? b = some o → h'.get? b = some o) → Q (.ref s.heap.objs.size) { s with heap := h', toks := tk }) :
    wpAny (model P w) A (call (.type "set") [.ref l]) Q E s := by
  have hisz : items.size = ns.length := by
    have q := IntsAre.length hit
    rw [Array.length_toList] at q
    exact q
  obtain ⟨c, tl, hmro⟩ := F.called_set.mro
  have hmade := F.called_set.made
  have hsub := F.called_set.sub
  refine wpAny_call (codeAny_of_tree ?_)
  show wpAny _ _ (callAny (.type "set") _) _ _ _
  refine wpAny_pure ⟨Code.quiet_builtin _ (by decide +kernel), codeAny_builtin F.entry_type_call ?_⟩
  rw [Around.under_plain (weight_type_call_type "set" [.ref l] []) rfl]
  have h1 := F.called_set.notType
  have h2 := F.called_set.canCreate
  have hct := F.typeCall_set_1 (.ref l)
  repeat (any_goals (first | assumption | wp_step))

  refine codeAny_mono (code_set_led1 (.ref l) (E := E) (Q₁ := fun obj s₁ => obj = .ref s.heap.objs.size ∧ s₁ = { s with heap := s.heap.push { cls := .type "set", dict := none, data := .set #[] 0 (.fresh 0 0 (!w.params.followText "set-order")) } }) ⟨rfl, rfl⟩) fun r s₁ hr => ?_
  cases r with
  | error e => exact hr
  | ok fl =>
    cases fl with
    | ret obj =>
      obtain ⟨rfl, rfl⟩ := hr
      have hS : (s.heap.push { cls := .type "set", dict := none, data := .set #[] 0 (.fresh 0 0 (!w.params.followText "set-order")) }).get? s.heap.objs.size = some { cls := .type "set", dict := none, data := .set #[] 0 (.fresh 0 0 (!w.params.followText "set-order")) } := Heap.get?_push_size _ rfl
      have hT : Shared.TypeIs { s with heap := s.heap.push { cls := .type "set", dict := none, data := .set #[] 0 (.fresh 0 0 (!w.params.followText "set-order")) } } (.ref s.heap.objs.size) "set" := ⟨_, hS, rfl⟩
      have hli := F.called_set.init.lookup
      have hbi := F.called_set.init.bind (.ref s.heap.objs.size)
      repeat (any_goals (first | assumption | wp_step))

      refine codeAny_mono (codeAny_call_builtin (R := wants (fun r s₂ => r = .none ∧ ∃ h' tk c, s₂ = { s with heap := h', toks := tk } ∧ SetR w h' s.heap.objs.size (fun j => decide (j ∈ ns)) c ∧ c ≤ ns.length ∧
          (∀ b o, s.heap.get? b = some o → h'.get? b = some o)) E) F.called_set.init.plain F.entry_set_init (check_set_init_1 hT ?_)) fun r₂ s₂ hr₂ => ?_
      · obtain ⟨ol, hol, hcl, nl, hdl⟩ := hl
        obtain ⟨ocls, odict, odata, oslots⟩ := ol
        simp only at hcl hdl
        subst hcl; subst hdl
        have hol' : (s.heap.push { cls := .type "set", dict := none, data := .set #[] 0 (.fresh 0 0 (!w.params.followText "set-order")) }).get? l = some { cls := .type "list", dict := odict, data := .seq items nl, slots := oslots } := Heap.get?_push_of_some _ hol
        have hsls := F.sub_list_set
        have hslf := F.sub_list_frozenset
        have hne : (Value.type "list" == Value.type "dict") = false := by decide
        have hl1 : (s.heap.push { cls := .type "set", dict := none, data := .set #[] 0 (.fresh 0 0 (!w.params.followText "set-order")) }).IsList l items := ⟨_, hol', rfl, nl, rfl⟩
        unfold Builtin.«set.__init__» noKeywords Builtin.Frozenset.updateFrom
        generalize hPI : pyIter = PI
        wp_walk
        subst hPI

        refine wpAny_pyIter_list hl1 ?_
        refine wpAny_bind (wpAny_runValue ?_)
        have hlS : l < s.heap.objs.size := Heap.lt_size hol
        have hh3 : A.in1.in1.in1.handled = none := by simp [hh]
        have hz1 : (s.heap.push { cls := .type "set", dict := none, data := .set #[] 0 (.fresh 0 0 (!w.params.followText "set-order")) }).objs.size = s.heap.objs.size + 1 := Heap.size_push ..
        have hneI : l ≠ (s.heap.push { cls := .type "set", dict := none, data := .set #[] 0 (.fresh 0 0 (!w.params.followText "set-order")) }).objs.size := by
          rw [Heap.size_push]; exact Nat.ne_of_lt (Nat.lt_succ_of_lt hlS)
        have hSf : s.heap.objs.size ∉ [(s.heap.push { cls := .type "set", dict := none, data := .set #[] 0 (.fresh 0 0 (!w.params.followText "set-order")) }).objs.size, l] := by
          rw [Heap.size_push]; simp only [List.mem_cons, List.mem_singleton, List.not_mem_nil, or_false, not_or]
          exact ⟨Nat.ne_of_lt (Nat.lt_succ_self _), Nat.ne_of_gt hlS⟩
        have hval : ∀ (i : Nat) (v : Value), items[i]? = some v → ∃ k t, ns[i]? = some k ∧ v = .int k t := fun i v hv => by
          have hi : i < ns.length := by rw [← hisz]; exact (Array.getElem?_eq_some_iff.mp hv).1
          obtain ⟨t, e⟩ := PyProof.Rows.IntsAre.int_at hit i v (by rw [Array.getElem?_toList]; exact hv)
          refine ⟨ns[i], t, List.getElem?_eq_getElem hi, ?_⟩
          rw [e, List.getD_eq_getElem?_getD, List.getElem?_eq_getElem hi] <;> rfl
        refine set_update_ints ((Walks.list hh3 _ l hneI items).toS) s.heap.objs.size
          hSf ns hisz hb hval (items.size - 0) 0 _ (by omega) (Nat.zero_le _)
          ⟨⟨_, Heap.get?_push_size _ rfl, rfl, rfl⟩, (hl1.push _)⟩ ?hS0 ?hR
        case hS0 =>
          have hget : ((s.heap.push { cls := .type "set", dict := none, data := .set #[] 0 (.fresh 0 0 (!w.params.followText "set-order")) }).push { cls := .type "list_iterator", data := .fields #[.ref l, .int 0 0] }).get? s.heap.objs.size
              = some { cls := .type "set", dict := none, data := .set #[] 0 (.fresh 0 0 (!w.params.followText "set-order")) } := Heap.get?_push_of_some _ hS
          exact ⟨0, Nat.le_refl 0, setR_new_at hget⟩
        case hR =>
          intro s' c' hm hc' hS'
          obtain ⟨h', g2, d', tk', os'⟩ := s'
          have eg : g2 = s.gens := hm.gens
          have ed : d' = s.drawn := hm.drawn
          have eo : os' = s.os := hm.os
          subst eg; subst ed; subst eo
          show wpAny _ _ _ _ _ _
          refine wpAny_pure ?_
          show wpAny _ _ (ret Value.none) _ _ _
          rw [hisz] at hc'
          refine wpAny_pure ⟨rfl, h', tk', c', rfl, hS', hc', fun b o e => ?_⟩
          have hb0 : b < s.heap.objs.size := Heap.lt_size e
          have hb1 : b ≠ s.heap.objs.size := Nat.ne_of_lt hb0
          have hb2 : b ≠ (s.heap.push { cls := .type "set", dict := none, data := .set #[] 0 (.fresh 0 0 (!w.params.followText "set-order")) }).objs.size := by
            rw [Heap.size_push]; exact Nat.ne_of_lt (Nat.lt_succ_of_lt hb0)
          exact hm.heap b o (by simp only [List.mem_cons, List.mem_singleton, List.not_mem_nil, or_false, not_or]; exact ⟨hb1, hb2⟩) (Heap.get?_push_of_some _ (Heap.get?_push_of_some _ e))

      · cases r₂ with
        | error e => exact hr₂
        | ok fl₂ =>
          cases fl₂ with
          | ret r =>
            obtain ⟨rfl, h', tk, c', rfl, hS', hc', hk'⟩ := hr₂
            repeat (any_goals (first | assumption | wp_step))
            exact h _ _ _ hS' hc' hk'
          | _ => exact hr₂.elim
    | _ => exact hr.elim

end
/-- set(xs), a list or a tuple -/
theorem call_setB {P : Program} {w : World} {A : Around} {E : Value → Shared → Prop} {s : Shared} {k : Bool} {l : Addr} {items : Array Value} (ns : List Int) {Q : Value → Shared → Prop} (hh : A.handled = none) (hl : IsB k s.heap l items) (hit : IntsAre items.toList ns) (hb : ns.length + 1 < scanBound)
    (h : ∀ (h' : Heap) (tk c : Nat), SetR w h' s.heap.objs.size (fun j => decide (j ∈ ns)) c → c ≤ ns.length → (∀ b o, s.heap.get? b = some o → h'.get? b = some o) → Q (.ref s.heap.objs.size) { s with heap := h', toks := tk }) :
    wpAny (model P w) A (call (.type "set") [.ref l]) Q E s := by
  cases k
  · exact call_set_tupI ns hh hl hit hb h
  · exact call_set_lstR ns hh hl hit hb h
def tSset (K : PySem.W.Frag) (ta : TE) : TE := fun σ H Q => ta σ H fun x H1 => ∃ (k : Bool) (l : Addr) (ns : List Int), x = .ref l ∧ SqB k K H1 l (ns.map V.int) ∧ ns.length < 64 ∧
  ∀ (ms : List Int) (p : Addr), ms.Pairwise (· < ·) → (∀ k : Int, k ∈ ms ↔ k ∈ ns) → H1 p = none → Q (.ref p) (upd H1 p (.lst (ms.map V.int)))
theorem pe_sset {X : Cx} {a : Expr} {ta : TE} {p p2 q pos : Pos} (hg : Gl X "sorted") (hm : X.mg "sorted" = none) (hg2 : Gl X "set") (hm2 : X.mg "set" = none) (ha : PE X a ta) (hc : X.calm = true)
    (na : starEach [a] X.env = (false, eval a X.env) :: starEach [] X.env) : PE X (.Call (.Name "sorted" p) [.Call (.Name "set" p2) [a] [] q] [] pos) (tSset X.K ta) := by
  refine ⟨fun pins s σ H Q I h => ?_⟩
  refine Call_ (ld_blt I hg hm (show bootBuiltins "sorted" = some (.builtin "sorted") by decide +kernel) ?_)
  refine PyProof.Rows.callWith_builtin1 (PyProof.Rows.args_cons ?_ rfl) rfl rfl
  refine Call_ (ld_blt I hg2 hm2 boot_set ?_)
  refine PyProof.Rows.callWith_type1 (PyProof.Rows.args_cons (thn (ha.run pins s σ H _ I h) fun v s1 ⟨x, H1, I1, r1, q1⟩ => PyProof.Rows.args_nil ?_) na) na rfl
  obtain ⟨k, l, ns, rfl, hq, hl, q1⟩ := q1
  cases r1
  obtain ⟨its, r, pl, hz⟩ := seqB I1 hq
  refine call_setB ns (I1.ok.hd hc) pl (by simpa using ints_of_vals r) (by unfold scanBound; omega) fun h' tk c R hcn hk => ?_
  refine PyProof.Rows.args_nil ?_
  have I2 : Inv X pins σ H1 { s1 with heap := h', toks := tk } := I1.kept hk
  refine sorted_set (s := { s1 with heap := h', toks := tk }) R (I2.ok.hd hc) (by omega) fun s' p out c ms k g o hp hgt hi hs hm hl2 => ?_
  have hp1 : s1.heap.objs.size ≤ p := by
    have hlt : s1.heap.objs.size < h'.objs.size := R.lt
    exact Nat.le_trans (Nat.le_of_lt hlt) hp
  have hn : H1 p = none := I1.hok.fresh hp1
  have hlen : (ms.map V.int).length ≤ sizeLine := by rw [List.length_map, hl2, sizeLine_eq]; omega
  have kk : ∀ b u, s1.heap.get? b = some u → s'.heap.get? b = some u := fun b u e => k b u (hk b u e)
  have J : Inv X pins σ (upd H1 p (.lst (ms.map V.int))) { s1 with heap := s'.heap, gens := s'.gens, drawn := s'.drawn, toks := s'.toks } :=
    I1.call (ch := []) (Un.laid kk hp1 hn) (I1.hok.laid kk hp1 ⟨hlen, out.toList, c, vals_of_ints hi, hgt⟩) (by rw [g]; exact I1.bare) (fun _ z => nomatch z)
  have e : s' = { s1 with heap := s'.heap, gens := s'.gens, drawn := s'.drawn, toks := s'.toks } := by
    obtain ⟨hh, gg, dd, tt, oo⟩ := s'
    obtain rfl : oo = s1.os := o
    rfl
  rw [e]
  exact ⟨.ref p, _, J, rfl, q1 ms p hs (fun j => by rw [hm j, decide_eq_true_eq]) hn⟩
end Q
/-! QT: sets of texts: len(set(xs)), sorted(set(xs)). Turned from HandS.Set, HandS.SetFor (sets of ints) to texts. -/
namespace Q
open PySem L2 PySem.Spec PyProof.Rows
theorem is_tx {P : Program} {w : World} (k : Str) (u : Tok) : (strKind P w).is k (.str k u) = true := by
  show Value.isStrOf k (.str k u) = true
  simp [Value.isStrOf]
def keyTx (e : Int × Value) : Str := match e.2 with | .str k _ => k | _ => Str.empty
def GoodT (w : World) (e : Int × Value) : Prop := ∃ k tk, e.2 = Value.str k tk ∧ e.1 = hashStr w k

/-- the set of texts at a: S its members, n their number; its table rises and can be walked -/
def SetT (w : World) (h : Heap) (a : Addr) (S : Str → Bool) (n : Nat) : Prop :=
  ∃ o es ep t, h.get? a = some o ∧ o.ExactSet ∧ o.data = .set es ep t ∧ (∀ e ∈ es.toList, GoodT w e) ∧ (es.toList.map keyTx).Nodup ∧ (∀ k, S k = true ↔ k ∈ es.toList.map keyTx) ∧
    es.size < scanBound ∧ t.fits es.size = true ∧ es.size = n ∧ Ris t.place.toList ∧ (w.params.followText "set-order" = true ∨ t.led = true)

section
variable {P : Program} {w : World} {h h' : Heap} {a : Addr} {S : Str → Bool} {n : Nat}

theorem SetT.at (R : SetT w h a S n) (k : ∀ o, h.get? a = some o → h'.get? a = some o) : SetT w h' a S n := by
  obtain ⟨o, es, ep, t, ho, r⟩ := R
  exact ⟨o, es, ep, t, k o ho, r⟩
theorem SetT.lt (R : SetT w h a S n) : a < h.objs.size := by
  obtain ⟨o, es, ep, t, ho, r⟩ := R
  exact Heap.lt_size ho
theorem SetT.congr {S' : Str → Bool} (R : SetT w h a S n) (e : ∀ k, S' k = S k) : SetT w h a S' n := by
  have q : S' = S := funext e
  rw [q]; exact R
theorem goodT_elems {l : List (Int × Value)} (g : ∀ e ∈ l, GoodT w e) : ElemsOf (strKind P w) l := fun e he => by
  obtain ⟨k, tk, h1, h2⟩ := g e he
  exact ⟨⟨k, by rw [h1]; exact is_tx k tk, h2⟩, by rw [h1] <;> rfl⟩
theorem goodT_is {e : Int × Value} (g : GoodT w e) (k : Str) : (strKind P w).is k e.2 = true ↔ keyTx e = k := by
  obtain ⟨k0, tk, h1, _⟩ := g
  unfold keyTx
  rw [h1]
  show (Value.isStrOf k (.str k0 tk) = true) ↔ k0 = k
  simp [Value.isStrOf]
theorem goodT_mem {l : List (Int × Value)} (g : ∀ e ∈ l, GoodT w e) (k : Str) : k ∈ l.map keyTx ↔ ∃ e ∈ l, (strKind P w).is k e.2 = true := by
  rw [List.mem_map]
  constructor
  · rintro ⟨e, he, q⟩
    exact ⟨e, he, (goodT_is (g e he) k).2 q⟩
  · rintro ⟨e, he, q⟩
    exact ⟨e, he, (goodT_is (g e he) k).1 q⟩
theorem SetT.setOf (R : SetT w h a S n) : h.SetOf (strKind P w) a S n := by
  obtain ⟨o, es, ep, t, ho, hx, hd, g, nd, hm, hb, hf, hn, _⟩ := R
  exact ⟨o, es, ep, t, ho, hx, hd, goodT_elems g, fun k => (hm k).trans (goodT_mem g k), hb, hf, hn⟩
end

section
variable {P : Program} {w : World} {A : Around} {E : Value → Shared → Prop} {s : Shared} {a : Addr} {S : Str → Bool} {n : Nat}
theorem setT_add_tail {g : Bool → Sem Unit} (hg : ∀ (b : Bool) (s₁ : Shared) (Q' : Unit → Shared → Prop), Q' () s₁ → wpAny (model P w) A (g b) Q' E s₁)
    {o : Obj} {es : Array (Int × Value)} {ep : Nat} {t : SetTable} (ho : s.heap.get? a = some o) (hex : o.ExactSet) (hd : o.data = .set es ep t)
    {es1 : Array (Int × Value)} {t2 : SetTable} {S' : Str → Bool} (g1 : ∀ e ∈ es1.toList, GoodT w e) (nd1 : (es1.toList.map keyTx).Nodup) (m1 : ∀ k, S' k = true ↔ k ∈ es1.toList.map keyTx)
    (hb1 : es1.size < scanBound) (hf2 : t2.fits es1.size = true) (hr : Ris t2.place.toList) (hl : w.params.followText "set-order" = true ∨ t2.led = true) {wasDummy : Bool} {R : Option Bool → Shared → Prop}
    (hR : ∀ h', Heap.SameBut a s.heap h' → SetT w h' a S' es1.size → R (some true) { s with heap := h' }) :
    wpAny (model P w) A (do
        storeSet a es1 t2
        if (!wasDummy && t2.tooFull) = true then do
            g (relayAll t2 es1 (SetTable.grown es1.size)).2.2
            storeSet a (relayAll t2 es1 (SetTable.grown es1.size)).1 (relayAll t2 es1 (SetTable.grown es1.size)).2.1
            pure (some true)
          else pure (some true)) R E s := by
  refine wpAny_bind (wpAny_storeSet_of ho hd ?_ (fits_of_scanBound hb1))
  have ho1 := store_at (es' := es1) (t' := t2) ho hd
  have sb1 := Heap.SameBut.update s.heap a (Obj.putSet es1 t2)
  split
  · have pm := relayAll_perm t2 es1 (SetTable.grown es1.size)
    have hf3 := relayAll_fits t2 es1 (SetTable.grown es1.size)
    have hr3 := relayAll_ris t2 es1 (SetTable.grown es1.size)
    have hl3 := relayAll_led t2 es1 (SetTable.grown es1.size)
    generalize relayAll t2 es1 (SetTable.grown es1.size) = Z at pm hf3 hr3 hl3 ⊢
    obtain ⟨es2, t3, gave⟩ := Z
    dsimp only at pm hf3 hr3 hl3 ⊢
    have hsz : es2.size = es1.size := by rw [← Array.length_toList, pm.length_eq, Array.length_toList]
    have hb2 : es2.size < scanBound := by rw [hsz]; exact hb1
    refine wpAny_bind (hg _ _ _ ?_)
    refine wpAny_bind (wpAny_storeSet_of ho1 rfl ?_ (fits_of_scanBound hb2))
    have ho2 := store_at (es' := es2) (t' := t3) ho1 rfl
    refine wpAny_pure (hR _ (sb1.trans (Heap.SameBut.update _ a _)) ?_)
    exact ⟨_, es2, _, t3, ho2, hex, rfl, fun e he => g1 e (pm.mem_iff.mp he), (pm.map keyTx).nodup_iff.mpr nd1, fun k => (m1 k).trans (pm.map keyTx).mem_iff.symm, hb2, hf3, hsz, hr3,
      hl.imp id fun z => by rw [hl3]; exact z⟩
  · exact wpAny_pure (hR _ sb1 ⟨_, es1, _, t2, ho1, hex, rfl, g1, nd1, m1, hb1, hf2, rfl, hr, hl⟩)

theorem setT_add_hashed {k : Str} {tk : Tok} {Q : Bool → Shared → Prop} (R : SetT w s.heap a S n) (room : n + 1 < scanBound)
    (hQ : ∀ h', Heap.SameBut a s.heap h' → SetT w h' a (fun j => S j || decide (j = k)) (if S k = true then n else n + 1) → Q (!S k) { s with heap := h' }) :
    wpAny (model P w) A (setAddHashed a (.str k tk) ((strKind P w).hash k)) Q E s := by
  obtain ⟨o, es, ep, t, ho, hex, hd, g, nd, hm, hb, hf, hn, hr, hl⟩ := R
  have hkey : (strKind P w).is k (.str k tk) = true := is_tx k tk
  have hsc : (Value.str k tk).scannable = true := rfl
  have hel : ElemsOf (strKind P w) es.toList := goodT_elems g
  unfold setAddHashed setAddHashedIn
  refine wpAny_holding (wpAny_bind (wpAny_setState_of ho hd hf ?_))
  dsimp only
  rw [byScan_of hsc hb hel]
  simp only [↓reduceIte]
  unfold setAddByScan
  refine wpAny_bind ?_
  refine wpAny_bind (wpAny_rule ?_)
  refine wpAny_bind (wpAny_setScan_of hkey ho hd hf hel ?_)
  cases hfi : List.findIdx? (fun e => (strKind P w).is k e.2) es.toList with
  | some j =>
    dsimp only
    obtain ⟨hj, pj, _⟩ := List.findIdx?_eq_some_iff_getElem.mp hfi
    have hSk : S k = true := (hm k).2 ((goodT_mem (P := P) (w := w) g k).2 ⟨es.toList[j], List.getElem_mem hj, pj⟩)
    refine wpAny_pure (wpAny_pure ?_)
    have q := hQ s.heap (Heap.SameBut.refl a s.heap) ⟨o, es, ep, t, ho, hex, hd, g, nd, fun i => by
      rw [Bool.or_eq_true, decide_eq_true_eq, ← hm i]
      exact ⟨fun z => z.elim id (fun e => e ▸ hSk), .inl⟩, hb, hf, by rw [if_pos hSk]; exact hn, hr, hl⟩
    rw [hSk] at q
    exact q
  | none =>
    dsimp only
    have hnk : k ∉ es.toList.map keyTx := fun z => by
      obtain ⟨e, he, q⟩ := (goodT_mem (P := P) (w := w) g k).1 z
      have c := List.findIdx?_eq_none_iff.mp hfi e he
      rw [q] at c
      cases c
    have hSk : S k = false := by
      cases q : S k with
      | false => rfl
      | true => exact absurd ((hm k).1 q) hnk
    have hgw : ∀ (b : Bool) {s₁ : Shared} {Q' : Unit → Shared → Prop}, Q' () s₁ → wpAny (model P w) A (match b with | true => rule "set.scan.the-table-gave-way" | false => pure ()) Q' E s₁ :=
      fun b s₁ Q' q => by cases b <;> first | exact wpAny_pure q | exact wpAny_rule q
    have pm := layNew_perm t es ((strKind P w).hash k) (.str k tk)
    have hf1 := layNew_fits t es ((strKind P w).hash k) (.str k tk)
    have hr1 := layNew_ris t es ((strKind P w).hash k) (.str k tk) hr
    have hl1 := layNew_led t es ((strKind P w).hash k) (.str k tk)
    generalize layNew t es ((strKind P w).hash k) (.str k tk) = Z at pm hf1 hr1 hl1 ⊢
    obtain ⟨es1, t1, wasDummy, gave⟩ := Z
    dsimp only at pm hf1 hr1 hl1 ⊢
    rw [Array.toList_push] at pm
    have pc : es1.toList.Perm (((strKind P w).hash k, Value.str k tk) :: es.toList) := pm.trans (List.perm_append_singleton _ _)
    have pk : (es1.toList.map keyTx).Perm (k :: es.toList.map keyTx) := pc.map keyTx
    have g1 : ∀ e ∈ es1.toList, GoodT w e := fun e he => by
      rcases List.mem_cons.mp (pc.mem_iff.mp he) with z | z
      · rw [z]; exact ⟨k, tk, rfl, rfl⟩
      · exact g e z
    have nd1 : (es1.toList.map keyTx).Nodup := pk.nodup_iff.mpr (List.nodup_cons.mpr ⟨hnk, nd⟩)
    have m1 : ∀ i, (S i || decide (i = k)) = true ↔ i ∈ es1.toList.map keyTx := fun i => by
      rw [Bool.or_eq_true, decide_eq_true_eq, hm i, pk.mem_iff, List.mem_cons]
      exact Or.comm
    have hsz : es1.size = n + 1 := by rw [← Array.length_toList, pc.length_eq, List.length_cons, Array.length_toList, hn]
    have hb1 : es1.size < scanBound := by rw [hsz]; exact room
    have hled : w.params.followText "set-order" = true ∨ t1.led = true := hl.imp id fun z => by rw [hl1]; exact z
    have fin : ∀ h', Heap.SameBut a s.heap h' → SetT w h' a (fun j => S j || decide (j = k)) es1.size → Q true { s with heap := h' } := fun h' sb r => by
      have q := hQ h' sb
      rw [hSk] at q
      rw [hsz] at r
      exact q r
    refine wpAny_bind (hgw _ ?_)
    split
    · refine wpAny_bind ?_
      rw [hashByValue_scannable 8 hsc]
      refine wpAny_pure ?_
      refine setT_add_tail ?_ ho hex hd g1 nd1 m1 hb1 ?_ ?_ ?_ ?_
      · intro b s₁ Q' q; cases b <;> first | exact wpAny_pure q | exact wpAny_rule q
      · first | (split <;> first | exact hf1 | exact SetTable.fits_plain_off hf1) | exact hf1
      · first | (split <;> exact hr1) | exact hr1
      · first | (split <;> exact hled) | exact hled
      · intro h' sb r; dsimp only; exact wpAny_pure (fin h' sb r)
    · refine wpAny_bind (wpAny_pure ?_)
      simp only [↓reduceIte]
      refine setT_add_tail ?_ ho hex hd g1 nd1 m1 hb1 hf1 hr1 hled ?_
      · intro b s₁ Q' q; cases b <;> first | exact wpAny_pure q | exact wpAny_rule q
      · intro h' sb r; dsimp only; exact wpAny_pure (fin h' sb r)

theorem setT_new_at {w : World} {h : Heap} {a : Addr} {ns : List Str} (ho : h.get? a = some { cls := .type "set", dict := none, data := .set #[] 0 (.fresh 0 0 (!w.params.followText "set-order")) }) : SetT w h a (fun j => decide (j ∈ ns.take 0)) 0 :=
  ⟨_, #[], 0, _, ho, ⟨rfl, rfl, rfl⟩, rfl, (fun e he => by simp at he), (by simp), (fun k => by simp), (by decide), (by rfl), rfl, List.Pairwise.nil, by
    show _ ∨ (!w.params.followText "set-order") = true
    cases w.params.followText "set-order"
    · exact .inr rfl
    · exact .inl rfl⟩
theorem set_update_txs {I : Addr} {fp wr : List Addr} {G : Array GenState → Array GenState → Prop} {n : Nat} {Pv : Nat → Value → Prop} {St : Nat → Shared → Prop} {R : Result → Shared → Prop}
    (W : WalksS P w A.in1 I fp wr G n Pv St) (S : Addr) (hSf : S ∉ fp) (ns : List Str) (hn : n = ns.length) (hb : ns.length + 1 < scanBound) (hval : ∀ i v, Pv i v → ∃ k t, ns[i]? = some k ∧ v = .str k t) :
    ∀ (k i : Nat) (s : Shared), n - i = k → i ≤ n → St i s → (∃ c, c ≤ i ∧ SetT w s.heap S (fun j => decide (j ∈ ns.take i)) c) →
      (∀ s' c, Moved (S :: wr) G s s' → c ≤ n → SetT w s'.heap S (fun j => decide (j ∈ ns)) c → R (.ok (.ret .none)) s') →
      codeAny (model P w) A (.builtin "set.update.loop" ⟨[.ref S, .ref I], []⟩) R s := by
  have hSw : S ∉ wr := fun h => hSf (W.sub _ h)
  have hsub : ∀ b ∈ wr, b ∈ S :: wr := fun b hb => List.mem_cons_of_mem _ hb
  intro k
  induction k with
  | zero =>
    intro i s hk' hi hst ⟨c, hc, hS⟩ hR
    have hin : i = n := by omega
    subst hin
    refine codeAny_builtin F.entry_set_update_loop ?_
    rw [Around.under_plainId F.plain_set_update_loop _]
    show wpAny _ A.in1 (pyNext (.ref I) >>= _) _ _ s
    refine wpAny_bind (W.done s _ _ hst fun s' hm => ?_)
    show wpAny _ A.in1 (ret Value.none) _ _ s'
    have e : ns.take i = ns := List.take_of_length_le (by omega)
    rw [e] at hS
    exact wpAny_pure (hR s' c (hm.mono hsub) hc (hS.at fun o e => hm.heap S o hSw e))
  | succ k ih =>
    intro i s hk' hi hst ⟨c, hc, hS⟩ hR
    have hlt : i < n := by omega
    refine codeAny_builtin F.entry_set_update_loop ?_
    rw [Around.under_plainId F.plain_set_update_loop _]
    show wpAny _ A.in1 (pyNext (.ref I) >>= _) _ _ s
    refine wpAny_bind (W.item i s _ _ hlt hst fun v s' hP hst' hm => ?_)
    obtain ⟨z, t, hz, rfl⟩ := hval i v hP
    have hS' : SetT w s'.heap S (fun j => decide (j ∈ ns.take i)) c := hS.at fun o e => hm.heap S o hSw e
    show wpAny _ A.in1 (holding [Value.str z t] (setAdd S (.str z t)) >>= _) _ _ s'
    refine wpAny_bind (wpAny_holding ?_)
    unfold setAdd
    refine wpAny_holding ?_
    refine wpAny_bind ((strKind P w).pyHash (k := z) (is_tx _ _) ?_)
    refine setT_add_hashed (s := { s' with toks := s'.toks + 1 }) hS' (by omega) fun h' hsb hS2 => ?_
    have hS3 : SetT w h' S (fun j => decide (j ∈ ns.take (i + 1))) (if decide (z ∈ ns.take i) = true then c else c + 1) := hS2.congr fun j => by
      rw [List.take_add_one, hz]
      simp [List.mem_append]
    have hc3 : (if decide (z ∈ ns.take i) = true then c else c + 1) ≤ i + 1 := by
      split <;> omega
    refine wpAny_pure ⟨plainId_quiet F.plain_set_update_loop _, ih (i + 1) _ (by omega) hlt (W.frame _ s' _ _ hst' (Nat.le_succ _) fun b hb o e => ?_) ⟨_, hc3, hS3⟩ fun s'' c2 hm'' hc'' hS'' => ?_⟩
    · rw [hsb.2 b (fun h : b = S => hSf (by rw [← h]; exact hb))]; exact e
    · refine hR s'' c2 (Moved.trans W.gtrans ((hm.mono hsub).then_heap (Nat.le_succ _) fun b o hb e => ?_) hm'') hc'' hS''
      rw [hsb.2 b (fun h : b = S => hb (by rw [h]; exact List.mem_cons_self))]; exact e

set_option maxHeartbeats 3200000 in
theorem call_set_lstT {l : Addr} {items : Array Value} (ns : List Str) {Q : Value → Shared → Prop} (hh : A.handled = none) (hl : s.heap.IsList l items) (hit : StrsAre items.toList ns) (hb : ns.length + 1 < scanBound)
    (h : ∀ (h' : Heap) (tk c : Nat), SetT w h' s.heap.objs.size (fun j => decide (j ∈ ns)) c → c ≤ ns.length → (∀ b o, s.heap.get? b = some o → h'.get? b = some o) → Q (.ref s.heap.objs.size) { s with heap := h', toks := tk }) :
    wpAny (model P w) A (call (.type "set") [.ref l]) Q E s := by
  have hisz : items.size = ns.length := by
    have q := StrsAre.length hit
    rw [Array.length_toList] at q
    exact q
  obtain ⟨c, tl, hmro⟩ := F.called_set.mro
  have hmade := F.called_set.made
  have hsub := F.called_set.sub
  refine wpAny_call (codeAny_of_tree ?_)
  show wpAny _ _ (callAny (.type "set") _) _ _ _
  refine wpAny_pure ⟨Code.quiet_builtin _ (by decide +kernel), codeAny_builtin F.entry_type_call ?_⟩
  rw [Around.under_plain (weight_type_call_type "set" [.ref l] []) rfl]
  have h1 := F.called_set.notType
  have h2 := F.called_set.canCreate
  have hct := F.typeCall_set_1 (.ref l)
  repeat (any_goals (first | assumption | wp_step))

  refine codeAny_mono (code_set_led1 (.ref l) (E := E) (Q₁ := fun obj s₁ => obj = .ref s.heap.objs.size ∧ s₁ = { s with heap := s.heap.push { cls := .type "set", dict := none, data := .set #[] 0 (.fresh 0 0 (!w.params.followText "set-order")) } }) ⟨rfl, rfl⟩) fun r s₁ hr => ?_
  cases r with
  | error e => exact hr
  | ok fl =>
    cases fl with
    | ret obj =>
      obtain ⟨rfl, rfl⟩ := hr
      have hS : (s.heap.push { cls := .type "set", dict := none, data := .set #[] 0 (.fresh 0 0 (!w.params.followText "set-order")) }).get? s.heap.objs.size = some { cls := .type "set", dict := none, data := .set #[] 0 (.fresh 0 0 (!w.params.followText "set-order")) } := Heap.get?_push_size _ rfl
      have hT : Shared.TypeIs { s with heap := s.heap.push { cls := .type "set", dict := none, data := .set #[] 0 (.fresh 0 0 (!w.params.followText "set-order")) } } (.ref s.heap.objs.size) "set" := ⟨_, hS, rfl⟩
      have hli := F.called_set.init.lookup
      have hbi := F.called_set.init.bind (.ref s.heap.objs.size)
      repeat (any_goals (first | assumption | wp_step))

      refine codeAny_mono (codeAny_call_builtin (R := wants (fun r s₂ => r = .none ∧ ∃ h' tk c, s₂ = { s with heap := h', toks := tk } ∧ SetT w h' s.heap.objs.size (fun j => decide (j ∈ ns)) c ∧ c ≤ ns.length ∧
          (∀ b o, s.heap.get? b = some o → h'.get? b = some o)) E) F.called_set.init.plain F.entry_set_init (check_set_init_1 hT ?_)) fun r₂ s₂ hr₂ => ?_
      · obtain ⟨ol, hol, hcl, nl, hdl⟩ := hl
        obtain ⟨ocls, odict, odata, oslots⟩ := ol
        simp only at hcl hdl
        subst hcl; subst hdl
        have hol' : (s.heap.push { cls := .type "set", dict := none, data := .set #[] 0 (.fresh 0 0 (!w.params.followText "set-order")) }).get? l = some { cls := .type "list", dict := odict, data := .seq items nl, slots := oslots } := Heap.get?_push_of_some _ hol
        have hsls := F.sub_list_set
        have hslf := F.sub_list_frozenset
        have hne : (Value.type "list" == Value.type "dict") = false := by decide
        have hl1 : (s.heap.push { cls := .type "set", dict := none, data := .set #[] 0 (.fresh 0 0 (!w.params.followText "set-order")) }).IsList l items := ⟨_, hol', rfl, nl, rfl⟩
        unfold Builtin.«set.__init__» noKeywords Builtin.Frozenset.updateFrom
        generalize hPI : pyIter = PI
        wp_walk
        subst hPI

        refine wpAny_pyIter_list hl1 ?_
        refine wpAny_bind (wpAny_runValue ?_)
        have hlS : l < s.heap.objs.size := Heap.lt_size hol
        have hh3 : A.in1.in1.in1.handled = none := by simp [hh]
        have hz1 : (s.heap.push { cls := .type "set", dict := none, data := .set #[] 0 (.fresh 0 0 (!w.params.followText "set-order")) }).objs.size = s.heap.objs.size + 1 := Heap.size_push ..
        have hneI : l ≠ (s.heap.push { cls := .type "set", dict := none, data := .set #[] 0 (.fresh 0 0 (!w.params.followText "set-order")) }).objs.size := by
          rw [Heap.size_push]; exact Nat.ne_of_lt (Nat.lt_succ_of_lt hlS)
        have hSf : s.heap.objs.size ∉ [(s.heap.push { cls := .type "set", dict := none, data := .set #[] 0 (.fresh 0 0 (!w.params.followText "set-order")) }).objs.size, l] := by
          rw [Heap.size_push]; simp only [List.mem_cons, List.mem_singleton, List.not_mem_nil, or_false, not_or]
          exact ⟨Nat.ne_of_lt (Nat.lt_succ_self _), Nat.ne_of_gt hlS⟩
        have hval : ∀ (i : Nat) (v : Value), items[i]? = some v → ∃ k t, ns[i]? = some k ∧ v = .str k t := fun i v hv => by
          obtain ⟨y, t, e1, e2⟩ := PyProof.Rows.StrsAre.item hit i v (by rw [Array.getElem?_toList]; exact hv)
          exact ⟨y, t, e2, e1⟩
        refine set_update_txs ((Walks.list hh3 _ l hneI items).toS) s.heap.objs.size
          hSf ns hisz hb hval (items.size - 0) 0 _ (by omega) (Nat.zero_le _)
          ⟨⟨_, Heap.get?_push_size _ rfl, rfl, rfl⟩, (hl1.push _)⟩ ?hS0 ?hR
        case hS0 =>
          have hget : ((s.heap.push { cls := .type "set", dict := none, data := .set #[] 0 (.fresh 0 0 (!w.params.followText "set-order")) }).push { cls := .type "list_iterator", data := .fields #[.ref l, .int 0 0] }).get? s.heap.objs.size
              = some { cls := .type "set", dict := none, data := .set #[] 0 (.fresh 0 0 (!w.params.followText "set-order")) } := Heap.get?_push_of_some _ hS
          exact ⟨0, Nat.le_refl 0, setT_new_at hget⟩
        case hR =>
          intro s' c' hm hc' hS'
          obtain ⟨h', g2, d', tk', os'⟩ := s'
          have eg : g2 = s.gens := hm.gens
          have ed : d' = s.drawn := hm.drawn
          have eo : os' = s.os := hm.os
          subst eg; subst ed; subst eo
          show wpAny _ _ _ _ _ _
          refine wpAny_pure ?_
          show wpAny _ _ (ret Value.none) _ _ _
          rw [hisz] at hc'
          refine wpAny_pure ⟨rfl, h', tk', c', rfl, hS', hc', fun b o e => ?_⟩
          have hb0 : b < s.heap.objs.size := Heap.lt_size e
          have hb1 : b ≠ s.heap.objs.size := Nat.ne_of_lt hb0
          have hb2 : b ≠ (s.heap.push { cls := .type "set", dict := none, data := .set #[] 0 (.fresh 0 0 (!w.params.followText "set-order")) }).objs.size := by
            rw [Heap.size_push]; exact Nat.ne_of_lt (Nat.lt_succ_of_lt hb0)
          exact hm.heap b o (by simp only [List.mem_cons, List.mem_singleton, List.not_mem_nil, or_false, not_or]; exact ⟨hb1, hb2⟩) (Heap.get?_push_of_some _ (Heap.get?_push_of_some _ e))

      · cases r₂ with
        | error e => exact hr₂
        | ok fl₂ =>
          cases fl₂ with
          | ret r =>
            obtain ⟨rfl, h', tk, c', rfl, hS', hc', hk'⟩ := hr₂
            repeat (any_goals (first | assumption | wp_step))
            exact h _ _ _ hS' hc' hk'
          | _ => exact hr₂.elim
    | _ => exact hr.elim


/-! ### sorted -/
theorem txs_of : ∀ (l : List Value), (∀ v ∈ l, ∃ k tk, v = Value.str k tk) → StrsAre l (l.map fun v => keyTx (0, v))
  | [], _ => .nil
  | v :: l, h => by
    obtain ⟨k, tk, rfl⟩ := h v List.mem_cons_self
    exact .cons k tk (txs_of l fun u hu => h u (List.mem_cons_of_mem _ hu))
theorem each_tx : ∀ {l : List Value} {ks : List Str}, StrsAre l ks → PySem.W.EachIs (fun v k => ∃ t, v = Value.str k t) l ks
  | _, _, .nil => .nil
  | _, _, .cons k t h => .cons ⟨t, rfl⟩ (each_tx h)
theorem tx_each : ∀ {l : List Value} {ks : List Str}, PySem.W.EachIs (fun v k => ∃ t, v = Value.str k t) l ks → StrsAre l ks
  | _, _, .nil => .nil
  | _, _, .cons ⟨t, e⟩ h => by subst e; exact .cons _ t (tx_each h)
def leTx (a b : Str) : Bool := decide (a.cps.toList ≤ b.cps.toList)
theorem sorted_setT {S : Str → Bool} {n : Nat} {Q : Value → Shared → Prop} (R : SetT w s.heap a S n) (hh : A.handled = none) (hu : A.units + 8 < cLine)
    (hQ : ∀ s' p (out : Array Value) (c : Nat) (ks : List Str), (∀ b o, s.heap.get? b = some o → s'.heap.get? b = some o) → s'.gens = s.gens → s'.os = s.os → s.heap.objs.size ≤ p →
      s'.heap.get? p = some (seqObj "list" out c) → StrsAre out.toList (ks.mergeSort leTx) → ks.Nodup → (∀ k, k ∈ ks ↔ S k = true) → ks.length = n → Q (.ref p) s') :
    wpAny (model P w) A (call (.builtin "sorted") [.ref a]) Q E s := by
  obtain ⟨o, es, ep, t, ho, hex, hd, g, nd, hm, hb, hf, hn, hr, hl⟩ := R
  refine Calls.call_function_entry kind_sorted plain_sorted entry_sorted (args_sorted1 _) ?_
  unfold Builtin.«sorted»
  refine wpAny_bind (m := checkCount "sorted" 1 1 _) (wpAny_pure ?_)
  refine wpAny_bind (collect_set (A := A.in1) hh ⟨o, ho, hex.1, hd⟩ hf hb hr hl fun s1 vs k1 hz g1 o1 pm => ?_)
  have hvl : vs.length = n := by rw [pm.length_eq, List.length_map, Array.length_toList]; exact hn
  have hn2 : n ≤ sizeLine := by rw [← hn]; exact fits_of_scanBound hb
  have hI : StrsAre vs (vs.map fun v => keyTx (0, v)) := txs_of vs fun v hv => by
    obtain ⟨e, he, q⟩ := List.mem_map.mp (pm.mem_iff.mp hv)
    obtain ⟨k, tk, h1, _⟩ := g e he
    exact ⟨k, tk, by rw [← q]; exact h1⟩
  have pk : (vs.map fun v => keyTx (0, v)).Perm (es.toList.map keyTx) := by
    have q := pm.map fun v => keyTx (0, v)
    rw [List.map_map] at q
    exact q
  generalize hks : (vs.map fun v => keyTx (0, v)) = ks at hI pk
  have hkl : ks.length = n := by rw [← hks, List.length_map]; exact hvl
  refine wpAny_bind (wpAny_newList ?_ (by rw [hvl]; exact hn2))
  have hoL : (s1.heap.push (seqObj "list" vs.toArray 0)).get? s1.heap.objs.size = some (seqObj "list" vs.toArray 0) := Heap.get?_push_size _ rfl
  refine wpAny_bind (wpAny_holding (PySem.W.list_sort_data (bs := ks) (enc := fun k => PyData.str k) (R := fun v k => ∃ t, v = Value.str k t) hoL (each_tx hI) ((each_tx hI).mono fun v k ⟨t, e⟩ => ⟨[], by subst e; exact ⟨Reads.str _ _, by simp⟩⟩)
    (PySem.W.AllAlike.of fun _ _ => rfl) (PySem.W.Sortable.others fun _ => ⟨(fun e => nomatch e), fun _ e => nomatch e⟩) (by rw [hkl]; exact hn2) (fun b _ => by show A.in1.units + 1 + 0 < cLine; show A.units + 1 + 1 + 0 < cLine; omega) fun out ho2 he2 => ?_))
  obtain ⟨c, hc⟩ := sortedHeap_at (vs := vs) (out := out.toArray) hoL
  rw [PySem.W.dataLe_str (fun b : Str => b)] at he2
  refine wpAny_pure ⟨_, rfl, hQ _ s1.heap.objs.size out.toArray c ks (fun b u e => ?_) g1 o1 hz hc (tx_each he2) (pk.nodup_iff.mpr nd) (fun k => by rw [pk.mem_iff, ← hm k]) hkl⟩
  have q := k1 b u e
  have hlt := Heap.lt_size q
  show (sortedHeap (s1.heap.push (seqObj "list" vs.toArray 0)) s1.heap.objs.size vs out.toArray).get? b = some u
  rw [sortedHeap_old (Nat.ne_of_lt hlt) (by rw [size_push']; exact Nat.lt_succ_of_lt hlt)]
  exact Heap.get?_push_of_some _ q
end
/-! ### each one once -/
def nubS : List Str → List Str
  | [] => []
  | x :: xs => if x ∈ xs then nubS xs else x :: nubS xs
theorem mem_nubS : ∀ {xs : List Str} {k : Str}, k ∈ nubS xs ↔ k ∈ xs
  | [], k => by simp [nubS]
  | x :: xs, k => by
    unfold nubS
    split
    · rename_i h
      rw [mem_nubS, List.mem_cons]
      exact ⟨.inr, fun z => z.elim (fun e => e ▸ h) id⟩
    · rw [List.mem_cons, List.mem_cons, mem_nubS]
theorem nodup_nubS : ∀ xs : List Str, (nubS xs).Nodup
  | [] => List.nodup_nil
  | x :: xs => by
    unfold nubS
    split
    · exact nodup_nubS xs
    · rename_i h
      exact List.nodup_cons.mpr ⟨fun z => h (mem_nubS.mp z), nodup_nubS xs⟩
theorem perm_of_mem {l m : List Str} (h1 : l.Nodup) (h2 : m.Nodup) (h : ∀ k, k ∈ l ↔ k ∈ m) : l.Perm m := by
  exact (List.perm_ext_iff_of_nodup h1 h2).mpr h
theorem nub_len_le (xs : List Str) : (nubS xs).length ≤ xs.length := by
  induction xs with
  | nil => exact Nat.le_refl _
  | cons x xs ih =>
    unfold nubS
    split
    · exact Nat.le_succ_of_le ih
    · exact Nat.succ_le_succ ih
theorem nub_id : ∀ {xs : List Str}, xs.Nodup → nubS xs = xs
  | [], _ => rfl
  | x :: xs, h => by
    obtain ⟨h1, h2⟩ := List.nodup_cons.mp h
    unfold nubS
    rw [if_neg h1, nub_id h2]
theorem nub_len {xs : List Str} : (nubS xs).length = xs.length ↔ xs.Nodup := by
  refine ⟨fun h => ?_, fun h => by rw [nub_id h]⟩
  induction xs with
  | nil => exact List.nodup_nil
  | cons x xs ih =>
    unfold nubS at h
    split at h
    · have := nub_len_le xs
      rw [List.length_cons] at h
      omega
    · rename_i hx
      rw [List.length_cons, List.length_cons] at h
      exact List.nodup_cons.mpr ⟨hx, ih (by omega)⟩
theorem leTx_trans (a b c : Str) (h1 : leTx a b = true) (h2 : leTx b c = true) : leTx a c = true := by
  unfold leTx at *
  rw [decide_eq_true_eq] at *
  exact List.le_trans h1 h2
theorem leTx_total (a b : Str) : (leTx a b || leTx b a) = true := by
  unfold leTx
  rw [Bool.or_eq_true, decide_eq_true_eq, decide_eq_true_eq]
  exact List.le_total _ _
theorem leTx_anti {a b : Str} (h1 : leTx a b = true) (h2 : leTx b a = true) : a = b := by
  unfold leTx at *
  rw [decide_eq_true_eq] at *
  exact PySem.W.str_of_cps (List.le_antisymm h1 h2)
/-- sorted: the same whatever the order ahead -/
theorem sort_perm {l m : List Str} (h : l.Perm m) : l.mergeSort leTx = m.mergeSort leTx :=
  List.Perm.eq_of_pairwise (fun a b _ _ h1 h2 => leTx_anti h1 h2) (List.pairwise_mergeSort leTx_trans leTx_total l) (List.pairwise_mergeSort leTx_trans leTx_total m)
    ((List.mergeSort_perm l leTx).trans (h.trans (List.mergeSort_perm m leTx).symm))
/-! ### len(set(xs)), sorted(set(xs)) -/
def tLenSetT (K : PySem.W.Frag) (ta : TE) : TE := fun σ H Q => ta σ H fun x H1 => ∃ (l : Addr) (ss : List Str), x = .ref l ∧ SqL K H1 l (ss.map V.str) ∧ ss.length ≤ 4000 ∧ Q (.int (nubS ss).length) H1
def tSsetT (K : PySem.W.Frag) (ta : TE) : TE := fun σ H Q => ta σ H fun x H1 => ∃ (l : Addr) (ss : List Str), x = .ref l ∧ SqL K H1 l (ss.map V.str) ∧ ss.length ≤ 4000 ∧
  ∀ p : Addr, H1 p = none → Q (.ref p) (upd H1 p (.lst (((nubS ss).mergeSort leTx).map V.str)))
theorem vals_txs : ∀ {us : List Value} {ss : List Str}, StrsAre us ss → Vals (ss.map V.str) us
  | _, _, .nil => .nil
  | _, _, .cons y t h => .cons ⟨t, rfl⟩ (vals_txs h)
section
variable {X : Cx} {a : Expr} {ta : TE} {p p2 q pos : Pos}
theorem pe_lenSetT (hg : Gl X "len") (hm : X.mg "len" = none) (hg2 : Gl X "set") (hm2 : X.mg "set" = none) (ha : PE X a ta) (hc : X.calm = true)
    (na : starEach [a] X.env = (false, eval a X.env) :: starEach [] X.env) : PE X (.Call (.Name "len" p) [.Call (.Name "set" p2) [a] [] q] [] pos) (tLenSetT X.K ta) := by
  refine ⟨fun pins s σ H Q I h => ?_⟩
  refine Call_ (ld_blt I hg hm boot_len ?_)
  refine PyProof.Rows.callWith_builtin1 (PyProof.Rows.args_cons ?_ rfl) rfl rfl
  refine Call_ (ld_blt I hg2 hm2 boot_set ?_)
  refine PyProof.Rows.callWith_type1 (PyProof.Rows.args_cons (thn (ha.run pins s σ H _ I h) fun v s1 ⟨x, H1, I1, r1, q1⟩ => PyProof.Rows.args_nil ?_) na) na rfl
  obtain ⟨l, ss, rfl, hq, hl, q1⟩ := q1
  cases r1
  obtain ⟨its, r, pl, hz⟩ := I1.list hq
  refine call_set_lstT ss (I1.ok.hd hc) pl.isList (by simpa using strsAre_of r) (by unfold scanBound; omega) fun h' tk c R hcn hk => ?_
  refine PyProof.Rows.args_nil ?_
  have I2 : Inv X pins σ H1 { s1 with heap := h', toks := tk } := I1.kept hk
  obtain ⟨o, es, ep, t, ho, hex, hd, g, nd, hmm, hb, hf, hn, _, _⟩ := R
  have e : c = (nubS ss).length := by
    rw [← hn, ← Array.length_toList, ← List.length_map (f := keyTx), (perm_of_mem nd (nodup_nubS ss) fun k => by rw [mem_nubS, ← hmm k, decide_eq_true_eq]).length_eq]
  refine call_len_set ho hex hd hf (by unfold scanBound at hb; omega) ⟨.int (nubS ss).length, H1, I2.tok _, ⟨_, by rw [hn, e]⟩, q1⟩
theorem pe_ssetT (hg : Gl X "sorted") (hm : X.mg "sorted" = none) (hg2 : Gl X "set") (hm2 : X.mg "set" = none) (ha : PE X a ta) (hc : X.calm = true) (hu : X.A.units + 64 < cLine)
    (na : starEach [a] X.env = (false, eval a X.env) :: starEach [] X.env) : PE X (.Call (.Name "sorted" p) [.Call (.Name "set" p2) [a] [] q] [] pos) (tSsetT X.K ta) := by
  refine ⟨fun pins s σ H Q I h => ?_⟩
  refine Call_ (ld_blt I hg hm (show bootBuiltins "sorted" = some (.builtin "sorted") by decide +kernel) ?_)
  refine PyProof.Rows.callWith_builtin1 (PyProof.Rows.args_cons ?_ rfl) rfl rfl
  refine Call_ (ld_blt I hg2 hm2 boot_set ?_)
  refine PyProof.Rows.callWith_type1 (PyProof.Rows.args_cons (thn (ha.run pins s σ H _ I h) fun v s1 ⟨x, H1, I1, r1, q1⟩ => PyProof.Rows.args_nil ?_) na) na rfl
  obtain ⟨l, ss, rfl, hq, hl, q1⟩ := q1
  cases r1
  obtain ⟨its, r, pl, hz⟩ := I1.list hq
  refine call_set_lstT ss (I1.ok.hd hc) pl.isList (by simpa using strsAre_of r) (by unfold scanBound; omega) fun h' tk c R hcn hk => ?_
  refine PyProof.Rows.args_nil ?_
  have I2 : Inv X pins σ H1 { s1 with heap := h', toks := tk } := I1.kept hk
  refine sorted_setT (s := { s1 with heap := h', toks := tk }) R (I2.ok.hd hc) (by omega) fun s' p out c' ks k g o hp hgt hi nd hmm hl2 => ?_
  have e : ks.mergeSort leTx = (nubS ss).mergeSort leTx := sort_perm (perm_of_mem nd (nodup_nubS ss) fun k => by rw [mem_nubS, hmm k, decide_eq_true_eq])
  rw [e] at hi
  have hp1 : s1.heap.objs.size ≤ p := by
    have hlt : s1.heap.objs.size < h'.objs.size := R.lt
    exact Nat.le_trans (Nat.le_of_lt hlt) hp
  have hn : H1 p = none := I1.hok.fresh hp1
  have hlen : ((((nubS ss).mergeSort leTx)).map V.str).length ≤ sizeLine := by
    rw [List.length_map, List.length_mergeSort, sizeLine_eq]
    have := nub_len_le ss
    omega
  have kk : ∀ b u, s1.heap.get? b = some u → s'.heap.get? b = some u := fun b u e => k b u (hk b u e)
  have J : Inv X pins σ (upd H1 p (.lst (((nubS ss).mergeSort leTx).map V.str))) { s1 with heap := s'.heap, gens := s'.gens, drawn := s'.drawn, toks := s'.toks } :=
    I1.call (ch := []) (Un.laid kk hp1 hn) (I1.hok.laid kk hp1 ⟨hlen, out.toList, c', vals_txs hi, hgt⟩) (by rw [g]; exact I1.bare) (fun _ z => nomatch z)
  have e : s' = { s1 with heap := s'.heap, gens := s'.gens, drawn := s'.drawn, toks := s'.toks } := by
    obtain ⟨hh, gg, dd, tt, oo⟩ := s'
    obtain rfl : oo = s1.os := o
    rfl
  rw [e]
  exact ⟨.ref p, _, J, rfl, q1 p hn⟩
end
end Q
/-! QD: sorted(list of alike data), str(data), x in a tuple of data. -/
namespace Q
open PySem L2 PySem.Spec PyProof.Rows
section
variable {X : Cx}
/-! ### in -/
def rInT (K : PySem.W.Frag) : R2 := fun x y H Q => ∃ d ds, Dp K H x d ∧ Dp K H y (.tuple ds) ∧ SeqAt.shaped d = true ∧ SeqAt.shaped (.tuple ds) = true ∧ Q (.bl (ds.any fun z => PyData.eqv z d)) H
def rNotInT (K : PySem.W.Frag) : R2 := fun x y H Q => ∃ d ds, Dp K H x d ∧ Dp K H y (.tuple ds) ∧ SeqAt.shaped d = true ∧ SeqAt.shaped (.tuple ds) = true ∧ Q (.bl (!ds.any fun z => PyData.eqv z d)) H
theorem room_inT {d : PyData} {ds : List PyData} (h : SeqAt.shaped d = true) (hu : X.A.units + 65 < cLine) : X.A.units + 1 + min (PyData.depthAll ds) d.depth < cLine := by
  have h2 : d.depth ≤ 64 := by
    unfold SeqAt.shaped at h
    simp only [Bool.and_eq_true, decide_eq_true_eq] at h
    first | exact h.2 | exact h.1
  omega
theorem op_inT (hu : X.A.units + 65 < cLine) : OpR X (compareOp .In) (rInT X.K) := by
  intro pins s σ H x y v u Q I rx ry h
  obtain ⟨d, ds, hd, he, sd, se, q⟩ := h
  obtain ⟨as, r1⟩ := Dp.reads I d x v hd rx
  obtain ⟨bs, r2⟩ := Dp.reads I (.tuple ds) y u he ry
  exact SeqAt.in_tuple_reads r2 r1 (SeqAt.canLay_of_shaped se) (SeqAt.canLay_of_shaped sd) (room_inT sd hu) ⟨.bl _, H, I, rfl, q⟩
theorem op_notInT (hu : X.A.units + 65 < cLine) : OpR X (compareOp .NotIn) (rNotInT X.K) := by
  intro pins s σ H x y v u Q I rx ry h
  obtain ⟨d, ds, hd, he, sd, se, q⟩ := h
  obtain ⟨as, r1⟩ := Dp.reads I d x v hd rx
  obtain ⟨bs, r2⟩ := Dp.reads I (.tuple ds) y u he ry
  exact SeqAt.notIn_tuple_reads r2 r1 (SeqAt.canLay_of_shaped se) (SeqAt.canLay_of_shaped sd) (room_inT sd hu) ⟨.bl _, H, I, rfl, q⟩
/-! ### sorted -/
/-- sorted(xs): the items by what they are as data -/
def rSortedD (K : PySem.W.Frag) : List V → Hp → VK → Prop := fun vs H Q => ∃ (a : Addr) (ps : List (V × PyData)), vs = [V.ref a] ∧ SqL K H a (ps.map (·.1)) ∧ DpAll K H (ps.map (·.1)) (ps.map (·.2)) ∧ PySem.W.AllAlike (ps.map (·.2)) ∧ PySem.W.Sortable (ps.map (·.2)) ∧ (∀ q ∈ ps, q.2.depth ≤ 60) ∧
  ∀ p, H p = none → Q (.ref p) (upd H p (.lst ((ps.mergeSort (PySem.W.dataLe false (·.2))).map (·.1))))
theorem each_vals {pins : List (Addr × Obj)} {σ : L2.St} {H : Hp} {s : Shared} (I : Inv X pins σ H s) : ∀ {ps : List (V × PyData)} {us : List Value}, Vals (ps.map (·.1)) us → DpAll X.K H (ps.map (·.1)) (ps.map (·.2)) →
    PySem.W.EachIs (fun (v : Value) (b : V × PyData) => RelV b.1 v) us ps ∧ PySem.W.EachIs (fun (v : Value) (b : V × PyData) => ∃ as, Reads s.heap v b.2 as) us ps
  | [], us, r, d => by cases r; exact ⟨.nil, .nil⟩
  | p :: ps, us, r, d => by
    cases r with
    | cons r1 r2 =>
      cases d with
      | cons d1 d2 =>
        obtain ⟨h1, h2⟩ := each_vals I r2 d2
        exact ⟨.cons r1 h1, .cons (Dp.reads I p.2 p.1 _ d1 r1) h2⟩
theorem each_back : ∀ {ps : List (V × PyData)} {us : List Value}, PySem.W.EachIs (fun (v : Value) (b : V × PyData) => RelV b.1 v) us ps → Vals (ps.map (·.1)) us
  | _, _, .nil => .nil
  | _, _, .cons h t => .cons h (each_back t)
theorem cr_sortedD (hu : X.A.units + 128 < cLine) : CallR X (.builtin "sorted") (rSortedD X.K) := by
  intro pins s σ H vs us Q I r h
  obtain ⟨a, ps, rfl, hs, hd, hal, hso, hdep, q⟩ := h
  obtain ⟨its, rv, hl, hz⟩ := I.list hs
  rw [Vals.ref1 r]
  obtain ⟨e1, e2⟩ := each_vals I rv hd
  have hz' : ps.length ≤ sizeLine := by rw [List.length_map] at hz; exact hz
  refine PySem.W.sorted_data (bs := ps) (enc := (·.2)) (R := fun v b => RelV b.1 v) (vs := its) hl.isList e1 e2 hal hso hz' (fun b hb => by have := hdep b hb; omega) fun out hol hout => ?_
  obtain ⟨ep, he'⟩ := PyProof.Rows.sortedAll_at s.heap its out.toArray
  have hlen : ((ps.mergeSort (PySem.W.dataLe false (·.2))).map (·.1)).length ≤ sizeLine := by
    rw [List.length_map, List.length_mergeSort]
    exact hz'
  exact ⟨.ref _, upd H (s.heap.objs.size + 1) (.lst ((ps.mergeSort (PySem.W.dataLe false (·.2))).map (·.1))), I.laid (t' := s.toks) (fun _ _ => PyProof.Rows.sortedAll_old) (Nat.le_succ _) ⟨hlen, out, ep, each_back hout, he'⟩, rfl, q _ (I.hok.fresh (Nat.le_succ _))⟩
/-! ### str -/
def strTxt : PyData → Str
  | .str s => s
  | d => d.shown
def rStrD (K : PySem.W.Frag) : List V → Hp → VK → Prop := fun xs H Q => ∃ x d, xs = [x] ∧ Dp K H x d ∧ d.showable = true ∧ d.hasDict = false ∧ d.depth ≤ 60 ∧ d.shown.length ≤ sizeLine ∧ Q (.str (strTxt d)) H
theorem call_strD (hg : X.A.guards = some []) (hu : X.A.units + 128 < cLine) : CallR X (.type "str") (rStrD X.K) := by
  intro pins s σ H xs us Q I r h
  obtain ⟨x, d, rfl, hd, hs, hnd, hdep, hsz, q⟩ := h
  obtain ⟨u, rfl, ru⟩ := vals1 r
  have one : ∀ a, u = Value.ref a → strTxt d = d.shown → wpAny (model X.prog X.w) X.A (call (.type "str") [u]) (EP X pins σ Q) X.xe s := fun a e e2 => by
    subst e
    obtain ⟨as, rd⟩ := Dp.reads I d x _ hd ru
    rw [e2] at q
    refine str_of_reads (h₀ := s.heap) rd hs (PyData.noDict_hsm hnd) hg (by omega) (fun _ _ e => e) (fun h' t tk hk => ?_) hsz
    exact ⟨.str d.shown, H, I.kept hk, ⟨_, rfl⟩, q⟩
  cases hd with
  | non => obtain rfl : u = Value.none := ru; exact PySem.P.str_of_none ⟨.str "None", H, I.tok _, ⟨_, rfl⟩, q⟩
  | bl b =>
    obtain rfl : u = Value.bool b := ru
    exact PySem.P.str_of_bool ⟨.str _, H, I.tok _, ⟨_, rfl⟩, q⟩
  | int i =>
    obtain ⟨t, rfl⟩ := ru
    have hs : decide (i.natAbs.log2 < 1920) = true := hs
    exact PySem.P.str_of_int (of_decide_eq_true hs) ⟨.str _, H, I.tok _, ⟨_, rfl⟩, q⟩
  | str z =>
    obtain ⟨t, rfl⟩ := ru
    exact PySem.P.str_of_str ⟨.str z, H, I, ⟨_, rfl⟩, q⟩
  | lst h hs => exact one _ ru rfl
  | tup h hs => exact one _ ru rfl
end
/-! ### how long such a text is -/
mutual
def wtP : PyData → Nat
  | .str s => s.length + 1
  | .list xs => wtPs xs + 1
  | .tuple xs => wtPs xs + 1
  | _ => 1
def wtPs : List PyData → Nat
  | [] => 0
  | x :: xs => wtP x + 1 + wtPs xs
end
/-! the signs of such a text -/
theorem okTx_of {x : Str} (h : ∀ c ∈ x.cps.toList, c < 0x110000) : PyData.strOk x = true := by
  unfold PyData.strOk
  rw [Array.all_eq_true']
  exact fun c hc => decide_eq_true (h c (Array.mem_toList_iff.mpr hc))
theorem of_ok {x : Str} (h : PyData.strOk x = true) : ∀ c ∈ x.cps.toList, c < 0x110000 := fun c hc => by
  unfold PyData.strOk at h
  exact of_decide_eq_true (Array.all_eq_true'.mp h c (Array.mem_toList_iff.mp hc))
theorem ok_cat {a b : Str} (ha : PyData.strOk a = true) (hb : PyData.strOk b = true) : PyData.strOk (a ++ b) = true := by
  unfold PyData.strOk at *
  show (a.cps ++ b.cps).all _ = true
  rw [Array.all_append, ha, hb]; rfl
theorem ok_ofString (t : String) : PyData.strOk (Str.ofString t) = true := okTx_of fun c hc => by
  rw [Str.ofString_eq_toList] at hc
  have hc : c ∈ t.toList.map Char.toNat := by simpa using hc
  obtain ⟨ch, _, rfl⟩ := List.mem_map.mp hc
  have := ch.valid
  unfold UInt32.isValidChar Nat.isValidChar at this
  show ch.val.toNat < _
  omega
theorem ok_textFrom : ∀ (ts : List Str) (k : Nat) (acc : Str), PyData.strOk acc = true → (∀ t ∈ ts, PyData.strOk t = true) → PyData.strOk (textFrom k acc ts) = true
  | [], _, _, h, _ => h
  | t :: ts, k, acc, h, ht => by
    unfold textFrom
    refine ok_textFrom ts (k + 1) _ (ok_cat (ok_cat h ?_) (ht t List.mem_cons_self)) fun u hu => ht u (List.mem_cons_of_mem _ hu)
    split <;> exact ok_ofString _
theorem ok_join : ∀ (ts : List Str), (∀ t ∈ ts, PyData.strOk t = true) → PyData.strOk (Str.join ", " ts) = true
  | [], _ => okTx_of fun c hc => by simp [Str.join, Str.empty] at hc
  | [x], h => h x List.mem_cons_self
  | x :: y :: r, h => by
    show PyData.strOk (x ++ ", " ++ Str.join ", " (y :: r)) = true
    exact ok_cat (ok_cat (h x List.mem_cons_self) (ok_ofString _)) (ok_join (y :: r) fun t ht => h t (List.mem_cons_of_mem _ ht))
theorem ok_list {ts : List Str} (h : ∀ t ∈ ts, PyData.strOk t = true) : PyData.strOk (listText ts) = true := ok_cat (ok_textFrom ts 0 _ (ok_ofString _) h) (ok_ofString _)
theorem ok_tuple {ts : List Str} (h : ∀ t ∈ ts, PyData.strOk t = true) : PyData.strOk (tupleText ts) = true := ok_cat (ok_cat (ok_ofString _) (ok_join ts h)) (by split <;> exact ok_ofString _)
theorem digit_lt {b : Nat} (n : Nat) : ∀ c ∈ (Nat.toDigits b n).map Char.toNat, c < 0x110000 := fun c hc => by
  obtain ⟨ch, _, rfl⟩ := List.mem_map.mp hc
  have := ch.valid
  unfold UInt32.isValidChar Nat.isValidChar at this
  show ch.val.toNat < _
  omega
theorem reprChar_lt {q c : Nat} (hc : c < 0x110000) : ∀ x ∈ Builtin.Str.reprChar q c, x < 0x110000 := by
  have hx : ∀ w, ∀ x ∈ (List.replicate (w - ((Nat.toDigits 16 c).map Char.toNat).length) 48 ++ (Nat.toDigits 16 c).map Char.toNat), x < 0x110000 := fun w x h => by
    rcases List.mem_append.mp h with h | h
    · rw [List.eq_of_mem_replicate h]; decide
    · exact digit_lt c x h
  unfold Builtin.Str.reprChar
  dsimp only
  intro x
  split
  · intro h; have : x = 92 ∨ x = c := by simpa using h
    rcases this with rfl | rfl <;> omega
  split
  · intro h; have : x = 92 ∨ x = 110 := by simpa using h
    rcases this with rfl | rfl <;> omega
  split
  · intro h; have : x = 92 ∨ x = 114 := by simpa using h
    rcases this with rfl | rfl <;> omega
  split
  · intro h; have : x = 92 ∨ x = 116 := by simpa using h
    rcases this with rfl | rfl <;> omega
  split
  · intro h; have : x = c := by simpa using h
    omega
  split
  · intro h
    rcases List.mem_append.mp h with h | h
    · have : x = 92 ∨ x = 120 := by simpa using h
      rcases this with rfl | rfl <;> omega
    · exact hx 2 x h
  split
  · intro h
    rcases List.mem_append.mp h with h | h
    · have : x = 92 ∨ x = 117 := by simpa using h
      rcases this with rfl | rfl <;> omega
    · exact hx 4 x h
  · intro h
    rcases List.mem_append.mp h with h | h
    · have : x = 92 ∨ x = 85 := by simpa using h
      rcases this with rfl | rfl <;> omega
    · exact hx 8 x h
theorem foldl_repr_lt (q : Nat) : ∀ (l : List Nat) (acc : Array Nat), (∀ c ∈ l, c < 0x110000) → (∀ c ∈ acc.toList, c < 0x110000) → ∀ c ∈ (l.foldl (fun out c => out ++ (Builtin.Str.reprChar q c).toArray) acc).toList, c < 0x110000
  | [], _, _, h => h
  | c :: l, acc, hl, h => by
    rw [List.foldl_cons]
    refine foldl_repr_lt q l _ (fun d hd => hl d (List.mem_cons_of_mem _ hd)) fun d hd => ?_
    rw [Array.toList_append] at hd
    rcases List.mem_append.mp hd with hd | hd
    · exact h d hd
    · exact reprChar_lt (hl c List.mem_cons_self) d hd
theorem ok_repr {x : Str} (h : PyData.strOk x = true) : PyData.strOk (reprText x) = true := okTx_of fun c hc => by
  unfold reprText at hc
  have q : reprQuote x < 0x110000 := by
    unfold reprQuote
    split <;> decide
  rw [Array.toList_push, ← Array.foldl_toList] at hc
  rcases List.mem_append.mp hc with hc | hc
  · refine foldl_repr_lt (reprQuote x) _ _ (of_ok h) (fun d hd => ?_) c hc
    obtain rfl : d = reprQuote x := by simpa using hd
    exact q
  · obtain rfl : c = reprQuote x := by simpa using hc
    exact q
theorem textFrom_le : ∀ (ts : List Str) (k : Nat) (acc : Str), (textFrom k acc ts).length ≤ acc.length + piled ts
  | [], _, acc => by show acc.length ≤ _; omega
  | t :: ts, k, acc => by
    unfold textFrom
    have ih := textFrom_le ts (k + 1) (acc ++ (if k > 0 then ", " else "" : String) ++ t)
    have e : (acc ++ (if k > 0 then ", " else "" : String) ++ t).length ≤ acc.length + 2 + t.length := by
      rw [strLen_append, strLen_append]
      split
      · have : ((", " : String) : Str).length = 2 := rfl
        omega
      · have : (("" : String) : Str).length = 0 := rfl
        omega
    rw [piled_cons]
    omega
theorem listText_le (ts : List Str) : (listText ts).length ≤ piled ts + 2 := by
  unfold listText
  have h := textFrom_le ts 0 "["
  rw [strLen_append]
  have e1 : (("[" : String) : Str).length = 1 := rfl
  have e2 : (("]" : String) : Str).length = 1 := rfl
  omega
theorem tupleText_le (ts : List Str) : (tupleText ts).length ≤ piled ts + 3 := by
  unfold tupleText
  rw [strLen_append, strLen_append]
  have e1 : ((("(" : String) : Str)).length = 1 := rfl
  have h : (Str.join ", " ts).length ≤ piled ts := by
    cases ts with
    | nil => exact Nat.zero_le _
    | cons t ts => have := join_length_add (t :: ts) (by simp); omega
  split
  · have : ((",)" : String) : Str).length = 2 := rfl
    omega
  · have : ((")" : String) : Str).length = 1 := rfl
    omega
mutual
theorem shown_ok : ∀ (d : PyData), d.showable = true → d.hasDict = false → d.canLay0 = true → d.shown.length ≤ 1925 * wtP d ∧ PyData.strOk d.shown = true
  | .none, _, _, _ => ⟨by decide, ok_ofString "None"⟩
  | .bool b, _, _, _ => by cases b <;> exact ⟨by decide, ok_ofString _⟩
  | .int i, h, _, _ => by
    have h : decide (i.natAbs.log2 < 1920) = true := h
    have := int_text_len_1921 (of_decide_eq_true h)
    exact ⟨by show (Str.ofString (toString i)).length ≤ 1925 * 1; omega, ok_ofString _⟩
  | .str x, _, _, hc => by
    have hc : PyData.strOk x = true := hc
    have h1 := StrLaws.reprText_len x fun c h => Nat.lt_trans (of_ok hc c h) (by decide)
    refine ⟨?_, ok_repr hc⟩
    show (reprText x).length ≤ 1925 * (x.length + 1)
    omega
  | .list xs, h, hd, hc => by
    have h : PyData.showableAll xs = true := h
    obtain ⟨h1, h2⟩ := shown_oks xs h hd hc
    refine ⟨?_, ok_list h2⟩
    have := listText_le (PyData.shownAll xs)
    show (listText (PyData.shownAll xs)).length ≤ 1925 * (wtPs xs + 1)
    omega
  | .tuple xs, h, hd, hc => by
    have h : PyData.showableAll xs = true := h
    obtain ⟨h1, h2⟩ := shown_oks xs h hd hc
    refine ⟨?_, ok_tuple h2⟩
    have := tupleText_le (PyData.shownAll xs)
    show (tupleText (PyData.shownAll xs)).length ≤ 1925 * (wtPs xs + 1)
    omega
  | .dict _, _, hd, _ => by cases hd
theorem shown_oks : ∀ (ds : List PyData), PyData.showableAll ds = true → PyData.hasDictAll ds = false → PyData.canLayAll0 ds = true → piled (PyData.shownAll ds) ≤ 1925 * wtPs ds ∧ ∀ t ∈ PyData.shownAll ds, PyData.strOk t = true
  | [], _, _, _ => ⟨Nat.zero_le _, fun t h => by simp [PyData.shownAll] at h⟩
  | d :: ds, h, hd, hc => by
    simp only [PyData.showableAll, Bool.and_eq_true] at h
    simp only [PyData.hasDictAll, Bool.or_eq_false_iff] at hd
    simp only [PyData.canLayAll0, Bool.and_eq_true] at hc
    obtain ⟨a1, a2⟩ := shown_ok d h.1 hd.1 hc.1
    obtain ⟨b1, b2⟩ := shown_oks ds h.2 hd.2 hc.2
    refine ⟨?_, fun t ht => ?_⟩
    · show piled (d.shown :: PyData.shownAll ds) ≤ 1925 * (wtP d + 1 + wtPs ds)
      rw [piled_cons]
      omega
    · rcases List.mem_cons.mp ht with rfl | ht
      · exact a2
      · exact b2 t ht
end
end Q
/-! QL: sorted(xs, key=lambda place: (-left[place], place)), left a captured list of ints. lam_make3 is HandS.Lambda's lam_make2, with what is gone told too. -/
namespace Q
open PySem L2 PySem.Spec PyProof.Rows LamX
section
variable {X : Cx} {pins : List (Addr × Obj)} {σ : L2.St} {H : Hp} {s : Shared}
theorem lam_make3 {T : List (Addr × Str)} {c P : Addr} {params : Arguments} {body : Expr} {scope : Scope} {pos : Pos} {E : Value → Shared → Prop} {Q : Value → Shared → Prop} (I : Inv X pins σ H s) (TB : TabB X.base X.mg c P) (hcode : X.env.code = .ref c)
    (hm : (P, X.env.qual ++ "<lambda>") ∈ T) (hu : ∀ p ∈ T, p.1 = P → p.2 = X.env.qual ++ "<lambda>") (hT : Tabs T H) (hdef : defaultsOf params X.env = ([], [])) (hfree : ∀ y ∈ scope.names, y.2 = .free → ∃ c, X.env.cells.lookup y.1 = some c)
    (h : ∀ (f c' : Addr) (pm ctv : Value) (H1 : Hp) (s' : Shared), Inv X pins σ H1 s' → ExtN H H1 → (∀ b, H1 b = none → H b = none) → Tabs T H1 →
      s'.heap.get? f = some (PySem.W.kla_obj "<lambda>" (X.env.qual ++ "<lambda>") params body scope (cloFrom X.env.cells scope.names []) pm c' ctv) → H1 c' = some (CodeO c' (X.env.qual ++ "<lambda>")) → Q (.ref f) s') :
    wpAny (model X.prog X.w) X.A (eval (.Lambda params body scope pos) X.env) Q E s := by
  obtain ⟨ps, hP, ht, ha⟩ := hT _ hm
  refine PySem.W.kla_eval hdef ?_
  have bP : s.heap.BuiltinsAt X.mg P := TB.bm.keeps I.bk
  have hP' : s.heap.get? P = some { cls := .none, data := .fields ps } := I.hok P _ hP
  cases hc : codeAmong pos ps.toList with
  | none =>
    refine PySem.W.kla_makeFunction (mg := X.mg) (c := c) (P := P) (ps := ps) (closure_ok hfree) I.ok.glob (I.mod.glob.keeps I.bk) hcode (TB.code.keeps I.bk) hP' ht hc TB.gP bP fun c' ctv h' tk hx hge hlt hrec htb => ?_
    obtain ⟨c2, oc, vs, t, e2, hoc, hd, hv⟩ := hrec
    cases e2
    have hsz : s.heap.objs.size ≤ h'.objs.size := Nat.le_trans hge (Nat.le_of_lt hlt)
    have nC : H c' = none := I.hok.fresh hge
    have I1 := inv_table (t' := tk) (more := #[rawInt pos.line, rawInt pos.col, .ref c']) (h' := h'.push (PySem.W.kla_obj "<lambda>" (X.env.qual ++ "<lambda>") params body scope (cloFrom X.env.cells scope.names []) ((X.mg "__name__").getD .none) c' ctv)) I hP
      (fun b o hb e => Heap.get?_push_of_some _ (hx b o hb e)) (Heap.get?_push_of_some _ htb) hge ⟨oc, vs, t, Heap.get?_push_of_some _ hoc, hd, hv⟩
    have hE : ExtN H (upd (upd H P (.tbl (ps ++ #[rawInt pos.line, rawInt pos.col, .ref c']))) c' (CodeO c' (X.env.qual ++ "<lambda>"))) := fun b o e n => by
      rw [upd_ne (ne_of_none e nC), upd_ne (fun z => n ps (Option.some.inj (e.symm.trans (by rw [z]; exact hP))))]
      exact e
    have eL : (ps ++ #[rawInt pos.line, rawInt pos.col, .ref c']).toList = ps.toList ++ [rawInt pos.line, rawInt pos.col, .ref c'] := by simp
    refine h h'.objs.size c' ((X.mg "__name__").getD .none) ctv _ _ I1 hE (fun b hb => ?_) (fun p hp => ?_) (Heap.get?_push_size _ rfl) upd_same
    · by_cases h1 : b = c'
      · rw [h1]; exact nC
      · rw [upd_ne h1] at hb
        by_cases h2 : b = P
        · rw [h2, upd_same] at hb; cases hb
        · rw [upd_ne h2] at hb; exact hb
    · by_cases hb : p.1 = P
      · rw [hu p hp hb, hb]
        refine ⟨_, by rw [upd_ne (ne_of_none hP nC), upd_same], by rw [eL]; exact PySem.TriplesOk_snoc _ _ _ _ ht, fun p' cv hcv => ?_⟩
        rw [eL] at hcv
        rcases among_app _ ht hcv with z | z
        · obtain ⟨c0, e1, e2⟩ := ha p' cv z
          exact ⟨c0, e1, hE _ _ e2 codeO_ne⟩
        · exact ⟨c', z, upd_same⟩
      · obtain ⟨ps', a1, a2, a3⟩ := hT p hp
        refine ⟨ps', by rw [upd_ne (ne_of_none a1 nC), upd_ne hb]; exact a1, a2, fun p' cv hcv => ?_⟩
        obtain ⟨c0, e1, e2⟩ := a3 p' cv hcv
        exact ⟨c0, e1, hE _ _ e2 codeO_ne⟩
  | some cv =>
    obtain ⟨c', e, hco⟩ := ha pos cv hc
    subst e
    refine PySem.W.kla_makeFunctionHit (mg := X.mg) (c := c) (P := P) (ps := ps) (closure_ok hfree) I.ok.glob (I.mod.glob.keeps I.bk) hcode (TB.code.keeps I.bk) hP' ht hc bP fun ctv h' tk hx hsz => ?_
    have I1 : Inv X pins σ H { s with heap := h'.push (PySem.W.kla_obj "<lambda>" (X.env.qual ++ "<lambda>") params body scope (cloFrom X.env.cells scope.names []) ((X.mg "__name__").getD .none) c' ctv), toks := tk } := I.kept fun b o e => Heap.get?_push_of_some _ (hx b o e)
    exact h h'.objs.size c' ((X.mg "__name__").getD .none) ctv H _ I1 (ExtN.refl H) (fun _ e => e) hT (Heap.get?_push_size _ rfl) hco
end
abbrev lamArgs (pa : Pos) : Arguments := { posonlyargs := [], args := [{ arg := "place", annotation := none, pos := pa }], vararg := none, kwonlyargs := [], kw_defaults := [], kwarg := none, defaults := [] }
abbrev lamSc : Scope := { kind := .function, names := [("place", .local), ("left", .free)], isGenerator := false, isCoroutine := false, more := [] }
abbrev lamBody (p1 p2 p3 p4 p5 p6 : Pos) (k : Nat) : Expr := .Tuple [.UnaryOp .USub (.Subscript (.Name "left" p1) (.Name "place" p2) p3) p4, .Name "place" p5] k p6
/-- one key -/
theorem lam_turn {prog : Program} {w : World} {A : Around} {s : Shared} {f c' cc L : Addr} {q : Str} {pm ctv : Value} {cl : List (Str × Addr)} {its : List Value} {cs : List Int} {n : Int} {t : Tok} {pa p1 p2 p3 p4 p5 p6 : Pos} {k : Nat}
    (hroom : A.depth < recursionLimit) (hlim : s.heap.NoLimit) (hf : s.heap.get? f = some (PySem.W.kla_obj "<lambda>" q (lamArgs pa) (lamBody p1 p2 p3 p4 p5 p6 k) lamSc cl pm c' ctv)) (hcr : s.heap.CodeRec (.ref c') q)
    (hcl : cl.lookup ("left" : Str) = some cc) (hcell : s.heap.IsCell cc (some (.ref L))) (hL : s.heap.IsList L its.toArray) (hi : IntsAre its cs) (h0 : 0 ≤ n) (h1 : n < cs.length) (hz : its.length ≤ sizeLine) :
    wpAny (model prog w) A (call (.ref f) [.int n t]) (PySem.W.KeyPure (.tuple [.int (-(cs.getD n.toNat 0)), .int n]) s) (fun _ _ => False) s := by
  refine wpAny_call (PySem.W.kla_callFunE hroom hf rfl rfl rfl rfl hcr ?_)
  have hb : bindArgs (PySem.W.kla_fn "<lambda>" q (lamArgs pa) (lamBody p1 p2 p3 p4 p5 p6 k) lamSc cl pm (.ref c') ctv) ⟨[.int n t], []⟩ = pure [(("place" : Str), Value.int n t)] := by rfl
  rw [hb]
  have hcn : ∀ x ∈ lamSc.names, x.2 ≠ .cell := by decide
  have hln : ∀ x ∈ ([(("place" : Str), Value.int n t)] : List (Str × Value)), lamSc.names.lookup x.1 = some .local := by
    intro x hx
    obtain rfl : x = (("place" : Str), Value.int n t) := by simpa using hx
    rfl
  refine wpAny_pure (wpAny_newFunctionEnv hcn hln (fun h₁ hns hsb => ⟨hlim.fresh _ hsb, ?_⟩) rfl)
  have kp : ∀ b o, s.heap.get? b = some o → h₁.get? b = some o := fun b o e => hsb.extBut b o (Nat.ne_of_lt (Heap.lt_size e)) (Heap.get?_push_of_some _ e)
  refine PySem.W.kla_codeExpr ?_
  have pl : ∀ {M : Model} {A' : Around} {E' : Value → Shared → Prop} {Q' : Value → Shared → Prop} {s' : Shared} {env : Env} {ps : Pos} (hs : s'.heap.Ns env.locals fun x => ([(("place" : Str), Value.int n t)] : List (Str × Value)).reverse.lookup x) (hsc : env.scope = lamSc), Q' (.int n t) s' → wpAny M A' (eval (.Name "place" ps) env) Q' E' s' := by
    intro M A' E' Q' s' env ps hs hsc q
    exact wpAny_Name (wpAny_loadName_local (by rw [hsc]) (by unfold Env.kindOf; rw [hsc]; rfl) hs rfl q) (by decide)
  have hlen := hi.length
  have hin : n.toNat < its.length := by omega
  obtain ⟨u, hu⟩ : ∃ u, its[n.toNat]? = some u := ⟨_, List.getElem?_eq_getElem hin⟩
  obtain ⟨t2, e2⟩ := PyProof.Rows.IntsAre.int_at hi n.toNat u hu
  subst e2
  have hL1 : h₁.IsList L its.toArray := by
    obtain ⟨o, ho, r⟩ := hL
    exact ⟨o, kp _ _ ho, r⟩
  have hc1 : h₁.IsCell cc (some (.ref L)) := by
    obtain ⟨o, ho, r⟩ := hcell
    exact ⟨o, kp _ _ ho, r⟩
  refine wpAny_Tuple_spliced (Calls.spliced_cons (UnaryOp_ (Subscript_ (wpAny_Name (wpAny_loadName_free (c := cc) (v := .ref L) rfl (by rfl) hcl hc1 ?_) (by decide)))) )
  refine pl hns rfl ?_
  refine item_listR hL1 h0 (by have := line63; omega) (by simpa using hu) ?_
  refine PyProof.Rows.neg_int ?_
  refine Calls.spliced_cons (pl hns rfl ?_)
  refine Calls.spliced_nil ⟨by show 2 ≤ sizeLine; decide, ?_⟩
  refine ⟨_, _, rfl, fun b o e => Heap.get?_push_of_some _ (kp b o e), ?_⟩
  exact .tuple (Heap.get?_push_size _ rfl) rfl rfl (.cons (.int _ _) (.cons (.int _ _) .nil))
/-- by the greatest in cs first, then the least -/
def leKey (cs : List Int) (a b : Int) : Bool := decide (-(cs.getD a.toNat 0) < -(cs.getD b.toNat 0) ∨ (-(cs.getD a.toNat 0) = -(cs.getD b.toNat 0) ∧ a ≤ b))
def tSortLam (K : PySem.W.Frag) (T : List (Addr × Str)) (i : Nat) (te : TE) : TE := fun σ H Q => te σ H fun x H1 => Tabs T H1 ∧ ∃ (l c : Addr) (ns cs : List Int), x = .ref l ∧ SqL K H1 l (ns.map V.int) ∧ σ[i]? = some (some (.ref c)) ∧ SqL K H1 c (cs.map V.int) ∧ (∀ n ∈ ns, 0 ≤ n ∧ n < cs.length) ∧
  ∀ (H2 : Hp) (p : Addr), ExtN H1 H2 → (∀ b, H2 b = none → H1 b = none) → Tabs T H2 → H2 p = none → Q (.ref p) (upd H2 p (.lst ((ns.mergeSort (leKey cs)).map V.int)))
theorem each_int : ∀ {l : List Value} {ks : List Int}, IntsAre l ks → PySem.W.EachIs (fun v k => ∃ t, v = Value.int k t) l ks
  | _, _, .nil => .nil
  | _, _, .cons k t h => .cons ⟨t, rfl⟩ (each_int h)
theorem int_each : ∀ {l : List Value} {ks : List Int}, PySem.W.EachIs (fun v k => ∃ t, v = Value.int k t) l ks → IntsAre l ks
  | _, _, .nil => .nil
  | _, _, .cons ⟨t, e⟩ h => by subst e; exact .cons _ t (int_each h)
section
variable {X : Cx} {e : Expr} {te : TE}
theorem pe_sortLam {T : List (Addr × Str)} {c P : Addr} {i : Nat} {p pos kpos lpos pa p1 p2 p3 p4 p5 p6 : Pos} {k : Nat} (hg : Gl X "sorted") (hm : X.mg "sorted" = none) (hc : X.calm = true) (hr : X.A.depth < recursionLimit) (hu : X.A.units + 64 < cLine)
    (TB : TabB X.base X.mg c P) (hcode : X.env.code = .ref c) (hmT : (P, X.env.qual ++ "<lambda>") ∈ T) (huT : ∀ q ∈ T, q.1 = P → q.2 = X.env.qual ++ "<lambda>") (hN : X.N[i]? = some ("left" : Str)) (hv : X.env.scope.names.lookup ("left" : Str) = some .cell)
    (he : PE X e te) (hs : starEach [e] X.env = (false, eval e X.env) :: starEach [] X.env) :
    PE X (.Call (.Name "sorted" p) [e] [{ arg := some "key", value := .Lambda (lamArgs pa) (lamBody p1 p2 p3 p4 p5 p6 k) lamSc lpos, pos := kpos }] pos) (tSortLam X.K T i te) := by
  refine ⟨fun pins s σ H Q I h => ?_⟩
  refine wpAny_Call_Name_kw (ld_blt I hg hm (show bootBuiltins "sorted" = some (.builtin "sorted") by decide +kernel) ?_)
  have hs2 : backTo pos (starEach [e] X.env) = (false, eval e X.env) :: backTo pos (starEach [] X.env) := by rw [hs]; rfl
  refine PyProof.Rows.callWith_kw ?_ hs2 (by rw [hs]; rfl) (by rfl) (by rfl)
  rw [hs2]
  refine Calls.spliced_cons (thn (he.run pins s σ H _ I h) fun u s1 ⟨x, H1, I1, r1, hT, l, cl, ns, cs, ex, hl, hcl, hcs, hin, q1⟩ => ?_)
  subst ex
  cases r1
  refine Calls.spliced_nil ?_
  show wpAny _ _ (evalAll [(do let v ← eval (.Lambda (lamArgs pa) (lamBody p1 p2 p3 p4 p5 p6 k) lamSc lpos) X.env; standAt pos; pure v)]) _ _ s1
  have hfree : ∀ y ∈ lamSc.names, y.2 = .free → ∃ c, X.env.cells.lookup y.1 = some c := by
    intro y hy e2
    have hy2 : y = (("place" : Str), NameKind.local) ∨ y = (("left" : Str), NameKind.free) := by simpa using hy
    rcases hy2 with rfl | rfl
    · cases e2
    · exact I1.ok.has _ (.inl hv)
  refine wpAny_evalAll_cons (wpAny_bind (lam_make3 I1 TB hcode hmT huT hT rfl hfree fun f c' pm ctv H2 s2 I2 hE hlive hT2 hf hco => wpAny_bind (wpAny_standAt (wpAny_pure (wpAny_evalAll_nil ?_)))))
  show wpAny _ _ (call (.builtin "sorted") [.ref l] [(("key" : Str), Value.ref f)]) _ _ s2
  -- what is captured
  obtain ⟨cc, hcc⟩ := hfree (("left" : Str), .free) (by simp) rfl
  have hclo : (cloFrom X.env.cells lamSc.names []).lookup ("left" : Str) = some cc := by
    show ([(("left" : Str), (X.env.cells.lookup ("left" : Str)).getD 0)] : List (Str × Addr)).lookup ("left" : Str) = some cc
    rw [hcc]; rfl
  have hcell : s2.heap.IsCell cc (some (.ref cl)) := by
    obtain ⟨m, hn, hlk⟩ := I2.loc
    obtain ⟨u, ru, lk⟩ := hlk i ("left" : Str) _ hN hcl (.inr (.inl hv))
    cases ru
    rcases lk with ⟨k1, _⟩ | ⟨_, c2, e2, z⟩
    · have k1 : X.env.scope.names.lookup ("left" : Str) = some .local := k1
      rw [hv] at k1; cases k1
    · rw [hcc] at e2; cases e2; exact z
  have ext : ∀ {a : Addr} {vs : List V}, SqL X.K H1 a vs → SqL X.K H2 a vs := fun {a vs} q => by
    rcases q with (q | ⟨o, q⟩) | q
    · exact .inl (.inl (hE _ _ q fun _ e => nomatch e))
    · exact .inl (.inr ⟨o, hE _ _ q fun _ e => nomatch e⟩)
    · exact .inr q
  obtain ⟨its, rv, pl, hz⟩ := I2.list (ext hl)
  obtain ⟨its2, rv2, pl2, hz2⟩ := I2.list (ext hcs)
  have hi := rv.ints
  have hi2 := rv2.ints
  have hlen : ns.length ≤ sizeLine := by rw [List.length_map] at hz; exact hz
  have hlen2 : its2.length ≤ sizeLine := by rw [← rv2.length]; exact hz2
  have hli : its.length = ns.length := hi.length
  refine PySem.W.sorted_key_data (b := false) (bs := ns) (R := fun v n => ∃ t, v = Value.int n t) (fun n => .tuple [.int (-(cs.getD n.toNat 0)), .int n]) pl.isList (by simpa using each_int hi)
    (PySem.W.AllAlike.of fun _ _ => by simp [PySem.W.alike, PySem.W.alikeAll]) (PySem.W.Sortable.tuples fun _ => ⟨_, _, rfl⟩) hlen (fun n _ => by show X.A.units + 2 + _ < cLine; simp [PyData.depth, PyData.depthAll]; omega)
    (PyProof.Rows.ksk_s1 _ _) (fun _ => PyProof.Rows.ksk_l1 _ _) (fun _ => PyProof.Rows.ksk_t1 _ _) (fun v n ⟨t, ev⟩ hn h' tk kp => ?_) fun out ct h' tk kp hfr hD hol hout => ?_
  · subst ev
    obtain ⟨c0, oc, vs, t0, e0, hoc, hdc, hvc⟩ := NdefX.codeO_at I2.hok hco
    refine lam_turn (L := cl) (s := { s2 with heap := h', toks := tk }) (by show X.A.depth < recursionLimit; exact hr) (I2.nolimit.keeps kp) (kp _ _ hf) ⟨c0, oc, vs, t0, e0, kp _ _ hoc, hdc, hvc⟩ hclo ?_ ?_ hi2 (hin n hn).1 (hin n hn).2 hlen2
    · obtain ⟨o, ho, r⟩ := hcell
      exact ⟨o, kp _ _ ho, r⟩
    · obtain ⟨o, ho, r⟩ := pl2.isList
      exact ⟨o, kp _ _ ho, r⟩
  · have e3 : ns.mergeSort (PySem.W.dataLe false fun n : Int => .tuple [.int (-(cs.getD n.toNat 0)), .int n]) = ns.mergeSort (leKey cs) := by
      rw [PySem.W.dataLe_ii (fun n : Int => -(cs.getD n.toNat 0)) (fun n => n)]
      rfl
    rw [e3] at hout
    have hn : H2 (s2.heap.objs.size + 1) = none := I2.hok.fresh (Nat.le_succ _)
    have ho := int_each hout
    have hl3 : ((ns.mergeSort (leKey cs)).map V.int).length ≤ sizeLine := by
      rw [List.length_map, List.length_mergeSort]
      exact hlen
    exact ⟨.ref _, upd H2 (s2.heap.objs.size + 1) (.lst ((ns.mergeSort (leKey cs)).map V.int)), I2.laid (t' := tk) (fun b o e => kp b o e) (Nat.le_succ _) ⟨hl3, out, ct, vals_of_ints ho, hD⟩, rfl, q1 H2 _ hE hlive hT2 hn⟩
end
end Q
/-! QE: sums of bools and ints, xs * n, t[::-1], min and max of data. -/
namespace Q
open PySem L2 PySem.Spec PyProof.Rows HT
section
variable {X : Cx}
/-! ### bools among ints -/
def rAddB : R2 := fun x y H Q => (∃ i k, x = .int i ∧ y = .bl k ∧ Q (.int (i + b2i k)) H) ∨ ∃ k i, x = .bl k ∧ y = .int i ∧ Q (.int (b2i k + i)) H
def rSubB : R2 := fun x y H Q => (∃ i k, x = .int i ∧ y = .bl k ∧ Q (.int (i - b2i k)) H) ∨ ∃ k i, x = .bl k ∧ y = .int i ∧ Q (.int (b2i k - i)) H
theorem op_addB : OpR X (binaryOp .Add) rAddB := by
  intro pins s σ H x y v u Q I rx ry h
  rcases h with ⟨i, k, rfl, rfl, q⟩ | ⟨k, i, rfl, rfl, q⟩
  · obtain ⟨t, rfl⟩ := rx
    cases ry
    exact add_int_bool ⟨.int (i + b2i k), H, I.tok _, ⟨_, rfl⟩, q⟩
  · obtain ⟨t, rfl⟩ := ry
    cases rx
    exact PySem.IntBool.add_bool_int ⟨.int (b2i k + i), H, I.tok _, ⟨_, rfl⟩, q⟩
theorem op_subB : OpR X (binaryOp .Sub) rSubB := by
  intro pins s σ H x y v u Q I rx ry h
  rcases h with ⟨i, k, rfl, rfl, q⟩ | ⟨k, i, rfl, rfl, q⟩
  · obtain ⟨t, rfl⟩ := rx
    cases ry
    exact PySem.IntBool.sub_int_bool ⟨.int (i - b2i k), H, I.tok _, ⟨_, rfl⟩, q⟩
  · obtain ⟨t, rfl⟩ := ry
    cases rx
    exact PySem.IntBool.sub_bool_int ⟨.int (b2i k - i), H, I.tok _, ⟨_, rfl⟩, q⟩
end

/-! ### tuple * int -/
theorem tuple_mul_same (l : Addr) (items : Array Value) (n : Nat) (dd : Option Addr) (sl : Array (Option Value)) (x : Int) (u : Tok) (c0 : (decide (x < -(2 ^ 63)) || decide (x ≥ 2 ^ 63)) = false) (c1 : (items.isEmpty || x == 1) = true) :
    Meets (Builtin.«tuple.__mul__» ⟨[.ref l, .int x u], []⟩) (fun _ R s => s.heap.get? l = some { cls := .type "tuple", dict := dd, data := .seq items n, slots := sl } ∧ R (.ok (.ret (Value.ref l))) s) :=
  .of_wp fun prog w A R s h => by
    obtain ⟨hp, g, d, tk, os⟩ := s
    obtain ⟨hl, h⟩ := h
    have f1 := AutoSeq1.idx_int
    wp_walk using wpAny_loadPart' hl
    repeat (first
      | (refine wpAny_ite_false (decide_eq_false (by rw [c0]; exact Bool.false_ne_true)) ?_; wp_walk using wpAny_loadPart' hl)
      | (refine wpAny_ite_true (decide_eq_true (by rw [c1])) ?_; wp_walk using wpAny_loadPart' hl))
    exact ⟨_, rfl, h⟩
theorem tuple_mul_none (l : Addr) (items : Array Value) (n : Nat) (dd : Option Addr) (sl : Array (Option Value)) (x : Int) (u : Tok) (c0 : (decide (x < -(2 ^ 63)) || decide (x ≥ 2 ^ 63)) = false) (c1 : (items.isEmpty || x == 1) = false) (c2 : (decide (x ≤ 0) || items.isEmpty) = true) :
    Meets (Builtin.«tuple.__mul__» ⟨[.ref l, .int x u], []⟩) (fun _ R s => s.heap.get? l = some { cls := .type "tuple", dict := dd, data := .seq items n, slots := sl } ∧
      R (.ok (.ret (Value.ref s.heap.objs.size))) { s with heap := s.heap.push { cls := Value.type "tuple", data := Data.seq #[] }, toks := s.toks }) :=
  .of_wp fun prog w A R s h => by
    obtain ⟨hp, g, d, tk, os⟩ := s
    obtain ⟨hl, h⟩ := h
    have f1 := AutoSeq1.idx_int
    wp_walk using wpAny_loadPart' hl
    repeat (first
      | (refine wpAny_ite_false (decide_eq_false (by rw [c0]; exact Bool.false_ne_true)) ?_; wp_walk using wpAny_loadPart' hl)
      | (refine wpAny_ite_false (decide_eq_false (by rw [c1]; exact Bool.false_ne_true)) ?_; wp_walk using wpAny_loadPart' hl)
      | (refine wpAny_ite_true (decide_eq_true (by rw [c2])) ?_; wp_walk using wpAny_loadPart' hl))
    exact ⟨_, rfl, h⟩
def rRepA (K : PySem.W.Frag) : R2 := fun x y H Q => ∃ l k xs, x = .ref l ∧ y = .int k ∧ SqT K H l xs ∧ -1000 ≤ k ∧ k ≤ 1000 ∧ xs.length ≤ 1000 ∧ (xs = [] ∨ k = 1 → Q (.ref l) H) ∧
  (xs ≠ [] → k ≠ 1 → ∀ p, H p = none → Q (.ref p) (upd H p (.tup (List.replicate k.toNat xs).flatten)))
section
variable {X : Cx}
theorem op_repA : OpR X (binaryOp .Mult) (rRepA X.K) := by
  intro pins s σ H x y v u Q I rx ry h
  obtain ⟨l, k, xs, rfl, rfl, hT, h1, h2, hz, q1, q2⟩ := h
  by_cases hb : xs ≠ [] ∧ 2 ≤ k
  · exact op_repT pins s σ H _ _ v u Q I rx ry ⟨l, k, xs, rfl, rfl, hT, hb.1, hb.2, h2, hz, q2 hb.1 (by omega)⟩
  cases rx
  obtain ⟨t, rfl⟩ := ry
  obtain ⟨its, r, ⟨⟨cls, dd, data, sl⟩, ho, hc, n, hd⟩, hs⟩ := I.tuple hT
  simp only at hc hd
  subst hc hd
  have hle : its.length = xs.length := r.length.symm
  have c0 : (decide (k < -(2 ^ 63)) || decide (k ≥ 2 ^ 63)) = false := by
    rw [decide_eq_false (by omega), decide_eq_false (by omega)] <;> rfl
  have hi : its.toArray.isEmpty = true ↔ xs = [] := by
    constructor
    · intro e
      have : its = [] := by simpa using e
      rw [this] at hle
      exact List.eq_nil_of_length_eq_zero hle.symm
    · intro e
      rw [e] at hle
      have : its = [] := List.eq_nil_of_length_eq_zero hle
      rw [this]; rfl
  refine wpAny_binaryOp_repeat_ref (T := "tuple") (U := "int") (by decide) ⟨_, ho, rfl⟩ (fun s' => typeIs_int s' k t) noFill_tuple_mul F.fills_int_mul F.slot_int_rmul repeat_tuple F.slot_int_index.lookup
    (call_meets F.slot_int_rmul (typeIs_int s k t) F.entry_int_rmul (F.args_int_rmul_2 _ _) (int_rmul_tuple k t l its.toArray n dd sl)
      ⟨ho, rfl, ⟨_, ho, rfl⟩, ?_⟩)
  by_cases h3 : xs = [] ∨ k = 1
  · refine call_meets F.slot_tuple_mul ⟨_, ho, rfl⟩ F.entry_tuple_mul (F.args_tuple_mul_2 _ _) (tuple_mul_same l its.toArray n dd sl k t c0 ?_) ⟨ho, ⟨.ref l, H, I, rfl, q1 h3⟩⟩
    rcases h3 with e | e
    · rw [hi.mpr e]; rfl
    · rw [e]; simp
  · have hx : xs ≠ [] := fun e => h3 (.inl e)
    have hk : k ≠ 1 := fun e => h3 (.inr e)
    have hk0 : k ≤ 0 := Int.not_lt.mp fun h => hb ⟨hx, by omega⟩
    have e1 : its.toArray.isEmpty = false := Bool.eq_false_iff.mpr fun h => hx (hi.mp h)
    refine call_meets F.slot_tuple_mul ⟨_, ho, rfl⟩ F.entry_tuple_mul (F.args_tuple_mul_2 _ _) (tuple_mul_none l its.toArray n dd sl k t c0 (by rw [e1, Bool.false_or]; exact beq_eq_false_iff_ne.mpr hk) (by rw [decide_eq_true hk0]; rfl)) ⟨ho, ?_⟩
    have e2 : (List.replicate k.toNat xs).flatten = [] := by
      have : k.toNat = 0 := by omega
      rw [this]; rfl
    refine ⟨.ref s.heap.objs.size, _, I.laid (t' := s.toks) (o := .tup (List.replicate k.toNat xs).flatten) (fun b ob q => Heap.get?_push_of_some _ q) (Nat.le_refl _) ?_, rfl, q2 hx hk _ (I.hok.fresh (Nat.le_refl _))⟩
    rw [e2]
    exact ⟨by rw [sizeLine_eq]; simp, [], .nil, IsTup.new _ _⟩
/-! ### list * int -/
def rRepL (K : PySem.W.Frag) : R2 := fun x y H Q => ∃ l k xs, x = .ref l ∧ y = .int k ∧ SqL K H l xs ∧ -1000 ≤ k ∧ k ≤ 1000 ∧ xs.length ≤ 1000 ∧ ∀ p, H p = none → Q (.ref p) (upd H p (.lst (List.replicate k.toNat xs).flatten))
theorem op_repL : OpR X (binaryOp .Mult) (rRepL X.K) := by
  intro pins s σ H x y v u Q I rx ry h
  obtain ⟨l, k, xs, rfl, rfl, hL, h1, h2, hz, q⟩ := h
  cases rx
  obtain ⟨t, rfl⟩ := ry
  obtain ⟨its, r, ht, _⟩ := I.list hL
  obtain ⟨⟨cls, dd, data, sl⟩, ho, hc, n, hd⟩ := ht.isList
  simp only at hc hd
  subst hc hd
  have hle : its.length = xs.length := r.length.symm
  have hm : its.length * k.toNat ≤ 1000 * 1000 := Nat.mul_le_mul (by omega) (by omega)
  have hz' : its.toArray.size * k.toNat ≤ 1000000 := by rw [List.size_toArray]; exact hm
  refine wpAny_binaryOp_repeat_ref (T := "list") (U := "int") (by decide) ⟨_, ho, rfl⟩ (fun s' => typeIs_int s' k t) noFill_list_mul F.fills_int_mul F.slot_int_rmul repeat_list F.slot_int_index.lookup
    (call_meets F.slot_int_rmul (typeIs_int s k t) F.entry_int_rmul (F.args_int_rmul_2 _ _) (lm_int_rmul_list_any k t l its.toArray n dd sl)
      ⟨ho, rfl, ⟨_, ho, rfl⟩, call_meets F.slot_list_mul ⟨_, ho, rfl⟩ F.entry_list_mul (F.args_list_mul_2 _ _)
        (lm_list_mul_any l its.toArray n dd sl k t (by simp [Builtin.List.listFitsIndex]; omega) (by omega) (by simp [Builtin.List.listTooLong, sizeLine]; omega))
        ⟨ho, ?_⟩⟩)
  rw [listMul_foldl_if]
  exact ⟨.ref _, _, I.lnew (t' := s.toks) (r.rep k.toNat) (by rw [PyProof.Rows.lm_len_rep_flat, sizeLine_eq, Nat.mul_comm, ← hle]; omega), rfl, q _ I.fresh⟩
end

/-! ### t[::-1] -/
section
variable {prog : Program} {w : World} {A : Around} {E : Value → Shared → Prop} {s : Shared}
theorem fm_congr {α β : Type} {f g : α → Option β} : ∀ {l : List α}, (∀ x ∈ l, f x = g x) → l.filterMap f = l.filterMap g
  | [], _ => rfl
  | x :: l, h => by
    rw [List.filterMap_cons, List.filterMap_cons, h x List.mem_cons_self, fm_congr fun y m => h y (List.mem_cons_of_mem _ m)]
theorem rev_pick (xs : Array Value) : ((List.range xs.size).filterMap fun (m : Nat) => xs[((xs.size : Int) - 1 + (m : Int) * (-1)).toNat]?).toArray = xs.toList.reverse.toArray := by
  have e : ((List.range xs.size).filterMap fun (m : Nat) => xs[((xs.size : Int) - 1 + (m : Int) * (-1)).toNat]?) = ((List.range xs.size).map fun k => xs.size - 1 - k).filterMap (xs[·]?) := by
    rw [List.filterMap_map]
    refine fm_congr fun m hm => ?_
    have := List.mem_range.mp hm
    have e2 : ((xs.size : Int) - 1 + (m : Int) * (-1)).toNat = xs.size - 1 - m := by omega
    show xs[((xs.size : Int) - 1 + (m : Int) * (-1)).toNat]? = xs[xs.size - 1 - m]?
    rw [e2]
  rw [e, PySem.W.krv_range, List.filterMap_reverse, PySem.W.krv_all]
theorem sliceApplied_rev {sl : Addr} {vl vu vk : Value} {n : Nat} {Q : Int × Int × Nat → Shared → Prop} (hs : s.heap.IsSliceOf sl vl vu vk) (pl : IsPart vl none) (pu : IsPart vu none) (pk : IsPart vk (some (-1)))
    (h : Q ((n : Int) - 1, -1, n) s) : wpAny (model prog w) A (Builtin.Slice.sliceApplied (.ref sl) (pure (n : Int))) Q E s := by
  obtain ⟨os, hos, hcs, hds⟩ := id hs
  unfold Builtin.Slice.sliceApplied Builtin.Slice.sliceFields
  refine wpAny_bind (wpAny_bind (wpAny_field hos hds (x := vl) rfl (wpAny_bind (wpAny_field hos hds (x := vu) rfl (wpAny_bind (wpAny_field hos hds (x := vk) rfl (wpAny_pure ?_)))))))
  refine wpAny_bind (slicePart_ pk ?_)
  show wpAny _ _ (if ((-1 : Int) == 0) = true then _ else _) _ _ s
  rw [if_neg (by decide)]
  refine wpAny_bind (slicePart_ pl (wpAny_bind (slicePart_ pu (wpAny_bind (wpAny_pure ?_)))))
  show wpAny _ _ (match Builtin.Slice.sliceAdjust none none (-1) (n : Int) with | (lo, hi) => pure (lo, (-1 : Int), Builtin.Slice.slicePlaces lo hi (-1))) _ _ s
  have e1 : Builtin.Slice.sliceAdjust none none (-1) (n : Int) = ((n : Int) - 1, -1) := by
    unfold Builtin.Slice.sliceAdjust
    simp
  have e2 : Builtin.Slice.slicePlaces ((n : Int) - 1) (-1) (-1) = n := by
    unfold Builtin.Slice.slicePlaces
    have h1 : ¬ ((-1 : Int) > 0) := by omega
    simp only [h1, if_false]
    have e3 : (- -1 : Int) = 1 := by decide
    rw [e3, Int.ediv_one]
    split <;> omega
  rw [e1]
  show wpAny _ _ (pure ((n : Int) - 1, (-1 : Int), Builtin.Slice.slicePlaces ((n : Int) - 1) (-1) (-1))) _ _ s
  rw [e2]
  exact wpAny_pure h
theorem getItem_tuple_rev {t sl : Addr} {items : Array Value} {vl vu vk : Value} {Q : Value → Shared → Prop} (ht : IsTup s.heap t items) (hs : s.heap.IsSliceOf sl vl vu vk) (pl : IsPart vl none) (pu : IsPart vu none) (pk : IsPart vk (some (-1)))
    (h : Q (.ref s.heap.objs.size) { s with heap := s.heap.push { cls := .type "tuple", data := .seq items.toList.reverse.toArray } })
    (hsz : items.size ≤ sizeLine) : wpAny (model prog w) A (getItem (.ref t) (.ref sl)) Q E s := by
  have htake : sizeOk (.seq items.toList.reverse.toArray) := by
    show items.toList.reverse.toArray.size ≤ sizeLine
    rw [List.size_toArray, List.length_reverse, Array.length_toList]
    exact hsz
  obtain ⟨os, hos, hcs, hds⟩ := id hs
  have hTs : s.TypeIs (.ref sl) "slice" := ⟨os, hos, hcs⟩
  unfold getItem
  try with_reducible refine wpAny_holding ?_
  first | refine wpAny_bind (wpAny_pure ?_) | skip
  refine wpAny_bind (wpAny_sequenceKey ht.typeIs (by decide) ?_)
  refine wpAny_bind (wpAny_callSpecial?_slot (name := Str.ofString "__getitem__") ht.typeIs PyProof.Rows.slot_tuple_getitem
    (wpAny_call_entry PyProof.Rows.slot_tuple_getitem ht.typeIs entry_tuple_getitem ?_ (args_tuple_getitem _ _)))
  show wpAny _ _ (Builtin.Tuple.tupleItemsOf (.ref t) >>= _) _ _ s
  refine wpAny_bind (tupleItemsOf_ ht ?_)
  refine wpAny_bind (wpAny_typeOf hTs ?_)
  rw [if_pos (by decide)]
  refine wpAny_bind (sliceApplied_rev hs pl pu pk ?_)
  have hno : ¬ ((((items.size : Int) - 1) == 0 && (-1 : Int) == 1 && items.size == items.size) = true) := by
    intro q
    rw [Bool.and_eq_true, Bool.and_eq_true] at q
    exact absurd q.1.2 (by decide)
  show wpAny _ _ (if (((items.size : Int) - 1) == 0 && (-1 : Int) == 1 && items.size == items.size) = true then _ else _) _ _ s
  rw [if_neg hno, rev_pick]
  first
    | exact wpAny_bind (m := Builtin.Tuple.tupleExact _) (wpAny_newObj_type (wpAny_pure ⟨_, rfl, wpAny_pure h⟩) htake)
    | exact wpAny_bind (m := Builtin.Tuple.tupleExact _) (wpAny_newObj_type (wpAny_bind (wpAny_pure (wpAny_pure ⟨_, rfl, wpAny_pure h⟩))) htake)
    | exact wpAny_bind (wpAny_bind (m := Builtin.Tuple.tupleExact _) (wpAny_newObj_type (wpAny_pure (wpAny_pure ⟨_, rfl, wpAny_pure h⟩)) htake))
    | exact wpAny_bind (wpAny_bind (m := Builtin.Tuple.tupleExact _) (wpAny_newObj_type (wpAny_pure ⟨_, rfl, wpAny_pure h⟩) htake))
end
section
variable {X : Cx}
def rRevA (K : PySem.W.Frag) : V → Hp → VK → Prop := fun x H Q => ∃ a xs, x = .ref a ∧ ((SqL K H a xs ∧ ∀ p, H p = none → Q (.ref p) (upd H p (.lst xs.reverse))) ∨ SqT K H a xs ∧ ∀ p, H p = none → Q (.ref p) (upd H p (.tup xs.reverse)))
def tRevA (K : PySem.W.Frag) (te : TE) : TE := fun σ H Q => te σ H fun x H1 => rRevA K x H1 Q
theorem pe_revA {e : Expr} {te : TE} {k : Nat} {p1 p2 p3 pos : Pos} (he : PE X e te) : PE X (.Subscript e (.Slice none none (some (.UnaryOp .USub (.Constant (.int 1) k p1) p2)) p3) pos) (tRevA X.K te) := by
  refine ⟨fun pins s σ H Q I h => ?_⟩
  refine Subscript_ (thn (he.run pins s σ H _ I h) fun v s1 ⟨x, H1, I1, r1, q1⟩ => ?_)
  obtain ⟨a, xs, ex, q⟩ := q1
  subst ex
  cases r1
  have hst : PO X (some (.UnaryOp .USub (.Constant (.int 1) k p1) p2)) (tPart (tUn (rU fun i => .int (-i)) (tC (.int 1)))) := po_some (pe_un un_neg pe_int)
  refine wpAny_Slice (thn (po_none.run pins s1 σ H1 (fun o H2 => o = none ∧ H2 = H1) I1 ⟨rfl, rfl⟩) fun vl s2 ⟨l, H2, I2, pl, el, e2⟩ => ?_)
  subst el e2
  refine thn (po_none.run pins s2 σ H2 (fun o H3 => o = none ∧ H3 = H2) I2 ⟨rfl, rfl⟩) fun vu s3 ⟨u, H3, I3, pu, eu, e3⟩ => ?_
  subst eu e3
  refine thn (hst.run pins s3 σ H3 (fun o H4 => o = some (-1) ∧ H4 = H3) I3 ⟨1, rfl, -1, rfl, rfl, rfl⟩) fun vs s4 ⟨o, H4, I4, ps, eo, e4⟩ => ?_
  subst eo e4
  have I5 : Inv X pins σ H4 { s4 with heap := s4.heap.push { cls := .type "slice", data := .fields #[vl, vu, vs] } } := I4.kept (t' := s4.toks) fun b ob q => Heap.get?_push_of_some _ q
  show wpAny (model X.prog X.w) X.A (subscriptTail e (.Slice none none (some (.UnaryOp .USub (.Constant (.int 1) k p1) p2)) p3) (.ref a) (.ref s4.heap.objs.size)) (EP X pins σ Q) X.xe { s4 with heap := s4.heap.push { cls := .type "slice", data := .fields #[vl, vu, vs] } }
  rcases q with ⟨hx, q⟩ | ⟨hx, q⟩
  · obtain ⟨its, r, ht, hz⟩ := I5.list hx
    have hlen := r.length
    refine tail_any (ops := [.ref a, .ref s4.heap.objs.size]) ht.isList.typeIs (PySem.slot_list_getitem.lookup) ?_ (by with_unfolding_all rfl)
    refine wpAny_getItem_list_slice ht.isList (Heap.IsSliceOf.new _ vl vu vs) pl pu ps (by decide) ?_ (by rw [List.size_toArray]; omega)
    rw [PySem.W.krv_pick]
    refine ⟨.ref _, _, I5.laid (t' := s4.toks) (o := .lst xs.reverse) (fun b ob q => Heap.get?_push_of_some _ q) (Nat.le_refl _) ?_, rfl, q _ (I5.hok.fresh (Nat.le_refl _))⟩
    exact ⟨by rw [List.length_reverse]; exact hz, _, 0, r.reverse, Heap.get?_push_size _ rfl⟩
  · obtain ⟨its, r, ht, hz⟩ := I5.tuple hx
    have hlen := r.length
    refine tail_any (ops := [.ref a, .ref s4.heap.objs.size]) ht.typeIs (PyProof.Rows.slot_tuple_getitem.lookup) ?_ (by with_unfolding_all rfl)
    refine getItem_tuple_rev ht (Heap.IsSliceOf.new _ vl vu vs) pl pu ps ?_ (by rw [List.size_toArray]; omega)
    refine ⟨.ref _, _, I5.laid (t' := s4.toks) (o := .tup xs.reverse) (fun b ob q => Heap.get?_push_of_some _ q) (Nat.le_refl _) ?_, rfl, q _ (I5.hok.fresh (Nat.le_refl _))⟩
    exact ⟨by rw [List.length_reverse]; exact hz, _, r.reverse, IsTup.new _ _⟩
end

/-! ### min and max of alike data -/
section
variable {X : Cx}
def ltP (a b : V × PyData) : Bool := PySem.W.dataLt a.2 b.2
def minP (p : V × PyData) (ps : List (V × PyData)) : V × PyData := ps.foldl (fun a y => if ltP y a then y else a) p
def maxP (p : V × PyData) (ps : List (V × PyData)) : V × PyData := ps.foldl (fun a y => if ltP a y then y else a) p
def rBestD (f : V × PyData → List (V × PyData) → V × PyData) (K : PySem.W.Frag) : List V → Hp → VK → Prop := fun vs H Q => ∃ (a : Addr) (p : V × PyData) (ps : List (V × PyData)), vs = [V.ref a] ∧ SqL K H a ((p :: ps).map (·.1)) ∧ DpAll K H ((p :: ps).map (·.1)) ((p :: ps).map (·.2)) ∧
  PySem.W.AlikeAll ((p :: ps).map (·.2)) ∧ (∀ q ∈ p :: ps, q.2.depth ≤ 60) ∧ Q (f p ps).1 H
theorem depthAll_le {n : Nat} : ∀ {ds : List PyData}, (∀ d ∈ ds, d.depth ≤ n) → PyData.depthAll ds ≤ n
  | [], _ => Nat.zero_le _
  | d :: ds, h => Nat.max_le.mpr ⟨h d List.mem_cons_self, depthAll_le fun x m => h x (List.mem_cons_of_mem _ m)⟩
theorem vals_at : ∀ {xs : List V} {us : List Value}, Vals xs us → ∀ {i : Nat} {u : Value}, us[i]? = some u → ∃ x, xs[i]? = some x ∧ RelV x u
  | _, _, .nil, i, u, h => by cases h
  | _, _, .cons r t, 0, u, h => by
    cases h
    exact ⟨_, rfl, r⟩
  | _, _, .cons r t, i + 1, u, h => by
    obtain ⟨x, e, r'⟩ := vals_at t (i := i) (u := u) h
    exact ⟨x, e, r'⟩
theorem best_at {f : V × PyData → V × PyData → Bool} {p : V × PyData} {ps : List (V × PyData)} {g : PyData → PyData → Bool} (hg : ∀ a b, f a b = g a.2 b.2) {its : List Value} (rv : Vals ((p :: ps).map (·.1)) its) {v : Value}
    (h : its[argBest (fun i j => g (((p :: ps).map (·.2)).getD i .none) (((p :: ps).map (·.2)).getD j .none)) ps.length]? = some v) : RelV (ps.foldl (fun a y => if f y a then y else a) p).1 v := by
  obtain ⟨h1, h2⟩ := PySem.W.argBest_fold f (V.non, PyData.none) p ps ps.length (Nat.le_refl _)
  rw [List.take_length] at h2
  have e : (fun i j => g (((p :: ps).map (·.2)).getD i .none) (((p :: ps).map (·.2)).getD j .none)) = fun i j => f ((p :: ps).getD i (V.non, PyData.none)) ((p :: ps).getD j (V.non, PyData.none)) := by
    have e1 : ∀ i, ((p :: ps).map (·.2)).getD i .none = ((p :: ps).getD i (V.non, PyData.none)).2 := fun i => by
      rw [List.getD_eq_getElem?_getD, List.getD_eq_getElem?_getD, List.getElem?_map]
      cases (p :: ps)[i]? <;> rfl
    funext i j
    rw [e1, e1, hg]
  rw [e] at h
  obtain ⟨x, hx, r⟩ := vals_at rv h
  rw [← h2]
  rw [List.getElem?_map] at hx
  rw [List.getD_eq_getElem?_getD]
  cases e2 : (p :: ps)[argBest (fun i j => f ((p :: ps).getD i (V.non, PyData.none)) ((p :: ps).getD j (V.non, PyData.none))) ps.length]? with
  | none => rw [e2] at hx; cases hx
  | some y =>
    rw [e2] at hx
    cases hx
    exact r
theorem cr_minD (hc : X.calm = true) (hu : X.A.units + 128 < cLine) : CallR X (.builtin "min") (rBestD minP X.K) := by
  intro pins s σ H vs us Q I r h
  obtain ⟨a, p, ps, rfl, hs, hd, hal, hdep, q⟩ := h
  obtain ⟨its, rv, hl, hz⟩ := I.list hs
  rw [Vals.ref1 r]
  obtain ⟨e1, e2⟩ := each_vals I rv hd
  obtain ⟨as, hr⟩ : ∃ as, ReadsAll s.heap its.toArray.toList ((p :: ps).map (·.2)) as := by
    have go : ∀ {ps : List (V × PyData)} {us : List Value}, PySem.W.EachIs (fun (v : Value) (b : V × PyData) => ∃ as, Reads s.heap v b.2 as) us ps → ∃ as, ReadsAll s.heap us (ps.map (·.2)) as := by
      intro ps us h
      induction h with
      | nil => exact ⟨_, .nil⟩
      | cons h t ih =>
        obtain ⟨as, h⟩ := h
        obtain ⟨bs, t⟩ := ih
        exact ⟨_, .cons h t⟩
    exact go e2
  have hn : its.toArray.size = ps.length + 1 := by
    have := rv.length
    rw [List.length_map, List.length_cons] at this
    rw [List.size_toArray]; omega
  have hda : PyData.depthAll ((p :: ps).map (·.2)) ≤ 60 := depthAll_le fun d hd => by
    obtain ⟨y, hy, rfl⟩ := List.mem_map.mp hd
    exact hdep y hy
  refine PySem.call_min_walkH (PySem.W.iter_listW (A := X.A.in1) (I.ok.hd hc) hl.isList fun s₂ e W st hfp hw hk => ?_)
  refine ⟨_, _, _, _, _, _, _, s.heap, _, rfl, W, st, hfp, by omega, hw, hk, PySem.W.cmpIn_lt (A := X.A.in1) hr hal (by show X.A.units + 1 + _ < _; omega), fun v s' hP m => ?_⟩
  obtain ⟨h', tk, rfl, hk'⟩ := PySem.W.moved_old e rfl m
  have e1 : its.toArray.size - 1 = ps.length := by omega
  rw [e1] at hP
  exact ⟨_, H, I.kept hk', best_at (g := PySem.W.dataLt) (fun _ _ => rfl) rv (by simpa using hP), q⟩
theorem cr_maxD (hc : X.calm = true) (hu : X.A.units + 128 < cLine) : CallR X (.builtin "max") (rBestD maxP X.K) := by
  intro pins s σ H vs us Q I r h
  obtain ⟨a, p, ps, rfl, hs, hd, hal, hdep, q⟩ := h
  obtain ⟨its, rv, hl, hz⟩ := I.list hs
  rw [Vals.ref1 r]
  obtain ⟨e1, e2⟩ := each_vals I rv hd
  obtain ⟨as, hr⟩ : ∃ as, ReadsAll s.heap its.toArray.toList ((p :: ps).map (·.2)) as := by
    have go : ∀ {ps : List (V × PyData)} {us : List Value}, PySem.W.EachIs (fun (v : Value) (b : V × PyData) => ∃ as, Reads s.heap v b.2 as) us ps → ∃ as, ReadsAll s.heap us (ps.map (·.2)) as := by
      intro ps us h
      induction h with
      | nil => exact ⟨_, .nil⟩
      | cons h t ih =>
        obtain ⟨as, h⟩ := h
        obtain ⟨bs, t⟩ := ih
        exact ⟨_, .cons h t⟩
    exact go e2
  have hn : its.toArray.size = ps.length + 1 := by
    have := rv.length
    rw [List.length_map, List.length_cons] at this
    rw [List.size_toArray]; omega
  have hda : PyData.depthAll ((p :: ps).map (·.2)) ≤ 60 := depthAll_le fun d hd => by
    obtain ⟨y, hy, rfl⟩ := List.mem_map.mp hd
    exact hdep y hy
  refine PySem.call_max_walkH (PySem.W.iter_listW (A := X.A.in1) (I.ok.hd hc) hl.isList fun s₂ e W st hfp hw hk => ?_)
  refine ⟨_, _, _, _, _, _, _, s.heap, _, rfl, W, st, hfp, by omega, hw, hk, PySem.W.cmpIn_gt (A := X.A.in1) hr hal (by show X.A.units + 1 + _ < _; omega), fun v s' hP m => ?_⟩
  obtain ⟨h', tk, rfl, hk'⟩ := PySem.W.moved_old e rfl m
  have e1 : its.toArray.size - 1 = ps.length := by omega
  rw [e1] at hP
  exact ⟨_, H, I.kept hk', best_at (f := fun y a => ltP a y) (g := fun a b => PySem.W.dataLt b a) (fun _ _ => rfl) rv (by simpa using hP), q⟩
end
end Q
/-! QG: promises of defs that are called while nothing is being written out (no guards): for str(data). -/
namespace Q
open PySem L2 PySem.Spec PyProof.Rows LamX
/-- FnOk, called while no container is being written out -/
structure FnG (P : Program) (w : World) (K : PySem.W.Frag) (mg : Str → Option Value) (base : Heap) (CX : CXT) (k : Nat) (f : Addr) (fd : FuncData) (ps : List Str) (sp : Sp) : Prop where
  len : ∀ vs H Q E, sp vs H Q E → vs.length = ps.length
  run : ∀ (A : Around) (outer : List Env) (s : Shared) (H : Hp) (args : Args) (us : List Value) (vs : List V) (Q : VK) (E : XK), Room k A → A.guards = some [] → Env0 P w K mg base A outer s H → BindsTo s fd args (ps.zip us) → Vals vs us → sp vs H Q E →
    codeAny (model P w) A (.call (.ref f) args) (CR CX outer P w H s Q E) s
section
variable {P : Program} {w : World} {K : PySem.W.Frag} {mg : Str → Option Value} {base : Heap} {CX : CXT} {k : Nat} {f : Addr} {fd : FuncData} {ps : List Str} {sp sp' : Sp}
theorem FnG.imp (F : FnG P w K mg base CX k f fd ps sp) (h : ∀ vs H Q E, sp' vs H Q E → sp vs H Q E) : FnG P w K mg base CX k f fd ps sp' :=
  ⟨fun vs H Q E q => F.len vs H Q E (h _ _ _ _ q), fun A outer s H args us vs Q E hr hg he hb hv hs => F.run A outer s H args us vs Q E hr hg he hb hv (h _ _ _ _ hs)⟩
theorem FnG.never (h : ∀ vs H Q E, ¬ sp vs H Q E) : FnG P w K mg base CX k f fd ps sp := ⟨fun vs H Q E q => absurd q (h vs H Q E), fun A outer s H args us vs Q E _ _ _ _ _ q => absurd q (h vs H Q E)⟩
theorem guards_deeper {A : Around} {env : Env} (h : A.guards = some []) : (A.deeper env).guards = some [] := by
  obtain ⟨hd, d, fr, gs, u⟩ := A
  cases h
  rfl
/-- a def of the text by its body -/
theorem fun_okG {x qual : Str} {st : Stmt} {N : List Str} (F : Fun K x qual st f fd) (S : FnScope N ps (defScope st)) (len : ∀ vs H Q E, sp vs H Q E → vs.length = ps.length)
    (hbody : ∀ (cdv : Value) (A : Around) (outer : List Env) (s : Shared) (H : Hp) (vs : List V) (Q : VK) (E : XK), Room k (A.deeper (envOfC qual (defScope st) s.heap.objs.size f cdv)) → A.guards = some [] → sp vs H Q E →
      cdv = fd.code →
      ∃ t, PSs (cxOf CX0 P w K mg base N qual (defScope st) f cdv A outer s H E).nox (defBody st) t ∧ t { nx := fun _ H' => Q .non H', rt := Q } (L2.start N vs) H) : FnG P w K mg base CX0 (k + 1) f fd ps sp := by
  obtain ⟨oc, od, kV, doc, pm, an, cdv, ct, osl, rfl, lk, hcd⟩ := F.ex
  refine ⟨len, fun A outer s H args us vs Q E hr hg e0 hb r hsp => ?_⟩
  have hl := len _ _ _ _ hsp
  have KX : K.In s.heap := e0.mod.kin.keeps fun b o e => (e0.bs b o e).1
  have lim : s.heap.NoLimit := e0.mod.nolimit.keeps fun b o e => (e0.bs b o e).1
  have hkind : ∀ y ∈ ps.zip us, (defScope st).names.lookup y.1 = some .local ∨ ((defScope st).names.lookup y.1 = some .cell ∧ ((cellsFrom (s.heap.objs.size + 1) (defScope st).names []).lookup y.1).isSome = true) := fun ⟨n, v⟩ hy => by
    rcases S.par n (List.of_mem_zip hy).1 with q | q
    · exact .inl q
    · exact .inr ⟨q, PySem.W.cellsFrom_some _ _ _ (.inl q)⟩
  refine codeAny_call_function hr.depth (KX _ _ lk) rfl S.co S.gen rfl (PySem.W.codeRec_of KX hcd) (hb _ _ _ _ ?_)
  refine wpAny_newFunctionEnv_cells S.kind hkind fun env he s1 x => ?_
  subst he
  refine ⟨lim.keeps x.toInCall.keep, codeAny_func ?_⟩
  obtain ⟨t, ht, hq⟩ := hbody cdv A outer s H vs Q E (hr.deeper _) hg hsp rfl
  have I : Inv (cxOf CX0 P w K mg base N qual (defScope st) f cdv A outer s H E) [] (L2.start N vs) H s1 := inv_start S hr.hd e0 hl r x
  refine wpAny_mono (ht.nox.run [] s1 (L2.start N vs) H _ I hq) (fun fl s' hs => ?_) fun e s' hs => hs
  have fin : ∀ {σ' : L2.St} {H' : Hp} {v : V} {u : Value}, Inv (cxOf CX0 P w K mg base N qual (defScope st) f cdv A outer s H E) [] σ' H' s' → L2.RelV v u → Q v H' → CE outer P w H s Q u s' :=
    fun {σ' H' v u} J rv q => ⟨v, H', J.os, J.bare, J.base, J.hok, rv, q⟩
  cases fl with
  | ret u =>
    obtain ⟨v, σ', H', J, rv, q⟩ := hs
    exact fin J rv q
  | next =>
    obtain ⟨σ', H', J, q⟩ := hs
    exact fin (v := V.non) (u := Value.none) J rfl q
  | brk =>
    obtain ⟨_, _, _, q⟩ := hs
    exact False.elim q
  | cont =>
    obtain ⟨_, _, _, q⟩ := hs
    exact False.elim q
end
section
variable {X : Cx} {k : Nat} {f : Addr} {fd : FuncData} {ps : List Str} {sp : Sp} {E : XK} {x : Str} {p pos : Pos} {e : Expr} {es : List Expr} {t : TA}
theorem run_fnG {pins : List (Addr × Obj)} {σ : L2.St} {H : Hp} {s : Shared} {Q : VK} {us : List Value} {vs : List V} (F : FnG X.prog X.w X.K X.mg X.base CX0 k f fd ps sp) (hr : Room k X.A) (hgd : X.A.guards = some []) (hb : Binds X.K fd ps []) (hx : Passes CX0 X E)
    (I : Inv X pins σ H s) (r : Vals vs us) (h : sp vs H Q E) : wpAny (model X.prog X.w) X.A (call (.ref f) us) (EP X pins σ Q) X.xe s := by
  have hl : us.length = ps.length := by rw [← r.length]; exact F.len _ _ _ _ h
  have hb' := hb s us I.kIn (by rw [List.append_nil]; exact hl)
  rw [List.append_nil] at hb'
  refine wpAny_call (codeAny_mono (F.run X.A X.stack s H ⟨us, []⟩ us vs Q E hr hgd I.env0 hb' r h) fun r s' hq => ?_)
  cases r with
  | error e => exact hx pins σ H s e s' I hq
  | ok fl =>
    cases fl with
    | ret u => exact I.after hq
    | next => exact False.elim hq
    | brk => exact False.elim hq
    | cont => exact False.elim hq
theorem pe_callG (F : FnG X.prog X.w X.K X.mg X.base CX0 k f fd ps sp) (hr : Room k X.A) (hgd : X.A.guards = some []) (hg : Gl X x) (hm : X.mg x = some (.ref f)) (hk : PySem.W.keepIn X.K (.ref f) = true) (hb : Binds X.K fd ps []) (hx : Passes CX0 X E)
    (ha : PA X (e :: es) t) (hdb : (x == ("__debug__" : Str)) = false) (he : starEach (e :: es) X.env = (false, eval e X.env) :: starEach es X.env) (hpl : (backTo pos (starEach es X.env)).any (·.1) = false) :
    PE X (.Call (.Name x p) (e :: es) [] pos) (tCall sp [] E t) := by
  refine ⟨fun pins s σ H Q I h => ?_⟩
  refine wpAny_Call_Name_kw (ld_glob I hg hm ?_ hdb)
  refine PySem.W.callWith_K (h₀ := X.base) I.ok.mod.kin hk (thn (ha.run pos pins s σ H _ I h) fun us s1 ⟨vs, H1, I1, r, q⟩ => ⟨I1.kIn, ?_⟩) he hpl
  have q' : sp (vs ++ []) H1 Q E := q
  rw [List.append_nil] at q'
  exact run_fnG F hr hgd hb hx I1 r q'
theorem pe_call0G (F : FnG X.prog X.w X.K X.mg X.base CX0 k f fd ps sp) (hr : Room k X.A) (hgd : X.A.guards = some []) (hg : Gl X x) (hm : X.mg x = some (.ref f)) (hk : PySem.W.keepIn X.K (.ref f) = true) (hb : Binds X.K fd ps []) (hx : Passes CX0 X E)
    (hdb : (x == ("__debug__" : Str)) = false) : PE X (.Call (.Name x p) [] [] pos) (tCall sp [] E tNil) := by
  refine ⟨fun pins s σ H Q I h => ?_⟩
  refine wpAny_Call_Name_kw (ld_glob I hg hm ?_ hdb)
  refine PySem.W.callWith_K0 I.kIn hk (run_fnG (us := []) F hr hgd hb hx I .nil ?_)
  have h' : sp ([] ++ []) H Q E := h
  exact h'
end
/-- the law called at the top, tables of code objects beside it: cs (turned from HandS.EndTab to FnG) -/
theorem law_callG {P : Program} {w : World} {K : PySem.W.Frag} {mg mb : Str → Option Value} {CX : CXT} {k : Nat} {fa a : Addr} {cs : List (Addr × Addr)} {fd : FuncData} {x : Str} {sp : Sp} {s₁ : Shared} {vs : List Value} {ns : List Int}
    (KX : K.In s₁.heap) (hns : s₁.heap.Ns mainGlobals mg) (hb : s₁.heap.Ns builtinsNs mb) (hbb : ∀ x : Str, x ≠ "__name__" → mb x = bootBuiltins x) (hlim : s₁.heap.NoLimit) (hg : s₁.gens = #[])
    (hT : ∀ p ∈ cs, s₁.heap.get? p.2 = some { cls := .none, data := .fields #[] }) (nT : ∀ p ∈ cs, K.lookup p.2 = none) (C : ∀ p ∈ cs, PySem.W.CodeHd s₁.heap p.1 p.2)
    (hbm : ∃ (bm : Addr) (ob : Obj), mg "__builtins__" = some (.ref bm) ∧ bm ≠ builtinsNs ∧ s₁.heap.get? bm = some ob ∧ ob.cls = .type "module" ∧ ob.dict = some builtinsNs ∧ ob.data = .plain)
    (ha : s₁.heap.get? a = some { cls := .type "list", data := .seq vs.toArray }) (hi : IntsAre vs ns) (hl : ns.length ≤ sizeLine) (hr : Room k callerA)
    (F : ∀ base : Heap, K.In base → base.Ns mainGlobals mg → (∀ p ∈ cs, TabB base mg p.1 p.2) → FnG P w K mg base CX k fa fd [x] sp) (hbind : ∀ (s : Shared) (u : Value), BindsTo s fd ⟨[u], []⟩ [(x, u)])
    (hsp : ∀ H : Hp, (∀ p ∈ cs, H p.2 = some (.tbl #[])) → SqL K H a (ns.map V.int) → sp [.ref a] H (fun v _ => v = .bl true) fun _ _ _ => False)
    (hCX : ∀ H e s', CX [] H s₁ (fun _ _ _ => False) e s' → False) :
    codeAny (model P w) callerA (.call (.ref fa) ⟨[.ref a], []⟩) (fun r s' => r = .ok (.ret (.bool true)) ∧ OldK s₁.heap s'.heap ∧ s'.os = s₁.os ∧ AllBare s'.gens) s₁ := by
  have rv := vals_ints hi
  have lenV := hi.length
  have isT : ∀ b : Addr, b ∈ cs.map (·.2) → s₁.heap.get? b = some { cls := .none, data := .fields #[] } := fun b hb => by
    obtain ⟨p, hp, e⟩ := List.mem_map.mp hb
    rw [← e]
    exact hT p hp
  have aT : a ∉ cs.map (·.2) := fun z => by
    have q := isT a z
    rw [ha] at q
    have z' : Data.seq vs.toArray _ = Data.fields #[] := congrArg Obj.data (Option.some.inj q)
    cases z'
  have memT : ∀ p ∈ cs, p.2 ∈ cs.map (·.2) := fun p hp => List.mem_map.mpr ⟨p, hp, rfl⟩
  -- from an abstract heap in which nothing but the script and the tables may be tracked
  have core : ∀ H : Hp, (∀ p ∈ cs, H p.2 = some (.tbl #[])) → (∀ b, H b = none ∨ b ∈ cs.map (·.2) ∨ ∃ o xs, H b = some (.frz o (.lst xs))) → SqL K H a (ns.map V.int) → HOk P w H s₁.heap → (∀ b, H b ≠ none → b = a ∨ b ∈ cs.map (·.2)) → (H a ≠ none → K.lookup a = none) →
      codeAny (model P w) callerA (.call (.ref fa) ⟨[.ref a], []⟩) (fun r s' => r = .ok (.ret (.bool true)) ∧ OldK s₁.heap s'.heap ∧ s'.os = s₁.os ∧ AllBare s'.gens) s₁ := by
    intro H hH hO hS hok hA hK
    have base_of : ∀ {b : Addr} {o : Obj}, s₁.heap.get? b = some o → H b = none → (hidT s₁.heap H).get? b = some o := fun e n => hidT_get e n
    have noD : ∀ {b : Addr} {o : Obj}, s₁.heap.get? b = some o → (∀ vs n, o.data ≠ .seq vs n) → o.data ≠ .fields #[] → H b = none := fun {b o} e h1 h2 => by
      cases q : H b with
      | none => rfl
      | some u =>
        rcases hA b (by rw [q]; simp) with e' | e'
        · rw [e', ha] at e
          cases e
          exact (h1 _ _ rfl).elim
        · rw [isT b e'] at e
          cases e
          exact (h2 rfl).elim
    have noA : ∀ {b : Addr} {o : Obj} {es : Array DictEntry} {ep : Nat}, s₁.heap.get? b = some o → o.data = .dict es ep → H b = none := fun {b o es ep} e d => by
      refine noD e (fun vs n z => ?_) fun z => ?_
      · rw [d] at z
        cases z
      · rw [d] at z
        cases z
    have nsK : ∀ {b : Addr} {m : Str → Option Value}, s₁.heap.Ns b m → (hidT s₁.heap H).Ns b m := fun {b m} ⟨o, es, ep, e, d, r⟩ => ⟨o, es, ep, base_of e (noA e d), d, r⟩
    have hKb : K.In (hidT s₁.heap H) := fun b o e => base_of (KX b o e) (by
      cases q : H b with
      | none => rfl
      | some u =>
        rcases hA b (by rw [q]; simp) with e' | e'
        · rw [e'] at e q
          rw [hK (by rw [q]; simp)] at e
          cases e
        · obtain ⟨p, hp, ep⟩ := List.mem_map.mp e'
          rw [← ep, nT p hp] at e
          cases e)
    have hM : L2.Mod K mg (hidT s₁.heap H) := ⟨hKb, nsK hns, ⟨mb, nsK hb, hbb⟩, let ⟨mc, h1, h2⟩ := hlim; ⟨mc, nsK h1, h2⟩⟩
    have TB : ∀ p ∈ cs, TabB (hidT s₁.heap H) mg p.1 p.2 := fun p hp => by
      have hTp := hT p hp
      refine ⟨?_, ?_, fun z => ?_⟩
      · obtain ⟨o, us, file, tf, flags, tg, inF, text, tt, e1, r1, r2, r3, r4, r5, r6, r7, r8, hne⟩ := C p hp
        refine ⟨o, us, file, tf, flags, tg, inF, text, tt, base_of e1 (noD e1 (fun vs n z => ?_) fun z => ?_), r1, r2, r3, r4, r5, r6, r7, r8, hne⟩
        · rw [r2] at z
          cases z
        · rw [r2] at z
          cases z
          simp at r3
      · obtain ⟨bm, ob, b1, b2, b3, b4, b5, b6⟩ := hbm
        have nG : bm ≠ mainGlobals := fun q => by
          obtain ⟨o, es, ep, e, hd, _⟩ := hns
          rw [q, e] at b3
          cases b3
          rw [hd] at b6
          cases b6
        have nP : bm ≠ p.2 := fun q => by
          rw [q, hTp] at b3
          cases b3
          cases b6
        refine ⟨bm, ob, b1, b2, nG, nP, base_of b3 (noD b3 (fun vs n z => ?_) fun z => ?_), b4, b5, b6⟩
        · rw [b6] at z
          cases z
        · rw [b6] at z
          cases z
      · obtain ⟨o, es, ep, e, hd, _⟩ := hns
        rw [z, hTp] at e
        cases e
        cases hd
    have e0 : Env0 P w K mg (hidT s₁.heap H) callerA [] s₁ H := ⟨rfl, hM, fun b o e => of_hidT e, Nat.le_of_eq (hidT_size _ _), trivial, fun b hb => absurd (show b ∈ ([] : List Addr) from hb) (by simp), hok, .of_eq hg⟩
    refine codeAny_mono ((F _ hKb (nsK hns) TB).run callerA [] s₁ H ⟨[.ref a], []⟩ [.ref a] [.ref a] _ _ hr rfl e0 (hbind s₁ (.ref a)) (.cons rfl .nil) (hsp H hH hS)) fun r s' h => ?_
    cases r with
    | error e => exact (hCX H e s' h).elim
    | ok fl =>
      cases fl with
      | next => exact False.elim h
      | brk => exact False.elim h
      | cont => exact False.elim h
      | ret u =>
        obtain ⟨v, H', os, bare, un, hok', r', q⟩ := h
        have q' : v = .bl true := q
        subst q'
        obtain rfl : u = Value.bool true := r'
        have key : ∀ b o, b ∉ cs.map (·.2) → s₁.heap.get? b = some o → s'.heap.get? b = some o := fun b o nb e => by
          cases q : H b with
          | none => exact un.keep b o e q (by intro z; exact absurd (show b ∈ ([] : List Addr) from z) (by simp)) (by simp)
          | some u =>
            rcases hO b with z | z | ⟨ob, xs, z⟩
            · rw [q] at z; cases z
            · exact absurd z nb
            · have z2 := un.frzs b ob _ z
              obtain ⟨e1, _⟩ := hok b _ z
              obtain ⟨e2, _⟩ := hok' b _ z2
              rw [e] at e1; cases e1
              exact e2
        have grown : ∀ p ∈ cs, ∃ more : Array Value, s'.heap.get? p.2 = some { cls := .none, data := .fields more } := fun p hp => by
          obtain ⟨more, z⟩ := un.tbls p.2 #[] (hH p hp)
          exact ⟨_, hok' p.2 _ z⟩
        refine ⟨rfl, ⟨fun b o e => ?_, fun b o e => ?_⟩, os, bare⟩
        · by_cases hb : b ∈ cs.map (·.2)
          · obtain ⟨p, hp, ep⟩ := List.mem_map.mp hb
            obtain ⟨more, hm⟩ := grown p hp
            rw [← ep] at e ⊢
            rw [hT p hp] at e
            cases e
            exact .inr (.inl ⟨((C p hp).tab (hT p hp)).isCodeTable, rfl, #[], more, rfl, by rw [Array.empty_append]; exact hm⟩)
          · exact .inl (key b o hb e)
        · by_cases hb : b ∈ cs.map (·.2)
          · obtain ⟨p, hp, ep⟩ := List.mem_map.mp hb
            obtain ⟨more, hm⟩ := grown p hp
            rw [← ep]
            exact ⟨_, hm⟩
          · exact ⟨o, key b o hb e⟩
  cases hk : K.lookup a with
  | some o =>
    have e := KX a o hk
    rw [ha] at e
    cases e
    refine core (fun b => if b ∈ cs.map (·.2) then some (.tbl #[]) else none) (fun p hp => if_pos (memT p hp)) (fun b => ?_) (.inr ⟨_, vs.toArray, _, hk, rfl, rfl, rfl, by rw [List.size_toArray, lenV]; exact hl, by simpa using rv⟩) (fun b u z => ?_) (fun b z => ?_) fun z => absurd (show (if a ∈ cs.map (·.2) then some (HO.tbl #[]) else none) = none from if_neg aT) z
    · by_cases hb : b ∈ cs.map (·.2)
      · exact .inr (.inl hb)
      · exact .inl (if_neg hb)
    · by_cases hb : b ∈ cs.map (·.2)
      · have z' := (if_pos hb).symm.trans z
        cases z'
        exact isT b hb
      · have z' := (if_neg hb).symm.trans z
        cases z'
    · by_cases hb : b ∈ cs.map (·.2)
      · exact .inr hb
      · exact absurd (if_neg hb) z
  | none =>
    refine core (fun b => if b = a then some (.frz { cls := .type "list", data := .seq vs.toArray } (.lst (ns.map V.int))) else if b ∈ cs.map (·.2) then some (.tbl #[]) else none) (fun p hp => (if_neg (show ¬ p.2 = a from fun z => aT (by rw [← z]; exact memT p hp))).trans (if_pos (memT p hp))) (fun b => ?_)
      (.inl (.inr ⟨{ cls := .type "list", data := .seq vs.toArray }, if_pos rfl⟩)) (fun b u z => ?_) (fun b z => ?_) fun _ => hk
    · by_cases hb : b = a
      · exact .inr (.inr ⟨_, _, if_pos hb⟩)
      · by_cases hb2 : b ∈ cs.map (·.2)
        · exact .inr (.inl hb2)
        · exact .inl ((if_neg hb).trans (if_neg hb2))
    · by_cases hb : b = a
      · have z' := (if_pos hb).symm.trans z
        cases z'
        rw [hb]
        exact ⟨ha, by rw [List.length_map]; exact hl, vs, _, rv, ha⟩
      · have z1 := (if_neg hb).symm.trans z
        by_cases hb2 : b ∈ cs.map (·.2)
        · have z' := (if_pos hb2).symm.trans z1
          cases z'
          exact isT b hb2
        · have z' := (if_neg hb2).symm.trans z1
          cases z'
    · by_cases hb : b = a
      · exact .inl hb
      · by_cases hb2 : b ∈ cs.map (·.2)
        · exact .inr hb2
        · exact absurd ((if_neg hb).trans (if_neg hb2)) z
/-- what the head tells of the law: cs, the code objects and tables of the defs called so -/
def LawAtT (l : PySem.W.OpenLaw) (w : World) (K : PySem.W.Frag) (k n : Nat) (x : Str) (mg : Str → Option Value) (fa : Addr) (names : List Str) : Prop :=
  ∃ (fd : FuncData) (cs : List (Addr × Addr)) (sp : Sp), (∀ p ∈ cs, ∃ y ∈ names, PySem.W.tabIn K y = some p) ∧ (∀ p ∈ cs, K.lookup p.2 = none) ∧ (∀ (s : Shared) (u : Value), BindsTo s fd ⟨[u], []⟩ [(x, u)]) ∧
    (∀ (H : Hp) (a : Addr) (ns : List Int), ns.length ≤ n → (∀ p ∈ cs, H p.2 = some (.tbl #[])) → SqL K H a (ns.map V.int) → sp [.ref a] H (fun v _ => v = .bl true) fun _ _ _ => False) ∧
    ∀ base : Heap, K.In base → base.Ns mainGlobals mg → (∀ p ∈ cs, TabB base mg p.1 p.2) → FnG l.prog w K mg base CX0 k fa fd [x] sp
theorem walk_ofT {l : PySem.W.OpenLaw} {n k : Nat} {q : Program} {loose : List Str} {XP : (Str → Option Value) → Heap → Prop} {YP : World → Heap → Prop} {d : DefRec} {K : Params → PySem.W.Frag} {x : Str} {names : List Str}
    (hn : l.most = some n) (hn2 : n ≤ sizeLine) (hdf : d.params.defaults = []) (hr : Room k callerA) (hrec : ∀ y ∈ names, ∃ d, (recsOf q).find? (fun e => e.name == y) = some d) (hY : ∀ (w : World) (h : Heap), YP w h → (K w.params).In h)
    (F : ∀ (w : World) (mg : Str → Option Value) (fa : Addr) (h : Heap), (K w.params).In h → h.Ns mainGlobals mg → mg d.name = some (.ref fa) → LawAtT l w (K w.params) k n x mg fa names) :
    PySem.W.WalkO q loose XP YP l.row.toRowW d [] (fun f vs => PySem.call f vs) := by
  refine Att.attach_callB hn hdf fun w s₀ s₁ mg mb fa o pm cd doc a vs ns G Y ho hd hcd hmg hobj hints hlen hbits hg => ?_
  have KX := hY w _ Y
  obtain ⟨fd, cs, sp, hT, nT, hb, hsp, hF⟩ := F w mg fa _ KX G.T.g hmg
  have tab : ∀ p ∈ cs, PySem.W.CodeHd s₁.heap p.1 p.2 ∧ s₁.heap.get? p.2 = some { cls := .none, data := .fields #[] } := fun p hp => by
    obtain ⟨y, hy, e⟩ := hT p hp
    obtain ⟨d', hd'⟩ := hrec y hy
    exact PySem.W.tab_of G.T KX hd' e
  exact law_callG KX G.T.g G.T.b G.T.builtins G.T.nolimit hg (fun p hp => (tab p hp).2) nT (fun p hp => (tab p hp).1) G.T.bmain hobj hints (Nat.le_trans hlen hn2) hr hF hb (fun H hH hS => hsp H a ns hlen hH hS) fun H e s' h => by
    exact (show False from h)
end Q
/-! Q0: data, store, a small language (Ex, Sm) and its evaluator. -/
namespace Q
open PySem

inductive D where
  | non | bl (b : Bool) | int (i : Int) | str (s : Str) | tup (xs : List D) | lst (xs : List D) | ref (n : Nat)
  deriving Inhabited

/-- what the store holds -/
inductive Ob where
  | lst (xs : List D)
abbrev Store := List Ob

inductive Rs (α : Type) where
  | ok (a : α) (S : Store)
  | exc (c : Nat) (fs : List D) (S : Store)
  | stuck
def Rs.bind {α β : Type} : Rs α → (α → Store → Rs β) → Rs β
  | .ok a S, f => f a S
  | .exc c fs S, _ => .exc c fs S
  | .stuck, _ => .stuck
/-- no exception may leave (a comprehension's block) -/
def Rs.quiet {α : Type} : Rs α → Rs α
  | .ok a S => .ok a S
  | _ => .stuck
def Rs.of {α : Type} (o : Option α) (S : Store) : Rs α := match o with
  | some a => .ok a S
  | none => .stuck
@[simp] theorem Rs.bind_ok {α β : Type} (a : α) (S : Store) (f : α → Store → Rs β) : (Rs.ok a S).bind f = f a S := rfl
@[simp] theorem Rs.bind_exc {α β : Type} (c : Nat) (fs : List D) (S : Store) (f : α → Store → Rs β) : (Rs.exc c fs S).bind f = .exc c fs S := rfl
@[simp] theorem Rs.bind_stuck {α β : Type} (f : α → Store → Rs β) : (Rs.stuck : Rs α).bind f = .stuck := rfl
@[simp] theorem Rs.quiet_ok {α : Type} (a : α) (S : Store) : (Rs.ok a S).quiet = .ok a S := rfl
@[simp] theorem Rs.quiet_stuck {α : Type} : (Rs.stuck : Rs α).quiet = .stuck := rfl
@[simp] theorem Rs.of_some {α : Type} (a : α) (S : Store) : Rs.of (some a) S = .ok a S := rfl
@[simp] theorem Rs.of_none {α : Type} (S : Store) : Rs.of (none : Option α) S = .stuck := rfl

/-- a cell of the frame: data, or a list of its own that nothing else holds -/
inductive Cell where
  | non | d (x : D) | own (xs : List D)
abbrev Fm := List Cell

/-! ### equality and order of data -/
mutual
def eqD : D → D → Bool
  | .non, .non => true
  | .bl a, .bl b => a == b
  | .bl a, .int j => (if a then 1 else 0) == j
  | .int i, .bl b => i == (if b then 1 else 0)
  | .int i, .int j => i == j
  | .str x, .str y => x == y
  | .tup xs, .tup ys => eqDs xs ys
  | .lst xs, .lst ys => eqDs xs ys
  | _, _ => false
def eqDs : List D → List D → Bool
  | [], [] => true
  | x :: xs, y :: ys => eqD x y && eqDs xs ys
  | _, _ => false
end
mutual
/-- no reference within -/
def D.pure : D → Bool
  | .tup xs => D.pures xs
  | .lst xs => D.pures xs
  | .ref _ => false
  | _ => true
def D.pures : List D → Bool
  | [] => true
  | x :: xs => D.pure x && D.pures xs
end
mutual
/-- no list within, no reference -/
def D.scal : D → Bool
  | .tup xs => D.scals xs
  | .lst _ => false
  | .ref _ => false
  | _ => true
def D.scals : List D → Bool
  | [] => true
  | x :: xs => D.scal x && D.scals xs
end
mutual
def D.dep : D → Nat
  | .tup xs => D.deps xs + 1
  | .lst xs => D.deps xs + 1
  | _ => 0
def D.deps : List D → Nat
  | [] => 0
  | x :: xs => max (D.dep x) (D.deps xs)
end
mutual
/-- all references within are below n -/
def D.under (n : Nat) : D → Bool
  | .tup xs => D.unders n xs
  | .lst xs => D.unders n xs
  | .ref k => decide (k < n)
  | _ => true
def D.unders (n : Nat) : List D → Bool
  | [] => true
  | x :: xs => D.under n x && D.unders n xs
end
def Ob.under (n : Nat) : Ob → Bool
  | .lst xs => D.unders n xs

/-- the most items of a list, the most signs of a text -/
abbrev lim : Nat := 1000000

def deref (S : Store) : D → D
  | .ref n => match S[n]? with
    | some (.lst xs) => .lst xs
    | none => .ref n
  | d => d
def lstOf (S : Store) : D → Option (List D)
  | .lst xs => some xs
  | .ref n => match S[n]? with
    | some (.lst xs) => some xs
    | none => none
  | _ => none
def seqOf (S : Store) : D → Option (List D)
  | .tup xs => some xs
  | d => lstOf S d
/-- the place of an index -/
def ixAt (n : Nat) (i : Int) : Option Nat := if 0 ≤ i then (if i < n then some i.toNat else none) else if -(n : Int) ≤ i then some (i + n).toNat else none
def bound (n d : Nat) : Option Int → Nat
  | none => d
  | some v => if v < 0 then (v + (n : Int)).toNat else min v.toNat n
def cut (xs : List α) (lo hi : Option Int) : List α := (xs.drop (bound xs.length 0 lo)).take (bound xs.length xs.length hi - bound xs.length 0 lo)

/-! ### the language -/
inductive Ty where
  | int | bool | str | tuple | list
  deriving DecidableEq
inductive Op where
  | add | sub | mul | fdiv | mod | pow | neg
  | lt | le | gt | ge | eq | ne | isN | notN | isB | notB
  | ix | slLH | slL | slH | rev
  | len | isi (ts : List Ty) | all | any | sum | max1 | max2 | min1 | min2 | toLst | toTup | toInt | sset | rng1 | rng2
  | inn | nin | lset | ssetS | srt | strO | cnt
  deriving DecidableEq

mutual
inductive Tg where
  | name (i : Nat) | tup (gs : Tgs)
inductive Tgs where
  | nil | cons (g : Tg) (gs : Tgs)
end

mutual
inductive Ex where
  | cst (d : D) | var (i : Nat) | ovar (i : Nat) | glob (k : Nat)
  | op (o : Op) (es : Exs)
  | chain (o o' : Op) (a b c : Ex)
  | and (a b : Ex) | or (a b : Ex) | not (a : Ex) | ife (t a b : Ex)
  | tup (es : Exs) | lst (es : Exs)
  | call (f : Nat) (es : Exs)
  | lc (w : List Nat) (g : Tg) (it : Itr) (c e : Ex)
  | lc2 (w w1 : List Nat) (g : Tg) (it : Itr) (c : Ex) (g1 : Tg) (it1 : Itr) (c1 e : Ex)
  | srtL (i : Nat) (e : Ex)
  | mk (e : Ex)
  | pure (e : Ex)
inductive Exs where
  | nil | cons (e : Ex) (es : Exs)
inductive Itr where
  | seq (e : Ex) | range1 (a : Ex) | range2 (a b : Ex) | enum (e : Ex) | zip (a b : Ex) | zip3 (a b c : Ex) | chars (e : Ex)
end
mutual
inductive Sm where
  | asg (g : Tg) (e : Ex)
  | own (i : Nat) (e : Ex)
  | alloc (i : Nat) (e : Ex)
  | frz (i : Nat)
  | app (i : Nat) (e : Ex)
  | setO (i : Nat) (a e : Ex)
  | setR (o a e : Ex)
  | appR (o e : Ex)
  | aug (i : Nat) (o : Op) (e : Ex)
  | ret (e : Ex) | retF (e : Ex) | retO (i : Nat)
  | ife (c : Ex) (a b : Sms)
  | for_ (g : Tg) (it : Itr) (b : Sms)
  | forR (g : Tg) (e : Ex) (b : Sms)
  | while_ (c : Ex) (b : Sms)
  | brk | cont | pass
  | drop (e : Ex)
inductive Sms where
  | nil | cons (s : Sm) (ss : Sms)
end

/-! ### the plain operations -/
def tyOf (S : Store) : D → Ty → Bool
  | .bl _, .bool => true
  | .bl _, .int => true
  | .int _, .int => true
  | .str _, .str => true
  | .tup _, .tuple => true
  | .lst _, .list => true
  | .ref n, .list => (S[n]?).isSome
  | _, _ => false
def boolL : List D → Option (List Bool)
  | [] => some []
  | .bl b :: r => (boolL r).map (b :: ·)
  | _ => none
def intL : List D → Option (List Int)
  | [] => some []
  | .int i :: r => (intL r).map (i :: ·)
  | _ => none
def maxL : List Int → Option Int
  | [] => none
  | x :: xs => some (xs.foldl max x)
def minL : List Int → Option Int
  | [] => none
  | x :: xs => some (xs.foldl min x)
/-- sorted, each one once -/
def insU (x : Int) : List Int → List Int
  | [] => [x]
  | y :: ys => if x < y then x :: y :: ys else if x = y then y :: ys else y :: insU x ys
def sortU (xs : List Int) : List Int := xs.foldr insU []
mutual
def D.py : D → PyData
  | .non => .none | .bl b => .bool b | .int i => .int i | .str s => .str s | .tup xs => .tuple (D.pys xs) | .lst xs => .list (D.pys xs) | .ref _ => .none
def D.pys : List D → List PyData
  | [] => []
  | x :: xs => D.py x :: D.pys xs
end
def strL : List D → Option (List Str)
  | [] => some []
  | .str s :: r => (strL r).map (s :: ·)
  | _ => none
def alikeB (ds : List PyData) : Bool := ds.all fun a => ds.all fun b => PySem.W.alike a b
def tupB : PyData → Bool
  | .tuple (_ :: _) => true
  | _ => false
def flatB : PyData → Bool
  | .tuple _ => false
  | .none => false
  | _ => true
def sortB (ds : List PyData) : Bool := ds.all tupB || ds.all flatB
/-- sorted(xs) of alike data -/
def srtD (xs : List D) : Option D := if (D.pures xs && alikeB (D.pys xs) && sortB (D.pys xs) && decide (D.deps xs ≤ 60)) = true then some (.lst (xs.mergeSort (PySem.W.dataLe false D.py))) else none
/-- str(x) -/
def strD (x : D) : Option D := if (D.pure x && x.py.showable && decide (D.dep x ≤ 60) && decide (wtP x.py ≤ 8000)) = true then some (.str (strTxt x.py)) else none
def oneS (s : Str) : Option Nat := match s.cps.toList with
  | [c] => some c
  | _ => none
def okIn (x : D) (ys : List D) : Bool := D.pure x && D.pures ys && decide (D.dep x ≤ 60 ∧ D.deps ys ≤ 60)
def okEq (x y : D) : Bool := D.pure x && D.pure y && decide (D.dep x ≤ 64 ∧ D.dep y ≤ 64)
def small (i : Int) : Bool := decide (-(2 ^ 64) < i ∧ i < 2 ^ 64)
/-- the number of a truth value -/
def blI (b : Bool) : Int := if b = true then 1 else 0
def addD (S : Store) (x y : D) : Option D := match x, y with
  | .int i, .int j => some (.int (i + j))
  | .int i, .bl b => some (.int (i + blI b))
  | .bl b, .int j => some (.int (blI b + j))
  | .str s, .str t => if s.length + t.length ≤ lim then some (.str (s ++ t)) else none
  | .tup s, .tup t => if s.length + t.length ≤ lim then some (.tup (s ++ t)) else none
  | x, y => match lstOf S x, lstOf S y with
    | some s, some t => if s.length + t.length ≤ lim then some (.lst (s ++ t)) else none
    | _, _ => none
def subD (x y : D) : Option D := match x, y with
  | .int i, .int j => some (.int (i - j))
  | .int i, .bl b => some (.int (i - blI b))
  | .bl b, .int j => some (.int (blI b - j))
  | _, _ => none
def repN (n : Nat) (k : Int) : Bool := decide (n ≤ 1000 ∧ -1000 ≤ k ∧ k ≤ 1000)
def intOp (f : Int → Int → Option D) : D → D → Option D
  | .int i, .int j => f i j
  | _, _ => none
def blOp (f : Bool → Bool → Bool) : D → D → Option D
  | .bl i, .bl j => some (.bl (f i j))
  | _, _ => none
def eqP (S : Store) (x y : D) : Option Bool := if okEq (deref S x) (deref S y) = true then some (eqD (deref S x) (deref S y)) else none
/-- x in y -/
def inD (S : Store) (x y : D) : Option Bool := match y with
  | .str z => match x with
    | .str s => (oneS s).map fun c => decide (c ∈ z.cps.toList)
    | _ => none
  | y => match seqOf S y with
    | some ys => if okIn (deref S x) ys = true then some (ys.any fun z => eqD z (deref S x)) else none
    | none => none
def srtLam (S : Store) (x y : D) : Option D := ((lstOf S x).bind intL).bind fun ns => ((lstOf S y).bind intL).bind fun cs =>
  if (ns.all fun n => decide (0 ≤ n ∧ n < cs.length)) = true then some (.lst ((ns.mergeSort (leKey cs)).map .int)) else none
def leP (x y : D) : Option D := match x, y with
  | .int i, .int j => some (.bl (decide (i ≤ j)))
  | .str s, .str t => some (.bl (!decide (t.cps.toList < s.cps.toList)))
  | _, _ => none
def cntD (S : Store) (x y : D) : Option D := ((lstOf S x).bind intL).bind fun ns => match y with
  | .int k => some (.int (ns.count k : Nat))
  | _ => none
def isNon : D → Bool
  | .non => true
  | _ => false
def ixL (xs : List D) (i : Int) : Option D := match ixAt xs.length i with
  | some j => xs[j]?
  | none => none
def ixD (S : Store) (x : D) (i : Int) : Option D := match x with
  | .str s => if s.length ≤ lim then match ixAt s.cps.toList.length i with
      | some j => (s.cps.toList[j]?).map fun c => .str ⟨#[c]⟩
      | none => none
    else none
  | .tup xs => ixL xs i
  | x => match lstOf S x with
    | some xs => ixL xs i
    | none => none
def slD (S : Store) (x : D) (lo hi : Option Int) : Option D := match x with
  | .tup xs => some (.tup (cut xs lo hi))
  | x => (lstOf S x).map fun xs => .lst (cut xs lo hi)
def revD (S : Store) (x : D) : Option D := match x with
  | .tup xs => some (.tup xs.reverse)
  | x => (lstOf S x).map fun xs => .lst xs.reverse
def lenD (S : Store) (x : D) : Option D := match x with
  | .str s => if s.length ≤ lim then some (.int s.length) else none
  | x => (seqOf S x).map fun xs => .int xs.length
def toIntD : D → Option D
  | .int i => some (.int i)
  | .bl b => some (.int (if b then 1 else 0))
  | _ => none
def mulD (S : Store) (x y : D) : Option D := match x, y with
  | .int i, .int j => if small i || small j then some (.int (i * j)) else none
  | .tup xs, .int k => if repN xs.length k = true then some (.tup (List.replicate k.toNat xs).flatten) else none
  | x, .int k => match lstOf S x with
    | some xs => if repN xs.length k = true then some (.lst (List.replicate k.toNat xs).flatten) else none
    | none => none
  | _, _ => none
/-- the first of the least, of the greatest -/
def minT (x : D) (xs : List D) : D := xs.foldl (fun a y => if PySem.W.dataLt y.py a.py = true then y else a) x
def maxT (x : D) (xs : List D) : D := xs.foldl (fun a y => if PySem.W.dataLt a.py y.py = true then y else a) x
def bestD (f : D → List D → D) : List D → Option D
  | [] => none
  | x :: xs => if (D.pures (x :: xs) && alikeB (D.pys (x :: xs)) && (D.pys (x :: xs)).all tupB && decide (D.deps (x :: xs) ≤ 60)) = true then some (f x xs) else none
def maxD1 (xs : List D) : Option D := match intL xs with
  | some ns => (maxL ns).map .int
  | none => bestD maxT xs
def minD1 (xs : List D) : Option D := match intL xs with
  | some ns => (minL ns).map .int
  | none => bestD minT xs
def onInt (f : Int → Option D) : D → Option D
  | .int i => f i
  | _ => none
def rangeD (lo : Int) (n : Nat) : List D := (List.range n).map fun (k : Nat) => .int (lo + k)
def okRange (i : Int) : Bool := decide (-1000000 ≤ i ∧ i ≤ 1000000)
def prim1 (S : Store) (o : Op) (x : D) : Option D := match o with
  | .neg => onInt (fun i => some (.int (-i))) x
  | .isN => some (.bl (isNon x))
  | .notN => some (.bl (!isNon x))
  | .rev => revD S x
  | .len => lenD S x
  | .isi ts => some (.bl (ts.any (tyOf S x)))
  | .all => ((lstOf S x).bind boolL).map fun bs => .bl (bs.all id)
  | .any => ((lstOf S x).bind boolL).map fun bs => .bl (bs.any id)
  | .sum => ((lstOf S x).bind intL).map fun bs => .int bs.sum
  | .max1 => (lstOf S x).bind maxD1
  | .min1 => (lstOf S x).bind minD1
  | .toLst => (seqOf S x).map .lst
  | .toTup => (seqOf S x).map .tup
  | .toInt => toIntD x
  | .sset => ((seqOf S x).bind intL).bind fun ns => if ns.length < 64 then some (.lst ((sortU ns).map .int)) else none
  | .lset => ((lstOf S x).bind strL).bind fun ss => if ss.length ≤ 4000 then some (.int (nubS ss).length) else none
  | .ssetS => ((lstOf S x).bind strL).bind fun ss => if ss.length ≤ 4000 then some (.lst (((nubS ss).mergeSort leTx).map .str)) else none
  | .srt => (lstOf S x).bind srtD
  | .strO => strD (deref S x)
  | .rng1 => onInt (fun i => if okRange i = true then some (.lst (rangeD 0 i.toNat)) else none) x
  | _ => none
def prim2 (S : Store) (o : Op) (x y : D) : Option D := match o with
  | .add => addD S x y
  | .sub => subD x y
  | .mul => mulD S x y
  | .fdiv => intOp (fun i j => if 0 < j ∧ j < 2 ^ 64 then some (.int (i / j)) else none) x y
  | .mod => intOp (fun i j => if 0 < j then some (.int (i % j)) else none) x y
  | .pow => intOp (fun i j => if 0 ≤ j ∧ j ≤ 1000 ∧ small i = true then some (.int (i ^ j.toNat)) else none) x y
  | .lt => intOp (fun i j => some (.bl (decide (i < j)))) x y
  | .le => leP x y
  | .inn => (inD S x y).map fun b => .bl b
  | .nin => (inD S x y).map fun b => .bl (!b)
  | .cnt => cntD S x y
  | .gt => intOp (fun i j => some (.bl (decide (j < i)))) x y
  | .ge => intOp (fun i j => some (.bl (decide (j ≤ i)))) x y
  | .eq => (eqP S x y).map fun b => .bl b
  | .ne => (eqP S x y).map fun b => .bl (!b)
  | .isB => blOp (fun a b => a == b) x y
  | .notB => blOp (fun a b => !(a == b)) x y
  | .ix => onInt (ixD S x) y
  | .slL => onInt (fun i => slD S x (some i) none) y
  | .slH => onInt (fun i => slD S x none (some i)) y
  | .rng2 => intOp (fun i j => if okRange i = true ∧ okRange j = true then some (.lst (rangeD i (j - i).toNat)) else none) x y
  | .max2 => intOp (fun i j => some (.int (if j > i then j else i))) x y
  | .min2 => intOp (fun i j => some (.int (if j < i then j else i))) x y
  | _ => none
def prim3 (S : Store) (o : Op) (x y z : D) : Option D := match o with
  | .slLH => onInt (fun i => onInt (fun j => slD S x (some i) (some j)) z) y
  | _ => none
def prim (S : Store) (o : Op) : List D → Option D
  | [x] => prim1 S o x
  | [x, y] => prim2 S o x y
  | [x, y, z] => prim3 S o x y z
  | _ => none

/-! ### evaluation -/
mutual
def Tg.set : Tg → D → Fm → Option Fm
  | .name i, x, v => some (v.set i (.d x))
  | .tup gs, .tup xs, v => Tgs.set gs xs v
  | _, _, _ => none
def Tgs.set : Tgs → List D → Fm → Option Fm
  | .nil, [], v => some v
  | .cons g gs, x :: xs, v => match Tg.set g x v with
    | some v' => Tgs.set gs xs v'
    | none => none
  | _, _, _ => none
end
mutual
def Tg.slots : Tg → List Nat
  | .name i => [i]
  | .tup gs => Tgs.slots gs
def Tgs.slots : Tgs → List Nat
  | .nil => []
  | .cons g gs => Tg.slots g ++ Tgs.slots gs
end
def Tgs.len : Tgs → Nat
  | .nil => 0
  | .cons _ gs => gs.len + 1
def wipeE (v : Fm) : List Nat → Fm
  | [] => v
  | i :: is => (wipeE v is).set i .non
def flat (f : D → Store → Rs (List D)) : List D → Store → Rs (List D)
  | [], S => .ok [] S
  | x :: xs, S => (f x S).bind fun ys S1 => (flat f xs S1).bind fun zs S2 => .ok (ys ++ zs) S2
abbrev Cal := Nat → List D → Store → Rs D
/-- the frame as it may be read where nothing is changed: the store's lists by their items -/
def snapD (S : Store) (x : D) : Cell := match x with
  | .ref n => match S[n]? with
    | some (.lst xs) => if D.pures xs = true then .d (.lst xs) else .non
    | none => .non
  | x => if D.pure x = true then .d x else .non
def snapC (S : Store) : Cell → Cell
  | .d x => snapD S x
  | .own xs => if D.pures xs = true then .own xs else .non
  | .non => .non
/-- an answer that holds no list, nothing left in the store -/
def quietD (S : Store) : Rs D → Rs D
  | .ok d S1 => if (d.scal && S1.isEmpty) = true then .ok d S else .stuck
  | _ => .stuck
def ifD {α : Type} (b : D) (t e : Rs α) : Rs α := match b with
  | .bl true => t
  | .bl false => e
  | _ => .stuck
@[simp] theorem ifD_true {α : Type} (t e : Rs α) : ifD (.bl true) t e = t := rfl
@[simp] theorem ifD_false {α : Type} (t e : Rs α) : ifD (.bl false) t e = e := rfl
def enumD (xs : List D) : List D := xs.mapIdx fun i x => .tup [.int (i : Nat), x]
def seqD : D → Option (List D)
  | .tup xs => some xs
  | .lst xs => some xs
  | _ => none

mutual
def evE (Φ : Cal) (G : Nat → Option D) : Ex → Fm → Store → Rs D
  | .cst d, _, S => .ok d S
  | .var i, v, S => match v[i]? with
    | some (.d x) => .ok x S
    | _ => .stuck
  | .ovar i, v, S => match v[i]? with
    | some (.own xs) => .ok (.lst xs) S
    | _ => .stuck
  | .glob k, _, S => .of (G k) S
  | .op o es, v, S => (evEs Φ G es v S).bind fun xs S1 => .of (prim S1 o xs) S1
  | .chain o o' a b c, v, S => (evE Φ G a v S).bind fun x S1 => (evE Φ G b v S1).bind fun y S2 => (Rs.of (prim S2 o [x, y]) S2).bind fun r S3 =>
      ifD r ((evE Φ G c v S3).bind fun z S4 => .of (prim S4 o' [y, z]) S4) (.ok (.bl false) S3)
  | .and a b, v, S => (evE Φ G a v S).bind fun x S1 => ifD x (evE Φ G b v S1) (.ok (.bl false) S1)
  | .or a b, v, S => (evE Φ G a v S).bind fun x S1 => ifD x (.ok (.bl true) S1) (evE Φ G b v S1)
  | .not a, v, S => (evE Φ G a v S).bind fun x S1 => ifD x (.ok (.bl false) S1) (.ok (.bl true) S1)
  | .ife t a b, v, S => (evE Φ G t v S).bind fun x S1 => ifD x (evE Φ G a v S1) (evE Φ G b v S1)
  | .tup es, v, S => (evEs Φ G es v S).bind fun xs S1 => .ok (.tup xs) S1
  | .lst es, v, S => (evEs Φ G es v S).bind fun xs S1 => .ok (.lst xs) S1
  | .call f es, v, S => (evEs Φ G es v S).bind fun xs S1 => Φ f xs S1
  | .lc w g it c e, v, S => (evI Φ G it v S).bind fun xs S1 => ((flat (fun x S2 => match g.set x (wipeE v w) with
      | some v' => (evE Φ G c v' S2).bind fun b S3 => ifD b ((evE Φ G e v' S3).bind fun y S4 => .ok [y] S4) (.ok [] S3)
      | none => .stuck) xs S1).quiet).bind fun ys S5 => .ok (.lst ys) S5
  | .lc2 w w1 g it c g1 it1 c1 e, v, S => (evI Φ G it v S).bind fun xs S1 => ((flat (fun x S2 => match g.set x (wipeE v w) with
      | some v' => (evE Φ G c v' S2).bind fun b S3 => ifD b ((evI Φ G it1 v' S3).bind fun xs1 S4 => flat (fun x1 S5 => match g1.set x1 (wipeE v' w1) with
          | some v2 => (evE Φ G c1 v2 S5).bind fun b1 S6 => ifD b1 ((evE Φ G e v2 S6).bind fun y S7 => .ok [y] S7) (.ok [] S6)
          | none => .stuck) xs1 S4) (.ok [] S3)
      | none => .stuck) xs S1).quiet).bind fun ys S5 => if ys.length ≤ lim then .ok (.lst ys) S5 else .stuck
  | .srtL i e, v, S => (evE Φ G e v S).bind fun x S1 => match v[i]? with
    | some (.d y) => .of (srtLam S1 x y) S1
    | _ => .stuck
  | .mk e, v, S => (evE Φ G e v S).bind fun x S1 => match x with
    | .lst xs => .ok (.ref S1.length) (S1 ++ [.lst xs])
    | _ => .stuck
  | .pure e, v, S => quietD S (evE Φ G e (v.map (snapC S)) [])
def evEs (Φ : Cal) (G : Nat → Option D) : Exs → Fm → Store → Rs (List D)
  | .nil, _, S => .ok [] S
  | .cons e es, v, S => (evE Φ G e v S).bind fun x S1 => (evEs Φ G es v S1).bind fun xs S2 => .ok (x :: xs) S2
/-- what is walked -/
def evI (Φ : Cal) (G : Nat → Option D) : Itr → Fm → Store → Rs (List D)
  | .seq e, v, S => (evE Φ G e v S).bind fun x S1 => match x with
    | .tup xs => .ok xs S1
    | .lst xs => .ok xs S1
    | _ => .stuck
  | .range1 a, v, S => (evE Φ G a v S).bind fun x S1 => match x with
    | .int i => if okRange i = true then .ok (rangeD 0 i.toNat) S1 else .stuck
    | _ => .stuck
  | .range2 a b, v, S => (evE Φ G a v S).bind fun x S1 => (evE Φ G b v S1).bind fun y S2 => match x, y with
    | .int i, .int j => if okRange i = true ∧ okRange j = true then .ok (rangeD i (j - i).toNat) S2 else .stuck
    | _, _ => .stuck
  | .enum e, v, S => (evE Φ G e v S).bind fun x S1 => match x with
    | .lst xs => .ok (enumD xs) S1
    | .tup xs => .ok (enumD xs) S1
    | _ => .stuck
  | .zip a b, v, S => (evE Φ G a v S).bind fun x S1 => (evE Φ G b v S1).bind fun y S2 => match seqD x, seqD y with
    | some xs, some ys => .ok (List.zipWith (fun a b => .tup [a, b]) xs ys) S2
    | _, _ => .stuck
  | .zip3 a b c, v, S => (evE Φ G a v S).bind fun x S1 => (evE Φ G b v S1).bind fun y S2 => (evE Φ G c v S2).bind fun z S3 => match seqD x, seqD y, seqD z with
    | some xs, some ys, some zs => .ok (List.zipWith (fun p c => .tup (p ++ [c])) (List.zipWith (fun a b => [a, b]) xs ys) zs) S3
    | _, _, _ => .stuck
  | .chars e, v, S => (evE Φ G e v S).bind fun x S1 => match x with
    | .str s => if s.cps.toList.length ≤ lim then .ok (s.cps.toList.map fun c => .str ⟨#[c]⟩) S1 else .stuck
    | _ => .stuck
end

/-- how a statement ends -/
inductive Fl where
  | nx (v : Fm) | rt (d : D) | br (v : Fm) | ct (v : Fm)
def forL (f : D → Fm → Store → Rs Fl) : List D → Fm → Store → Rs Fl
  | [], v, S => .ok (.nx v) S
  | x :: xs, v, S => (f x v S).bind fun r S1 => match r with
    | .nx v1 => forL f xs v1 S1
    | .ct v1 => forL f xs v1 S1
    | .br v1 => .ok (.nx v1) S1
    | .rt d => .ok (.rt d) S1
def whileN (t : Fm → Store → Rs D) (b : Fm → Store → Rs Fl) : Nat → Fm → Store → Rs Fl
  | 0, _, _ => .stuck
  | n + 1, v, S => (t v S).bind fun c S1 => ifD c ((b v S1).bind fun r S2 => match r with
    | .nx v1 => whileN t b n v1 S2
    | .ct v1 => whileN t b n v1 S2
    | .br v1 => .ok (.nx v1) S2
    | .rt d => .ok (.rt d) S2) (.ok (.nx v) S1)
open Classical in
noncomputable def whileR (t : Fm → Store → Rs D) (b : Fm → Store → Rs Fl) (v : Fm) (S : Store) : Rs Fl :=
  if h : ∃ n, whileN t b n v S ≠ .stuck then whileN t b (Classical.choose h) v S else .stuck

open Classical in
/-- a walk over a list of the store, which stays as it is -/
noncomputable def forLC (f : D → Fm → Store → Rs Fl) (n : Nat) (ys : List D) : List D → Fm → Store → Rs Fl
  | [], v, S => if S[n]? = some (.lst ys) then .ok (.nx v) S else .stuck
  | x :: xs, v, S => if S[n]? = some (.lst ys) then (f x v S).bind fun r S1 => match r with
    | .nx v1 => forLC f n ys xs v1 S1
    | .ct v1 => forLC f n ys xs v1 S1
    | .br v1 => .ok (.nx v1) S1
    | .rt d => .ok (.rt d) S1 else .stuck

mutual
noncomputable def evS (Φ : Cal) (G : Nat → Option D) : Sm → Fm → Store → Rs Fl
  | .asg g e, v, S => (evE Φ G e v S).bind fun x S1 => match g.set x v with
    | some v' => .ok (.nx v') S1
    | none => .stuck
  | .own i e, v, S => (evE Φ G e v S).bind fun x S1 => match x with
    | .lst xs => .ok (.nx (v.set i (.own xs))) S1
    | _ => .stuck
  | .alloc i e, v, S => (evE Φ G e v S).bind fun x S1 => match x with
    | .lst xs => .ok (.nx (v.set i (.d (.ref S1.length)))) (S1 ++ [.lst xs])
    | _ => .stuck
  | .frz i, v, S => match v[i]? with
    | some (.own xs) => .ok (.nx (v.set i (.d (.lst xs)))) S
    | _ => .stuck
  | .app i e, v, S => (evE Φ G e v S).bind fun x S1 => match v[i]? with
    | some (.own xs) => if xs.length < lim then .ok (.nx (v.set i (.own (xs ++ [x])))) S1 else .stuck
    | _ => .stuck
  | .setO i a e, v, S => (evE Φ G e v S).bind fun x S1 => (evE Φ G a v S1).bind fun k S2 => match v[i]?, k with
    | some (.own xs), .int k => match ixAt xs.length k with
      | some j => .ok (.nx (v.set i (.own (xs.set j x)))) S2
      | none => .stuck
    | _, _ => .stuck
  | .setR o a e, v, S => (evE Φ G e v S).bind fun x S1 => (evE Φ G o v S1).bind fun r S2 => (evE Φ G a v S2).bind fun k S3 => match r, k with
    | .ref n, .int k => match S3[n]? with
      | some (.lst xs) => match ixAt xs.length k with
        | some j => .ok (.nx v) (S3.set n (.lst (xs.set j x)))
        | none => .stuck
      | none => .stuck
    | _, _ => .stuck
  | .appR o e, v, S => (evE Φ G o v S).bind fun r S1 => (evE Φ G e v S1).bind fun x S2 => match r with
    | .ref n => match S2[n]? with
      | some (.lst xs) => if xs.length < lim then .ok (.nx v) (S2.set n (.lst (xs ++ [x]))) else .stuck
      | none => .stuck
    | _ => .stuck
  | .aug i o e, v, S => match v[i]? with
    | some (.d (.int a)) => (evE Φ G e v S).bind fun x S1 => match o, x with
      | .add, .int b => .ok (.nx (v.set i (.d (.int (a + b))))) S1
      | .sub, .int b => .ok (.nx (v.set i (.d (.int (a - b))))) S1
      | _, _ => .stuck
    | _ => .stuck
  | .ret e, v, S => (evE Φ G e v S).bind fun x S1 => .ok (.rt x) S1
  | .retF e, v, S => (evE Φ G e v S).bind fun x S1 => .ok (.rt x) S1
  | .retO i, v, S => match v[i]? with
    | some (.own xs) => .ok (.rt (.lst xs)) S
    | _ => .stuck
  | .ife c a b, v, S => (evE Φ G c v S).bind fun x S1 => ifD x (evSs Φ G a v S1) (evSs Φ G b v S1)
  | .for_ g it b, v, S => (evI Φ G it v S).bind fun xs S1 => forL (fun x v1 S2 => match g.set x v1 with
      | some v2 => evSs Φ G b v2 S2
      | none => .stuck) xs v S1
  | .forR g e b, v, S => (evE Φ G e v S).bind fun x S1 => match x with
    | .ref n => match S1[n]? with
      | some (.lst xs) => forLC (fun x v1 S2 => match g.set x v1 with
        | some v2 => evSs Φ G b v2 S2
        | none => .stuck) n xs xs v S1
      | none => .stuck
    | _ => .stuck
  | .while_ c b, v, S => whileR (fun v1 S1 => evE Φ G c v1 S1) (fun v1 S1 => evSs Φ G b v1 S1) v S
  | .brk, v, S => .ok (.br v) S
  | .cont, v, S => .ok (.ct v) S
  | .pass, v, S => .ok (.nx v) S
  | .drop e, v, S => (evE Φ G e v S).bind fun _ S1 => .ok (.nx v) S1
noncomputable def evSs (Φ : Cal) (G : Nat → Option D) : Sms → Fm → Store → Rs Fl
  | .nil, v, S => .ok (.nx v) S
  | .cons s ss, v, S => (evS Φ G s v S).bind fun r S1 => match r with
    | .nx v1 => evSs Φ G ss v1 S1
    | r => .ok r S1
end

/-- a def: its parameters' number, its slots' number, whether it hands back a new list, its body -/
structure Fd where
  ps : Nat
  ns : Nat
  fresh : Bool
  body : Sms
def env0 (n : Nat) (xs : List D) : Fm := xs.map .d ++ List.replicate (n - xs.length) .non
/-- what a call leaves: the store behind it, without what was made within -/
def leave (n : Nat) (d : D) (S : Store) : Rs D :=
  if S.length = n then .ok d S else if (d.under n && (S.take n).all (Ob.under n)) = true then .ok d (S.take n) else .stuck
noncomputable def callN (T : Nat → Option Fd) (G : Nat → Option D) : Nat → Cal
  | 0, _, _, _ => .stuck
  | n + 1, f, xs, S => match T f with
    | some F => if xs.length = F.ps then (evSs (callN T G n) G F.body (env0 F.ns xs) S).bind fun r S1 => match r with
        | .rt d => leave S.length d S1
        | .nx _ => leave S.length .non S1
        | _ => .stuck
      else .stuck
    | none => .stuck
end Q
/-! Q1: how data stand in the abstract heap; the meaning of a reading. -/
namespace Q
open PySem L2

abbrev Fg := PySem.W.Frag
/-- the tables of code objects that are looked after, each with the name that its lambda bears -/
class TC where
  T : List (Addr × Str)
variable [TC]
def NT (u : HO) : Prop := ∀ ps, u ≠ .tbl ps
def TbKeep (H H' : Hp) : Prop := LamX.Tabs TC.T H → LamX.Tabs TC.T H'
theorem TbKeep.refl {H : Hp} : TbKeep H H := fun t => t
theorem TbKeep.of {H H' : Hp} (k : ∀ a u, H a = some u → H' a = some u) : TbKeep H H' := fun t => t.ext k
theorem TbKeep.trans {H H1 H2 : Hp} (a : TbKeep H H1) (b : TbKeep H1 H2) : TbKeep H H2 := fun t => b (a t)
theorem TbKeep.updN {H : Hp} {a : Addr} {u o : HO} (h : H a = some u) (h1 : NT u) (h2 : ∀ c q, u ≠ LamX.CodeO c q) : TbKeep H (upd H a o) := fun t p hp => by
  obtain ⟨ps, e0, e1, e3⟩ := t p hp
  refine ⟨ps, by rw [upd_ne (fun z => by rw [z, h] at e0; exact h1 ps (Option.some.inj e0))]; exact e0, e1, fun pos cv hc => ?_⟩
  obtain ⟨c, q1, q2⟩ := e3 pos cv hc
  exact ⟨c, q1, by rw [upd_ne (fun z => by rw [z, h] at q2; exact h2 _ _ (Option.some.inj q2))]; exact q2⟩
theorem TbKeep.updL {H : Hp} {a : Addr} {vs : List V} {o : HO} (h : H a = some (.lst vs)) : TbKeep H (upd H a o) := .updN h (fun _ e => nomatch e) fun c q e => by unfold LamX.CodeO at e; cases e
theorem TbKeep.new {H : Hp} {p : Addr} {o : HO} (h : H p = none) : TbKeep H (upd H p o) := .of fun a u e => by rw [upd_ne (ne_of_none e h)]; exact e
/-- a list of the written part -/
def KLst (K : Fg) (a : Addr) (xs : List V) : Prop := ∃ (o : Obj) (its : Array Value) (n : Nat), K.lookup a = some o ∧ o.cls = .type "list" ∧ o.dict = none ∧ o.data = .seq its n ∧ its.size ≤ sizeLine ∧ Vals xs its.toList
/-- a list that nobody changes: tracked and not among N, or written -/
def FrL (K : Fg) (N : Addr → Prop) (H : Hp) (a : Addr) (vs : List V) : Prop := (Rd H a (.lst vs) ∧ ¬ N a) ∨ KLst K a vs
theorem FrL.sq {K : Fg} {N : Addr → Prop} {H : Hp} {a : Addr} {vs : List V} (h : FrL K N H a vs) : SqL K H a vs := h.elim (fun z => .inl z.1) .inr

mutual
inductive VD (K : Fg) (N : Addr → Prop) (μ : List Addr) (H : Hp) : V → D → Prop
  | non : VD K N μ H .non .non
  | bl (b : Bool) : VD K N μ H (.bl b) (.bl b)
  | int (i : Int) : VD K N μ H (.int i) (.int i)
  | str (s : Str) (h : PyData.strOk s = true) : VD K N μ H (.str s) (.str s)
  | tup {a : Addr} {vs : List V} {ds : List D} (h : SqT K H a vs) (hs : VDs K N μ H vs ds) : VD K N μ H (.ref a) (.tup ds)
  | lst {a : Addr} {vs : List V} {ds : List D} (h : FrL K N H a vs) (hs : VDs K N μ H vs ds) : VD K N μ H (.ref a) (.lst ds)
  | ref {n : Nat} {a : Addr} (h : μ[n]? = some a) : VD K N μ H (.ref a) (.ref n)
inductive VDs (K : Fg) (N : Addr → Prop) (μ : List Addr) (H : Hp) : List V → List D → Prop
  | nil : VDs K N μ H [] []
  | cons {v : V} {vs : List V} {d : D} {ds : List D} (h : VD K N μ H v d) (hs : VDs K N μ H vs ds) : VDs K N μ H (v :: vs) (d :: ds)
end

structure Xt (K : Fg) (N N' : Addr → Prop) (μ μ' : List Addr) (H H' : Hp) : Prop where
  t : ∀ a vs, SqT K H a vs → SqT K H' a vs
  l : ∀ a vs, FrL K N H a vs → FrL K N' H' a vs
  m : ∀ (n : Nat) (a : Addr), μ[n]? = some a → μ'[n]? = some a
section
variable {K : Fg} {N N' : Addr → Prop} {μ μ' : List Addr} {H H' : Hp}
mutual
theorem VD.mono (e : Xt K N N' μ μ' H H') : ∀ {v : V} {d : D}, VD K N μ H v d → VD K N' μ' H' v d
  | _, _, .non => .non
  | _, _, .bl b => .bl b
  | _, _, .int i => .int i
  | _, _, .str s h => .str s h
  | _, _, .tup h hs => .tup (e.t _ _ h) (VDs.mono e hs)
  | _, _, .lst h hs => .lst (e.l _ _ h) (VDs.mono e hs)
  | _, _, .ref h => .ref (e.m _ _ h)
theorem VDs.mono (e : Xt K N N' μ μ' H H') : ∀ {v : List V} {d : List D}, VDs K N μ H v d → VDs K N' μ' H' v d
  | _, _, .nil => .nil
  | _, _, .cons h hs => .cons (VD.mono e h) (VDs.mono e hs)
end
theorem VDs.length : ∀ {vs : List V} {ds : List D}, VDs K N μ H vs ds → vs.length = ds.length
  | _, _, .nil => rfl
  | _, _, .cons _ hs => congrArg (· + 1) (VDs.length hs)
theorem VDs.get : ∀ {vs : List V} {ds : List D} {i : Nat} {x : D}, VDs K N μ H vs ds → ds[i]? = some x → ∃ v, vs[i]? = some v ∧ VD K N μ H v x
  | _, _, _, _, .nil, e => by simp at e
  | _, _, 0, _, .cons h _, e => by simp at e; subst e; exact ⟨_, rfl, h⟩
  | _, _, i + 1, x, .cons _ hs, e => by
    obtain ⟨v, h1, h2⟩ := VDs.get (i := i) hs (by simpa using e)
    exact ⟨v, by simpa using h1, h2⟩
theorem VDs.getV : ∀ {vs : List V} {ds : List D} {i : Nat} {v : V}, VDs K N μ H vs ds → vs[i]? = some v → ∃ x, ds[i]? = some x ∧ VD K N μ H v x
  | _, _, _, _, .nil, e => by simp at e
  | _, _, 0, _, .cons h _, e => by simp at e; subst e; exact ⟨_, rfl, h⟩
  | _, _, i + 1, v, .cons _ hs, e => by
    obtain ⟨x, h1, h2⟩ := VDs.getV (i := i) hs (by simpa using e)
    exact ⟨x, by simpa using h1, h2⟩
theorem VDs.append : ∀ {vs ws : List V} {ds es : List D}, VDs K N μ H vs ds → VDs K N μ H ws es → VDs K N μ H (vs ++ ws) (ds ++ es)
  | _, _, _, _, .nil, h => h
  | _, _, _, _, .cons a b, h => .cons a (VDs.append b h)
theorem VDs.take : ∀ {vs : List V} {ds : List D} (n : Nat), VDs K N μ H vs ds → VDs K N μ H (vs.take n) (ds.take n)
  | _, _, 0, _ => .nil
  | _, _, _ + 1, .nil => .nil
  | _, _, n + 1, .cons a b => .cons a (VDs.take n b)
theorem VDs.drop : ∀ {vs : List V} {ds : List D} (n : Nat), VDs K N μ H vs ds → VDs K N μ H (vs.drop n) (ds.drop n)
  | _, _, 0, h => h
  | _, _, _ + 1, .nil => .nil
  | _, _, n + 1, .cons _ b => VDs.drop n b
theorem VDs.set {v : V} {d : D} (r : VD K N μ H v d) : ∀ {vs : List V} {ds : List D} (n : Nat), VDs K N μ H vs ds → VDs K N μ H (vs.set n v) (ds.set n d)
  | _, _, _, .nil => .nil
  | _, _, 0, .cons _ b => .cons r b
  | _, _, n + 1, .cons a b => .cons a (VDs.set r n b)
theorem VDs.reverse {vs : List V} {ds : List D} (h : VDs K N μ H vs ds) : VDs K N μ H vs.reverse ds.reverse := by
  induction vs generalizing ds with
  | nil => cases h; exact .nil
  | cons v vs ih =>
    cases h with
    | cons a b =>
      rw [List.reverse_cons, List.reverse_cons]
      exact (ih b).append (.cons a .nil)
theorem VDs.one {v : V} {d : D} (h : VD K N μ H v d) : VDs K N μ H [v] [d] := .cons h .nil
theorem VDs.ints : ∀ {vs : List V} {ds : List D} {ns : List Int}, VDs K N μ H vs ds → intL ds = some ns → vs = ns.map V.int
  | _, _, _, .nil, e => by simp [intL] at e; subst e; rfl
  | v :: vs, d :: ds, ns, .cons a b, e => by
    cases a <;> simp [intL] at e
    obtain ⟨r, e1, e2⟩ := e
    subst e2
    rw [VDs.ints b e1]
    rfl
theorem VDs.bools : ∀ {vs : List V} {ds : List D} {ns : List Bool}, VDs K N μ H vs ds → boolL ds = some ns → vs = ns.map V.bl
  | _, _, _, .nil, e => by simp [boolL] at e; subst e; rfl
  | v :: vs, d :: ds, ns, .cons a b, e => by
    cases a <;> simp [boolL] at e
    obtain ⟨r, e1, e2⟩ := e
    subst e2
    rw [VDs.bools b e1]
    rfl
theorem VDs.of_ints : ∀ (ns : List Int), VDs K N μ H (ns.map V.int) (ns.map D.int)
  | [] => .nil
  | n :: ns => .cons (.int n) (VDs.of_ints ns)
end

/-! ### the frame and the store -/
def NN (Z : Addr → Prop) (μ : List Addr) (ω : List (Option Addr)) (a : Addr) : Prop := a ∈ μ ∨ some a ∈ ω ∨ Z a
structure Step (μ : List Addr) (H : Hp) (μ' : List Addr) (H' : Hp) : Prop where
  keepN : ∀ a u, a ∉ μ → NT u → H a = some u → H' a = some u
  pre : ∃ more, μ' = μ ++ more ∧ ∀ a ∈ more, H a = none
  live : ∀ a, H' a = none → H a = none
  tab : TbKeep H H'
theorem Step.keep {μ μ' : List Addr} {H H' : Hp} (s : Step μ H μ' H') (a : Addr) (u : HO) (h : a ∉ μ) (e : H a = some u) (n : NT u := by exact fun _ e => nomatch e) : H' a = some u := s.keepN a u h n e
/-- nothing is changed -/
theorem Step.of {μ : List Addr} {H H' : Hp} (k : ∀ a u, H a = some u → H' a = some u) : Step μ H μ H' := ⟨fun a u _ _ e => k a u e, ⟨[], by simp, fun _ h => by simp at h⟩, fun a h => (by
  cases z : H a with
  | none => rfl
  | some u => rw [k a u z] at h; cases h), TbKeep.of k⟩
/-- a thing that may be changed -/
def IsMu (H : Hp) (a : Addr) : Prop := ∃ vs, H a = some (.lst vs)
def ObR (K : Fg) (N : Addr → Prop) (μ : List Addr) (H : Hp) (a : Addr) : Ob → Prop
  | .lst xs => ∃ vs, H a = some (.lst vs) ∧ VDs K N μ H vs xs
structure Rel (K : Fg) (Z : Addr → Prop) (μ : List Addr) (ω : List (Option Addr)) (H : Hp) (σ : L2.St) (v : Fm) (S : Store) : Prop where
  len : σ.length = v.length
  dat : ∀ (i : Nat) x, v[i]? = some (.d x) → ∃ y, σ[i]? = some (some y) ∧ VD K (NN Z μ ω) μ H y x
  own : ∀ (i : Nat) xs, v[i]? = some (.own xs) → ∃ a vs, ω[i]? = some (some a) ∧ σ[i]? = some (some (.ref a)) ∧ H a = some (.lst vs) ∧ VDs K (NN Z μ ω) μ H vs xs
  sto : ∀ (n : Nat) o, S[n]? = some o → ∃ a, μ[n]? = some a ∧ ObR K (NN Z μ ω) μ H a o
  mlen : μ.length = S.length
  nd : μ.Nodup
  oinj : ∀ (i j : Nat) a, ω[i]? = some (some a) → ω[j]? = some (some a) → i = j
  oap : ∀ a, some a ∈ ω → a ∉ μ ∧ ¬ Z a ∧ IsMu H a
  zap : ∀ a, Z a → a ∉ μ ∧ H a ≠ none
  olen : ω.length = v.length
  tab : LamX.Tabs TC.T H

section
variable {K : Fg} {Z : Addr → Prop} {μ μ' μ2 : List Addr} {ω : List (Option Addr)} {H H' H2 : Hp} {σ : L2.St} {v : Fm} {S S' : Store}
theorem Step.refl : Step μ H μ H := .of fun _ _ h => h
theorem Step.mem (s : Step μ H μ' H') {a : Addr} (h : a ∈ μ) : a ∈ μ' := by
  obtain ⟨m, e, _⟩ := s.pre
  rw [e]; exact List.mem_append_left _ h
theorem Step.not (s : Step μ H μ' H') {a : Addr} {u : HO} (h : a ∉ μ) (e : H a = some u) : a ∉ μ' := by
  obtain ⟨m, e1, hm⟩ := s.pre
  rw [e1, List.mem_append]
  rintro (z | z)
  · exact h z
  · rw [hm a z] at e; cases e
theorem Step.trans (a : Step μ H μ' H') (b : Step μ' H' μ2 H2) (hm : ∀ x ∈ μ', H' x ≠ none) : Step μ H μ2 H2 := by
  obtain ⟨m1, e1, h1⟩ := a.pre
  obtain ⟨m2, e2, h2⟩ := b.pre
  refine ⟨fun x u hx n e => b.keepN x u (a.not hx e) n (a.keepN x u hx n e), ⟨m1 ++ m2, by rw [e2, e1, List.append_assoc], fun x hx => ?_⟩, fun x h => a.live x (b.live x h), a.tab.trans b.tab⟩
  rcases List.mem_append.mp hx with z | z
  · exact h1 x z
  · exact a.live x (h2 x z)
theorem Rel.mu (r : Rel K Z μ ω H σ v S) {a : Addr} (h : a ∈ μ) : IsMu H a := by
  obtain ⟨n, hn⟩ := List.getElem?_of_mem h
  have hl : n < S.length := by
    rw [← r.mlen]
    exact (List.getElem?_eq_some_iff.mp hn).1
  obtain ⟨b, hb, ho⟩ := r.sto n _ (List.getElem?_eq_getElem hl)
  rw [hn] at hb; cases hb
  cases S[n] with
  | lst xs => obtain ⟨vs, e, _⟩ := ho; exact ⟨vs, e⟩
theorem Rel.live (r : Rel K Z μ ω H σ v S) : ∀ a ∈ μ, H a ≠ none := fun a h => by
  obtain ⟨vs, e⟩ := r.mu h
  rw [e]; simp
/-- whatever is among N is tracked -/
theorem Rel.nnone (r : Rel K Z μ ω H σ v S) {a : Addr} (h : NN Z μ ω a) : H a ≠ none := by
  rcases h with h | h | h
  · exact r.live a h
  · obtain ⟨_, _, vs, e⟩ := r.oap a h
    rw [e]; simp
  · exact (r.zap a h).2
theorem Rel.fresh (r : Rel K Z μ ω H σ v S) {a : Addr} (h : H a = none) : ¬ NN Z μ ω a := fun z => r.nnone z h
theorem Step.xt (s : Step μ H μ' H') (hm : ∀ a ∈ μ, IsMu H a) : Xt K (NN Z μ ω) (NN Z μ' ω) μ μ' H H' := by
  refine ⟨fun a vs h => ?_, fun a vs h => ?_, fun n a h => ?_⟩
  · rcases h with (h | ⟨o, h⟩) | h
    · refine .inl (.inl (s.keep a _ (fun z => ?_) h))
      obtain ⟨ws, e⟩ := hm a z
      rw [h] at e; cases e
    · refine .inl (.inr ⟨o, s.keep a _ (fun z => ?_) h⟩)
      obtain ⟨ws, e⟩ := hm a z
      rw [h] at e; cases e
    · exact .inr h
  · rcases h with ⟨h, hn⟩ | h
    · have hmem : a ∉ μ := fun z => hn (.inl z)
      refine .inl ⟨?_, ?_⟩
      · rcases h with h | ⟨o, h⟩
        · exact .inl (s.keep a _ hmem h)
        · exact .inr ⟨o, s.keep a _ hmem h⟩
      · rintro (z | z | z)
        · rcases h with h | ⟨o, h⟩
          · exact s.not hmem h z
          · exact s.not hmem h z
        · exact hn (.inr (.inl z))
        · exact hn (.inr (.inr z))
    · exact .inr h
  · obtain ⟨m, e, _⟩ := s.pre
    rw [e, List.getElem?_append_left (List.getElem?_eq_some_iff.mp h).1]
    exact h
/-- the tables behind a step -/
theorem Rel.tabS (r : Rel K Z μ ω H σ v S) (k : TbKeep H H') : LamX.Tabs TC.T H' := k r.tab
theorem Rel.xt (r : Rel K Z μ ω H σ v S) (s : Step μ H μ' H') : Xt K (NN Z μ ω) (NN Z μ' ω) μ μ' H H' := s.xt fun _ h => r.mu h
/-- one new thing -/
theorem Step.new {p : Addr} {o : HO} (h : H p = none) : Step μ H μ (upd H p o) := .of fun a u e => by rw [upd_ne (ne_of_none e h)]; exact e
/-- .. and a list that was not there is changed -/
theorem Step.putN (s : Step μ H μ' H') {p : Addr} {vs : List V} {o : HO} (hp : H p = none) (e : H' p = some (.lst vs)) : Step μ H μ' (upd H' p o) := by
  refine ⟨fun a u ha n q => by rw [upd_ne (ne_of_none q hp)]; exact s.keepN a u ha n q, s.pre, fun a h => ?_, s.tab.trans (.updL e)⟩
  by_cases hb : a = p
  · rw [hb, upd_same] at h; cases h
  · rw [upd_ne hb] at h; exact s.live a h
/-- only the abstract heap has grown -/
theorem Step.ofN (k : ∀ a u, NT u → H a = some u → H' a = some u) (l : ∀ a, H' a = none → H a = none) (t : TbKeep H H') : Step μ H μ H' := ⟨fun a u _ n e => k a u n e, ⟨[], by simp, fun _ h => by simp at h⟩, l, t⟩
theorem Rel.growN (r : Rel K Z μ ω H σ v S) (kN : ∀ a u, NT u → H a = some u → H' a = some u) (lv : ∀ a, H' a = none → H a = none) (tb : TbKeep H H') : Rel K Z μ ω H' σ v S := by
  have s : Step μ H μ H' := .ofN kN lv tb
  have x := r.xt s
  have k : ∀ a vs, H a = some (.lst vs) → H' a = some (.lst vs) := fun a vs => kN a _ fun _ e => nomatch e
  refine ⟨r.len, fun i d h => ?_, fun i xs h => ?_, fun n o h => ?_, r.mlen, r.nd, r.oinj, fun a h => ?_, fun a h => ?_, r.olen, tb r.tab⟩
  · obtain ⟨y, e, q⟩ := r.dat i d h
    exact ⟨y, e, q.mono x⟩
  · obtain ⟨a, vs, e1, e2, e3, q⟩ := r.own i xs h
    exact ⟨a, vs, e1, e2, k _ _ e3, q.mono x⟩
  · obtain ⟨a, e1, q⟩ := r.sto n o h
    refine ⟨a, e1, ?_⟩
    cases o with
    | lst xs => obtain ⟨vs, e, q⟩ := q; exact ⟨vs, k _ _ e, q.mono x⟩
  · obtain ⟨h1, h2, vs, e⟩ := r.oap a h
    exact ⟨h1, h2, vs, k _ _ e⟩
  · obtain ⟨h1, h2⟩ := r.zap a h
    exact ⟨h1, fun q => h2 (lv a q)⟩
theorem Rel.grow (r : Rel K Z μ ω H σ v S) (k : ∀ a u, H a = some u → H' a = some u) : Rel K Z μ ω H' σ v S := r.growN (fun a u _ e => k a u e) (Step.of (μ := μ) k).live (.of k)
theorem Rel.new (r : Rel K Z μ ω H σ v S) {p : Addr} {o : HO} (h : H p = none) : Rel K Z μ ω (upd H p o) σ v S := r.grow fun a u e => by rw [upd_ne (ne_of_none e h)]; exact e
variable {Z' : Addr → Prop}
/-- .. and one more outside -/
def ZP (Z : Addr → Prop) (p : Addr) (a : Addr) : Prop := Z a ∨ a = p
theorem Step.xtD (s : Step μ H μ' H') (hm : ∀ a ∈ μ, IsMu H a) {D0 : Addr} (hD : H D0 = none) (hZ : ∀ a, Z' a → Z a ∨ a = D0) : Xt K (NN Z μ ω) (NN Z' μ' ω) μ μ' H H' := by
  have x := s.xt (K := K) (Z := Z) (ω := ω) hm
  refine ⟨x.t, fun a vs h => ?_, x.m⟩
  rcases x.l a vs h with ⟨q, hn⟩ | q
  · rcases h with ⟨h, _⟩ | h
    · refine .inl ⟨q, fun z => ?_⟩
      rcases z with z | z | z
      · exact hn (.inl z)
      · exact hn (.inr (.inl z))
      · rcases hZ a z with z | z
        · exact hn (.inr (.inr z))
        · subst z
          rcases h with h | ⟨_, h⟩ <;> (rw [hD] at h; cases h)
    · exact .inr h
  · exact .inr q
/-- a new thing, put among those outside -/
theorem Rel.shield (r : Rel K Z μ ω H σ v S) {D0 : Addr} {o : HO} (hD : H D0 = Option.none) : Rel K (ZP Z D0) μ ω (upd H D0 o) σ v S := by
  have s : Step μ H μ (upd H D0 o) := .new hD
  have x : Xt K (NN Z μ ω) (NN (ZP Z D0) μ ω) μ μ H (upd H D0 o) := s.xtD (fun a h => r.mu h) hD fun a h => h
  have kp : ∀ a u, H a = some u → upd H D0 o a = some u := fun a u e => by rw [upd_ne (ne_of_none e hD)]; exact e
  refine ⟨r.len, fun i d e => ?_, fun i xs e => ?_, fun n ob e => ?_, r.mlen, r.nd, r.oinj, fun a ha => ?_, fun a ha => ?_, r.olen, r.tab.ext kp⟩
  · obtain ⟨y, e1, q⟩ := r.dat i d e
    exact ⟨y, e1, q.mono x⟩
  · obtain ⟨a, ws, e1, e2, e3, q⟩ := r.own i xs e
    exact ⟨a, ws, e1, e2, kp _ _ e3, q.mono x⟩
  · obtain ⟨a, e1, q⟩ := r.sto n ob e
    refine ⟨a, e1, ?_⟩
    cases ob with
    | lst xs =>
      obtain ⟨ws, e2, q⟩ := q
      exact ⟨ws, kp _ _ e2, q.mono x⟩
  · obtain ⟨h1, h2, ws, e⟩ := r.oap a ha
    refine ⟨h1, ?_, ws, kp _ _ e⟩
    rintro (z | z)
    · exact h2 z
    · rw [z, hD] at e; cases e
  · rcases ha with ha | ha
    · obtain ⟨h1, h2⟩ := r.zap a ha
      refine ⟨h1, ?_⟩
      cases q : H a with
      | none => exact absurd q h2
      | some u => rw [kp a u q]; simp
    · subst ha
      exact ⟨fun z => r.live a z hD, by rw [upd_same]; simp⟩
theorem Xt.weak {N N' : Addr → Prop} (h : ∀ a, N' a → N a) : Xt K N N' μ μ H H := by
  refine ⟨fun _ _ h => h, fun a vs q => ?_, fun _ _ h => h⟩
  rcases q with ⟨q, hn⟩ | q
  · exact .inl ⟨q, fun z => hn (h a z)⟩
  · exact .inr q
theorem NN.sub (hZ : ∀ a, Z a → Z' a) (a : Addr) (h : NN Z μ ω a) : NN Z' μ ω a := h.imp id fun h => h.imp id (hZ a)
theorem Rel.weakZ (r : Rel K Z' μ ω H σ v S) (hZ : ∀ a, Z a → Z' a) : Rel K Z μ ω H σ v S := by
  have x : Xt K (NN Z' μ ω) (NN Z μ ω) μ μ H H := .weak fun a h => NN.sub hZ a h
  refine ⟨r.len, fun i d e => ?_, fun i xs e => ?_, fun n ob e => ?_, r.mlen, r.nd, r.oinj, fun a ha => ?_, fun a ha => r.zap a (hZ a ha), r.olen, r.tab⟩
  · obtain ⟨y, e1, q⟩ := r.dat i d e
    exact ⟨y, e1, q.mono x⟩
  · obtain ⟨a, ws, e1, e2, e3, q⟩ := r.own i xs e
    exact ⟨a, ws, e1, e2, e3, q.mono x⟩
  · obtain ⟨a, e1, q⟩ := r.sto n ob e
    refine ⟨a, e1, ?_⟩
    cases ob with
    | lst xs =>
      obtain ⟨ws, e2, q⟩ := q
      exact ⟨ws, e2, q.mono x⟩
  · obtain ⟨h1, h2, h3⟩ := r.oap a ha
    exact ⟨h1, fun z => h2 (hZ a z), h3⟩
end

/-! ### what a reading means -/
section
variable (K : Fg) (Z : Addr → Prop) (μ : List Addr) (ω : List (Option Addr)) (H : Hp) (σ : L2.St) (v : Fm)
/-- an answer, as Q wishes it -/
def Post (r : Rs D) (Q : VK) : Prop := match r with
  | .ok d S' => ∀ y H' μ', Step μ H μ' H' → Rel K Z μ' ω H' σ v S' → VD K (NN Z μ' ω) μ' H' y d → Q y H'
  | _ => False
/-- .. where a list that is answered is a new one -/
def PostF (r : Rs D) (Q : VK) : Prop := match r with
  | .ok d S' => (∀ xs, d = .lst xs → ∀ p vs H' μ', Step μ H μ' H' → Rel K (ZP Z p) μ' ω H' σ v S' → H p = none → H' p = some (.lst vs) → VDs K (NN (ZP Z p) μ' ω) μ' H' vs xs → Q (.ref p) H') ∧
      ((∀ xs, d ≠ .lst xs) → ∀ y H' μ', Step μ H μ' H' → Rel K Z μ' ω H' σ v S' → VD K (NN Z μ' ω) μ' H' y d → Q y H')
  | _ => False
/-- data, or the frame's own list that is read in passing -/
def VB (y : V) (d : D) : Prop := VD K (NN Z μ ω) μ H y d ∨ ∃ a vs xs, y = .ref a ∧ d = .lst xs ∧ some a ∈ ω ∧ H a = some (.lst vs) ∧ VDs K (NN Z μ ω) μ H vs xs
def PostB (r : Rs D) (Q : VK) : Prop := match r with
  | .ok d S' => ∀ y H' μ', Step μ H μ' H' → Rel K Z μ' ω H' σ v S' → VB K Z μ' ω H' y d → Q y H'
  | _ => False
def PostA (r : Rs (List D)) (Q : List V → Hp → Prop) : Prop := match r with
  | .ok ds S' => ∀ ys H' μ', Step μ H μ' H' → Rel K Z μ' ω H' σ v S' → VDs K (NN Z μ' ω) μ' H' ys ds → Q ys H'
  | _ => False
def PostT (r : Rs D) (Q : Bool → Hp → Prop) : Prop := match r with
  | .ok (.bl b) S' => ∀ H' μ', Step μ H μ' H' → Rel K Z μ' ω H' σ v S' → Q b H'
  | _ => False
end
section
variable (K : Fg) (Φ : Cal) (G : Nat → Option D)
def SemE (t : TE) (e : Ex) : Prop := ∀ Z μ ω H σ v S, Rel K Z μ ω H σ v S → ∀ Q, Post K Z μ ω H σ v (evE Φ G e v S) Q → t σ H Q
def SemF (t : TE) (e : Ex) : Prop := ∀ Z μ ω H σ v S, Rel K Z μ ω H σ v S → ∀ Q, PostF K Z μ ω H σ v (evE Φ G e v S) Q → t σ H Q
def SemB (t : TE) (e : Ex) : Prop := ∀ Z μ ω H σ v S, Rel K Z μ ω H σ v S → ∀ Q, PostB K Z μ ω H σ v (evE Φ G e v S) Q → t σ H Q
def SemA (t : TA) (es : Exs) : Prop := ∀ Z μ ω H σ v S, Rel K Z μ ω H σ v S → ∀ Q, PostA K Z μ ω H σ v (evEs Φ G es v S) Q → t σ H Q
def SemT (t : TT) (e : Ex) : Prop := ∀ Z μ ω H σ v S, Rel K Z μ ω H σ v S → ∀ Q, PostT K Z μ ω H σ v (evE Φ G e v S) Q → t σ H Q
end
section
variable {K : Fg} {Z : Addr → Prop} {μ μ' μ2 : List Addr} {ω : List (Option Addr)} {H H' H2 : Hp} {σ : L2.St} {v : Fm} {S S' : Store} {Φ : Cal} {G : Nat → Option D} {t : TE} {e : Ex}
theorem Post.re {r : Rs D} {Q : VK} (h : Post K Z μ ω H σ v r Q) (s : Step μ H μ' H') (hr : Rel K Z μ' ω H' σ v S) : Post K Z μ' ω H' σ v r Q := by
  cases r with
  | ok d S2 => exact fun y H2 μ2 s2 r2 q => h y H2 μ2 (s.trans s2 hr.live) r2 q
  | exc => exact h
  | stuck => exact h
theorem step_none {p : Addr} (s : Step μ H μ' H') (hr : Rel K Z μ' ω H' σ v S) (h : H' p = none) : H p = none := by
  exact s.live p h
theorem PostF.re {r : Rs D} {Q : VK} (h : PostF K Z μ ω H σ v r Q) (s : Step μ H μ' H') (hr : Rel K Z μ' ω H' σ v S) : PostF K Z μ' ω H' σ v r Q := by
  cases r with
  | ok d S2 => exact ⟨fun xs e p vs H2 μ2 s2 r2 n => h.1 xs e p vs H2 μ2 (s.trans s2 hr.live) r2 (step_none s hr n), fun ne y H2 μ2 s2 r2 q => h.2 ne y H2 μ2 (s.trans s2 hr.live) r2 q⟩
  | exc => exact h
  | stuck => exact h
theorem PostB.re {r : Rs D} {Q : VK} (h : PostB K Z μ ω H σ v r Q) (s : Step μ H μ' H') (hr : Rel K Z μ' ω H' σ v S) : PostB K Z μ' ω H' σ v r Q := by
  cases r with
  | ok d S2 => exact fun y H2 μ2 s2 r2 q => h y H2 μ2 (s.trans s2 hr.live) r2 q
  | exc => exact h
  | stuck => exact h
theorem PostA.re {r : Rs (List D)} {Q : List V → Hp → Prop} (h : PostA K Z μ ω H σ v r Q) (s : Step μ H μ' H') (hr : Rel K Z μ' ω H' σ v S) : PostA K Z μ' ω H' σ v r Q := by
  cases r with
  | ok d S2 => exact fun y H2 μ2 s2 r2 q => h y H2 μ2 (s.trans s2 hr.live) r2 q
  | exc => exact h
  | stuck => exact h
theorem PostT.re {r : Rs D} {Q : Bool → Hp → Prop} (h : PostT K Z μ ω H σ v r Q) (s : Step μ H μ' H') (hr : Rel K Z μ' ω H' σ v S) : PostT K Z μ' ω H' σ v r Q := by
  cases r with
  | ok d S2 =>
    cases d with
    | bl b => exact fun H2 μ2 s2 r2 => h H2 μ2 (s.trans s2 hr.live) r2
    | _ => exact h
  | exc => exact h
  | stuck => exact h
theorem VB.of {y : V} {d : D} (h : VD K (NN Z μ ω) μ H y d) : VB K Z μ ω H y d := .inl h
theorem VB.mono {y : V} {d : D} (h : VB K Z μ ω H y d) (r : Rel K Z μ ω H σ v S) (s : Step μ H μ' H') : VB K Z μ' ω H' y d := by
  rcases h with h | ⟨a, vs, xs, e1, e2, e3, e4, q⟩
  · exact .inl (h.mono (r.xt s))
  · exact .inr ⟨a, vs, xs, e1, e2, e3, s.keep a _ (r.oap a e3).1 e4, q.mono (r.xt s)⟩

/-! the parts in a row -/
/-- one part, then what hangs on its answer; P: what is wished of the whole -/
theorem SemE.bind {α : Type} {P : Rs α → Prop} {f : D → Store → Rs α} {k : VK} (ht : SemE K Φ G t e) (r : Rel K Z μ ω H σ v S) (h : P ((evE Φ G e v S).bind f)) (h0 : ¬ P .stuck) (h1 : ∀ c fs S, ¬ P (.exc c fs S))
    (hk : ∀ y H' μ' d S', Step μ H μ' H' → Rel K Z μ' ω H' σ v S' → VD K (NN Z μ' ω) μ' H' y d → P (f d S') → k y H') : t σ H k := by
  refine ht Z μ ω H σ v S r k ?_
  cases q : evE Φ G e v S with
  | ok d S' => rw [q] at h; exact fun y H' μ' s' r' x => hk y H' μ' d S' s' r' x h
  | exc c fs S' => rw [q] at h; exact absurd h (h1 _ _ _)
  | stuck => rw [q] at h; exact absurd h h0
theorem SemB.bind {α : Type} {P : Rs α → Prop} {f : D → Store → Rs α} {k : VK} (ht : SemB K Φ G t e) (r : Rel K Z μ ω H σ v S) (h : P ((evE Φ G e v S).bind f)) (h0 : ¬ P .stuck) (h1 : ∀ c fs S, ¬ P (.exc c fs S))
    (hk : ∀ y H' μ' d S', Step μ H μ' H' → Rel K Z μ' ω H' σ v S' → VB K Z μ' ω H' y d → P (f d S') → k y H') : t σ H k := by
  refine ht Z μ ω H σ v S r k ?_
  cases q : evE Φ G e v S with
  | ok d S' => rw [q] at h; exact fun y H' μ' s' r' x => hk y H' μ' d S' s' r' x h
  | exc c fs S' => rw [q] at h; exact absurd h (h1 _ _ _)
  | stuck => rw [q] at h; exact absurd h h0
theorem SemA.bind {α : Type} {P : Rs α → Prop} {ta : TA} {es : Exs} {f : List D → Store → Rs α} {k : List V → Hp → Prop} (ht : SemA K Φ G ta es) (r : Rel K Z μ ω H σ v S) (h : P ((evEs Φ G es v S).bind f)) (h0 : ¬ P .stuck) (h1 : ∀ c fs S, ¬ P (.exc c fs S))
    (hk : ∀ y H' μ' d S', Step μ H μ' H' → Rel K Z μ' ω H' σ v S' → VDs K (NN Z μ' ω) μ' H' y d → P (f d S') → k y H') : ta σ H k := by
  refine ht Z μ ω H σ v S r k ?_
  cases q : evEs Φ G es v S with
  | ok d S' => rw [q] at h; exact fun y H' μ' s' r' x => hk y H' μ' d S' s' r' x h
  | exc c fs S' => rw [q] at h; exact absurd h (h1 _ _ _)
  | stuck => rw [q] at h; exact absurd h h0
theorem SemT.bind {α : Type} {P : Rs α → Prop} {tt : TT} {a b : Store → Rs α} {k : Bool → Hp → Prop} (ht : SemT K Φ G tt e) (r : Rel K Z μ ω H σ v S) (h : P ((evE Φ G e v S).bind fun x S1 => ifD x (a S1) (b S1))) (h0 : ¬ P .stuck) (h1 : ∀ c fs S, ¬ P (.exc c fs S))
    (hk : ∀ c H' μ' S', Step μ H μ' H' → Rel K Z μ' ω H' σ v S' → P (if c = true then a S' else b S') → k c H') : tt σ H k := by
  refine ht Z μ ω H σ v S r k ?_
  cases q : evE Φ G e v S with
  | ok d S' =>
    rw [q] at h
    cases d with
    | bl c => exact fun H' μ' s' r' => hk c H' μ' S' s' r' (by cases c <;> exact h)
    | _ => exact absurd h h0
  | exc c fs S' => rw [q] at h; exact absurd h (h1 _ _ _)
  | stuck => rw [q] at h; exact absurd h h0
theorem SemE.toB (h : SemE K Φ G t e) : SemB K Φ G t e := fun Z μ ω H σ v S r Q q => h Z μ ω H σ v S r Q (by
  cases z : evE Φ G e v S with
  | ok d S' => rw [z] at q; exact fun y H' μ' s' r' x => q y H' μ' s' r' (.inl x)
  | exc c fs S' => rw [z] at q; exact q
  | stuck => rw [z] at q; exact q)
theorem SemF.toE (h : SemF K Φ G t e) : SemE K Φ G t e := fun Z μ ω H σ v S r Q q => h Z μ ω H σ v S r Q (by
  cases z : evE Φ G e v S with
  | ok d S' =>
    rw [z] at q
    refine ⟨fun xs ed p vs H' μ' s' r' hp he hs => q _ H' μ' s' (r'.weakZ fun a h => .inl h) ?_, fun _ y H' μ' s' r' x => q y H' μ' s' r' x⟩
    subst ed
    refine .lst (.inl ⟨.inl he, ?_⟩) (hs.mono (.weak fun a h => NN.sub (fun a h => .inl h) a h))
    rintro (z | z | z)
    · exact (r'.zap p (.inr rfl)).1 z
    · obtain ⟨_, _, _, e'⟩ := r.oap p z
      rw [hp] at e'; cases e'
    · exact (r.zap p z).2 hp
  | exc c fs S' => rw [z] at q; exact q
  | stuck => rw [z] at q; exact q)
end
end Q
/-! Q2: the plain operations: each by its reading. -/
namespace Q
open PySem L2 PySem.Spec PyProof.Rows
variable [TC]

theorem lim_le {n : Nat} (h : n ≤ lim) : n ≤ sizeLine := Nat.le_trans h (by rw [sizeLine_eq]; decide)
theorem lim_lt {n : Nat} (h : n < lim) : n < sizeLine := Nat.lt_of_lt_of_le h (by rw [sizeLine_eq]; decide)
section
variable {K : Fg} {Z : Addr → Prop} {μ μ' : List Addr} {ω : List (Option Addr)} {H H' : Hp} {σ : L2.St} {v : Fm} {S S' : Store} {Φ : Cal} {G : Nat → Option D}
/-- a list as an operand -/
theorem VB.lst {y : V} {d : D} {xs : List D} (h : VB K Z μ ω H y d) (r : Rel K Z μ ω H σ v S) (e : lstOf S d = some xs) : ∃ a vs, y = .ref a ∧ SqL K H a vs ∧ VDs K (NN Z μ ω) μ H vs xs := by
  rcases h with h | ⟨a, vs, ys, rfl, rfl, _, e4, q⟩
  · cases h with
    | lst h hs =>
      cases e
      exact ⟨_, _, rfl, h.sq, hs⟩
    | @ref n a hn =>
      unfold lstOf at e
      dsimp only at e
      cases q : S[n]? with
      | none => rw [q] at e; cases e
      | some o =>
        rw [q] at e
        obtain ⟨b, hb, ho⟩ := r.sto n o q
        rw [hn] at hb
        cases hb
        cases o with
        | lst zs =>
          cases e
          obtain ⟨vs, e1, e2⟩ := ho
          exact ⟨a, vs, rfl, .of e1, e2⟩
    | _ => cases e
  · cases e
    exact ⟨a, vs, rfl, .of e4, q⟩
theorem VB.seq {y : V} {d : D} {xs : List D} (h : VB K Z μ ω H y d) (r : Rel K Z μ ω H σ v S) (e : seqOf S d = some xs) : ∃ a vs, y = .ref a ∧ (SqL K H a vs ∨ SqT K H a vs) ∧ VDs K (NN Z μ ω) μ H vs xs := by
  by_cases ht : ∃ ys, d = .tup ys
  · obtain ⟨ys, rfl⟩ := ht
    cases e
    rcases h with h | ⟨_, _, _, _, e, _⟩
    · cases h with
      | tup h hs => exact ⟨_, _, rfl, .inr h, hs⟩
    · cases e
  · have e' : lstOf S d = some xs := by
      cases d <;> first | exact e | exact absurd ⟨_, rfl⟩ ht
    obtain ⟨a, vs, h1, h2, h3⟩ := h.lst r e'
    exact ⟨a, vs, h1, .inl h2, h3⟩
theorem VB.tup {y : V} {xs : List D} (h : VB K Z μ ω H y (.tup xs)) : ∃ a vs, y = .ref a ∧ SqT K H a vs ∧ VDs K (NN Z μ ω) μ H vs xs := by
  rcases h with h | ⟨_, _, _, _, e, _⟩
  · cases h with
    | tup h hs => exact ⟨_, _, rfl, h, hs⟩
  · cases e
theorem VB.int {y : V} {i : Int} (h : VB K Z μ ω H y (.int i)) : y = .int i := by
  rcases h with h | ⟨_, _, _, _, e, _⟩
  · cases h; rfl
  · cases e
theorem VB.str {y : V} {i : Str} (h : VB K Z μ ω H y (.str i)) : y = .str i ∧ PyData.strOk i = true := by
  rcases h with h | ⟨_, _, _, _, e, _⟩
  · cases h with
    | str _ h => exact ⟨rfl, h⟩
  · cases e
theorem VB.bl {y : V} {i : Bool} (h : VB K Z μ ω H y (.bl i)) : y = .bl i := by
  rcases h with h | ⟨_, _, _, _, e, _⟩
  · cases h; rfl
  · cases e

/-! the ends: how an answer is handed on -/
theorem PostF.val {d : D} {Q : VK} {y : V} (h : PostF K Z μ ω H σ v (.ok d S) Q) (r : Rel K Z μ ω H σ v S) (hd : ∀ xs, d ≠ .lst xs) (x : VD K (NN Z μ ω) μ H y d) : Q y H := h.2 hd y H μ .refl r x
theorem PostF.int {i : Int} {Q : VK} (h : PostF K Z μ ω H σ v (.ok (.int i) S) Q) (r : Rel K Z μ ω H σ v S) : Q (.int i) H := h.val r (fun _ e => nomatch e) (.int i)
theorem PostF.bl {i : Bool} {Q : VK} (h : PostF K Z μ ω H σ v (.ok (.bl i) S) Q) (r : Rel K Z μ ω H σ v S) : Q (.bl i) H := h.val r (fun _ e => nomatch e) (.bl i)
theorem PostF.str {i : Str} {Q : VK} (h : PostF K Z μ ω H σ v (.ok (.str i) S) Q) (r : Rel K Z μ ω H σ v S) (ho : PyData.strOk i = true) : Q (.str i) H := h.val r (fun _ e => nomatch e) (.str i ho)
/-- a new tuple -/
theorem PostF.tup {xs : List D} {vs : List V} {Q : VK} (h : PostF K Z μ ω H σ v (.ok (.tup xs) S) Q) (r : Rel K Z μ ω H σ v S) (x : VDs K (NN Z μ ω) μ H vs xs) : ∀ p, H p = none → Q (.ref p) (upd H p (.tup vs)) := fun p hp =>
  h.2 (fun _ e => nomatch e) _ _ μ (.new hp) (r.new hp) (.tup (.of upd_same) (x.mono (r.xt (.new hp))))
/-- a new list -/
theorem PostF.lst {xs : List D} {vs : List V} {Q : VK} (h : PostF K Z μ ω H σ v (.ok (.lst xs) S) Q) (r : Rel K Z μ ω H σ v S) (x : VDs K (NN Z μ ω) μ H vs xs) : ∀ p, H p = none → Q (.ref p) (upd H p (.lst vs)) := fun p hp =>
  h.1 xs rfl p vs _ μ (.new hp) (r.shield hp) hp upd_same (x.mono ((Step.new hp).xtD (fun _ h => r.mu h) hp fun _ h => h))
/-- a list that stands: no new one -/
def BinF (K : Fg) (r : R2) (o : Op) : Prop := ∀ (Z : Addr → Prop) (μ : List Addr) (ω : List (Option Addr)) (H : Hp) (σ : L2.St) (v : Fm) (S : Store) (x y : V) (a b : D) (Q : VK), Rel K Z μ ω H σ v S → VB K Z μ ω H x a → VB K Z μ ω H y b →
  PostF K Z μ ω H σ v (Rs.of (prim S o [a, b]) S) Q → r x y H Q
def UnF (K : Fg) (r : V → Hp → VK → Prop) (o : Op) : Prop := ∀ (Z : Addr → Prop) (μ : List Addr) (ω : List (Option Addr)) (H : Hp) (σ : L2.St) (v : Fm) (S : Store) (x : V) (a : D) (Q : VK), Rel K Z μ ω H σ v S → VB K Z μ ω H x a →
  PostF K Z μ ω H σ v (Rs.of (prim S o [a]) S) Q → r x H Q
/-- an answer that is no new list -/
def BinE (K : Fg) (r : R2) (o : Op) : Prop := ∀ (Z : Addr → Prop) (μ : List Addr) (ω : List (Option Addr)) (H : Hp) (σ : L2.St) (v : Fm) (S : Store) (x y : V) (a b : D) (Q : VK), Rel K Z μ ω H σ v S → VB K Z μ ω H x a → VB K Z μ ω H y b →
  Post K Z μ ω H σ v (Rs.of (prim S o [a, b]) S) Q → r x y H Q
end

/-! ### list + list, whatever lists -/
def rCatL (K : Fg) : R2 := fun x y H Q => ∃ l b xs zs, x = .ref l ∧ y = .ref b ∧ SqL K H l xs ∧ SqL K H b zs ∧ xs.length + zs.length ≤ sizeLine ∧ ∀ p, H p = none → Q (.ref p) (upd H p (.lst (xs ++ zs)))
theorem op_catL {X : Cx} : OpR X (binaryOp .Add) (rCatL X.K) := by
  intro pins s σ H x y v u Q I rx ry h
  obtain ⟨l, b, xs, zs, rfl, rfl, hH, hB, hz, q⟩ := h
  cases rx
  cases ry
  obtain ⟨its, r, p1, z⟩ := I.list hH
  obtain ⟨its2, r2, p2, z2⟩ := I.list hB
  obtain ⟨⟨cls, dd, data, sl⟩, ho, hc, n, hd⟩ := p1.isList
  obtain ⟨⟨cls2, dd2, data2, sl2⟩, ho2, hc2, n2, hd2⟩ := p2.isList
  simp only at hc hd hc2 hd2
  subst hc hd hc2 hd2
  have l1 := r.length
  have l2 := r2.length
  have e : its.toArray ++ its2.toArray = (its ++ its2).toArray := by simp
  refine concat_meets ⟨_, ho, rfl⟩ ⟨_, ho2, rfl⟩ noFill_list_add seq_list_add PySem.F.slot_list_add PySem.F.entry_list_add (PySem.F.args_list_add_2 _ _) (PyProof.Rows.list_addW l b its.toArray its2.toArray n n2 dd dd2 sl sl2 (by simp only [List.size_toArray]; omega)) ⟨ho, ho2, ?_⟩
  rw [e]
  exact ⟨.ref _, _, I.lnew (t' := s.toks) (r.append r2) (by rw [List.length_append]; omega), rfl, q _ I.fresh⟩

section
variable {K : Fg}
/-! ### arithmetic -/
def rAddA (K : Fg) : R2 := fun x y H Q => rI0 (fun i j => .int (i + j)) x y H Q ∨ (∃ i j, x = .str i ∧ y = .str j ∧ i.length + j.length ≤ sizeLine ∧ Q (.str (i ++ j)) H) ∨ rCatA K x y H Q ∨ rCatL K x y H Q ∨ rAddB x y H Q
theorem op_addA {X : Cx} : OpR X (binaryOp .Add) (rAddA X.K) := op_add.or (op_add_str.or (op_catA.or (op_catL.or op_addB)))
def rSubA : R2 := fun x y H Q => rI0 (fun i j => .int (i - j)) x y H Q ∨ rSubB x y H Q
theorem op_subA {X : Cx} : OpR X (binaryOp .Sub) rSubA := op_sub.or op_subB
def rMulA (K : Fg) : R2 := fun x y H Q => rI CMul (fun i j => .int (i * j)) x y H Q ∨ rRepA K x y H Q ∨ rRepL K x y H Q
theorem op_mulA {X : Cx} : OpR X (binaryOp .Mult) (rMulA X.K) := op_mul.or (op_repA.or op_repL)
theorem strOk_append {a b : Str} (ha : PyData.strOk a = true) (hb : PyData.strOk b = true) : PyData.strOk (a ++ b) = true := by
  unfold PyData.strOk at *
  show (a.cps ++ b.cps).all _ = true
  rw [Array.all_append, ha, hb]; rfl
theorem bin_no {r : R2} {x y : V} {Z : Addr → Prop} {μ : List Addr} {ω : List (Option Addr)} {H : Hp} {σ : L2.St} {v : Fm} {S : Store} {Q : VK} (q : PostF K Z μ ω H σ v (Rs.of none S) Q) {P : Prop} : P := q.elim
theorem int_f {r : R2} {o : Op} {f : Int → Int → Option D} (e : ∀ S x y, prim2 S o x y = intOp f x y)
    (h : ∀ i j z (H : Hp) (Q : VK), f i j = some z → (∃ y, ((∃ k, z = .int k ∧ y = .int k) ∨ (∃ k, z = .bl k ∧ y = .bl k)) ∧ (Q y H → r (.int i) (.int j) H Q))) : BinF K r o := by
  intro Z μ ω H σ v S x y a b Q rr hx hy q
  change PostF K Z μ ω H σ v (Rs.of (prim2 S o a b) S) Q at q
  rw [e] at q
  unfold intOp at q
  split at q
  · rename_i i j
    cases hx.int; cases hy.int
    cases q1 : f i j with
    | none => rw [q1] at q; exact q.elim
    | some z =>
      rw [q1] at q
      obtain ⟨w, hw, hk⟩ := h i j z H Q q1
      rcases hw with ⟨k, rfl, rfl⟩ | ⟨k, rfl, rfl⟩
      · exact hk (q.int rr)
      · exact hk (q.bl rr)
  · exact q.elim
theorem add_f : BinF K (rAddA K) .add := by
  intro Z μ ω H σ v S x y a b Q r hx hy q
  change PostF K Z μ ω H σ v (Rs.of (addD S a b) S) Q at q
  unfold addD at q
  split at q
  · cases hx.int; cases hy.int
    exact .inl ⟨_, _, rfl, rfl, q.int r⟩
  · cases hx.int; cases hy.bl
    exact .inr (.inr (.inr (.inr (.inl ⟨_, _, rfl, rfl, q.int r⟩))))
  · cases hx.bl; cases hy.int
    exact .inr (.inr (.inr (.inr (.inr ⟨_, _, rfl, rfl, q.int r⟩))))
  · obtain ⟨rfl, o1⟩ := hx.str
    obtain ⟨rfl, o2⟩ := hy.str
    split at q
    · rename_i hz
      exact .inr (.inl ⟨_, _, rfl, rfl, lim_le hz, q.str r (strOk_append o1 o2)⟩)
    · exact q.elim
  · obtain ⟨l1, vs, rfl, h1, d1⟩ := hx.tup
    obtain ⟨l2, ws, rfl, h2, d2⟩ := hy.tup
    split at q
    · rename_i hz
      refine .inr (.inr (.inl ⟨l1, l2, vs, ws, rfl, rfl, h1, h2, by rw [d1.length, d2.length]; exact lim_le hz, fun e => ?_, fun e1 e2 => ?_, fun _ _ => q.tup r (d1.append d2)⟩))
      · subst e
        cases d1
        exact q.val r (fun _ e => nomatch e) (.tup h2 d2)
      · subst e2
        cases d2
        refine q.val r (fun _ e => nomatch e) (.tup h1 ?_)
        rw [List.append_nil]
        exact d1
    · exact q.elim
  · split at q
    · rename_i ea eb
      split at q
      · rename_i hz
        obtain ⟨l1, vs, rfl, h1, d1⟩ := hx.lst r ea
        obtain ⟨l2, ws, rfl, h2, d2⟩ := hy.lst r eb
        exact .inr (.inr (.inr (.inl ⟨l1, l2, vs, ws, rfl, rfl, h1, h2, by rw [d1.length, d2.length]; exact lim_le hz, q.lst r (d1.append d2)⟩)))
      · exact q.elim
    · exact q.elim
theorem sub_f : BinF K rSubA .sub := by
  intro Z μ ω H σ v S x y a b Q r hx hy q
  change PostF K Z μ ω H σ v (Rs.of (subD a b) S) Q at q
  unfold subD at q
  split at q
  · cases hx.int; cases hy.int
    exact .inl ⟨_, _, rfl, rfl, q.int r⟩
  · cases hx.int; cases hy.bl
    exact .inr (.inl ⟨_, _, rfl, rfl, q.int r⟩)
  · cases hx.bl; cases hy.int
    exact .inr (.inr ⟨_, _, rfl, rfl, q.int r⟩)
  · exact q.elim
theorem small_iff {i : Int} (h : small i = true) : -(2 ^ 64) < i ∧ i < 2 ^ 64 := of_decide_eq_true h
theorem VDs.rep {N : Addr → Prop} {μ : List Addr} {H : Hp} {vs : List V} {xs : List D} (h : VDs K N μ H vs xs) : ∀ n : Nat, VDs K N μ H (List.replicate n vs).flatten (List.replicate n xs).flatten
  | 0 => .nil
  | n + 1 => by
    rw [List.replicate_succ, List.replicate_succ, List.flatten_cons, List.flatten_cons]
    exact h.append (VDs.rep h n)
theorem repN_of {n : Nat} {k : Int} (h : repN n k = true) : n ≤ 1000 ∧ -1000 ≤ k ∧ k ≤ 1000 := of_decide_eq_true h
theorem mul_f : BinF K (rMulA K) .mul := by
  intro Z μ ω H σ v S x y a b Q r hx hy q
  change PostF K Z μ ω H σ v (Rs.of (mulD S a b) S) Q at q
  unfold mulD at q
  split at q
  · cases hx.int; cases hy.int
    split at q
    · rename_i hs
      refine .inl ⟨_, _, rfl, rfl, ?_, q.int r⟩
      rcases Bool.or_eq_true _ _ |>.mp hs with h | h
      · exact .inl (small_iff h)
      · exact .inr (small_iff h)
    · exact q.elim
  · rename_i xs k
    obtain ⟨l1, vs, rfl, h1, d1⟩ := hx.tup
    cases hy.int
    split at q
    · rename_i hz
      obtain ⟨z1, z2, z3⟩ := repN_of hz
      refine .inr (.inl ⟨l1, k, vs, rfl, rfl, h1, z2, z3, by rw [d1.length]; exact z1, fun e => ?_, fun e1 e2 => q.tup r (d1.rep _)⟩)
      rcases e with rfl | rfl
      · cases d1
        have e2 : (List.replicate k.toNat ([] : List D)).flatten = [] := by simp
        rw [e2] at q
        exact q.val r (fun _ e => nomatch e) (.tup h1 .nil)
      · have e2 : (List.replicate (1 : Int).toNat xs).flatten = xs := by simp
        rw [e2] at q
        exact q.val r (fun _ e => nomatch e) (.tup h1 d1)
    · exact q.elim
  · rename_i k _ _
    cases hy.int
    split at q
    · rename_i xs e1
      obtain ⟨l1, vs, rfl, h1, d1⟩ := hx.lst r e1
      split at q
      · rename_i hz
        obtain ⟨z1, z2, z3⟩ := repN_of hz
        exact .inr (.inr ⟨l1, k, vs, rfl, rfl, h1, z2, z3, by rw [d1.length]; exact z1, q.lst r (d1.rep _)⟩)
      · exact q.elim
    · exact q.elim
  · exact q.elim
theorem fdiv_f : BinF K (rI CDivW fun i j => .int (i / j)) .fdiv := int_f (fun _ _ _ => rfl) fun i j z H Q e => by
  split at e
  · rename_i hs
    cases e
    exact ⟨_, .inl ⟨_, rfl, rfl⟩, fun q => ⟨i, j, rfl, rfl, wide_div (b := 64) hs.1 (by omega) (by decide) (by decide), q⟩⟩
  · cases e
theorem mod_f : BinF K (rI (fun _ j => 0 < j) fun i j => .int (i % j)) .mod := int_f (fun _ _ _ => rfl) fun i j z H Q e => by
  split at e
  · rename_i hs
    cases e
    exact ⟨_, .inl ⟨_, rfl, rfl⟩, fun q => ⟨i, j, rfl, rfl, hs, q⟩⟩
  · cases e
theorem pow_f : BinF K (rI CPow fun i j => .int (i ^ j.toNat)) .pow := int_f (fun _ _ _ => rfl) fun i j z H Q e => by
  split at e
  · rename_i hs
    cases e
    obtain ⟨h1, h2, h3⟩ := hs
    have := small_iff h3
    exact ⟨_, .inl ⟨_, rfl, rfl⟩, fun q => ⟨i, j, rfl, rfl, ⟨h1, by omega, by omega⟩, q⟩⟩
  · cases e
theorem lt_f : BinF K (rI0 fun i j => .bl (decide (i < j))) .lt := int_f (fun _ _ _ => rfl) fun i j z H Q e => by
  cases e; exact ⟨_, .inr ⟨_, rfl, rfl⟩, fun q => ⟨i, j, rfl, rfl, q⟩⟩
def rLeS : R2 := fun x y H Q => ∃ i j, x = .str i ∧ y = .str j ∧ Q (.bl (!decide (j.cps.toList < i.cps.toList))) H
def rLeA : R2 := fun x y H Q => rI0 (fun i j => .bl (decide (i ≤ j))) x y H Q ∨ rLeS x y H Q
theorem op_leA {X : Cx} : OpR X (compareOp .LtE) rLeA := op_le.or op_le_str
theorem le_f : BinF K rLeA .le := by
  intro Z μ ω H σ v S x y a b Q r hx hy q
  change PostF K Z μ ω H σ v (Rs.of (leP a b) S) Q at q
  unfold leP at q
  split at q
  · cases hx.int; cases hy.int
    exact .inl ⟨_, _, rfl, rfl, q.bl r⟩
  · obtain ⟨rfl, o1⟩ := hx.str
    obtain ⟨rfl, o2⟩ := hy.str
    exact .inr ⟨_, _, rfl, rfl, q.bl r⟩
  · exact q.elim
theorem gt_f : BinF K (rI0 fun i j => .bl (decide (j < i))) .gt := int_f (fun _ _ _ => rfl) fun i j z H Q e => by
  cases e; exact ⟨_, .inr ⟨_, rfl, rfl⟩, fun q => ⟨i, j, rfl, rfl, q⟩⟩
theorem ge_f : BinF K (rI0 fun i j => .bl (decide (j ≤ i))) .ge := int_f (fun _ _ _ => rfl) fun i j z H Q e => by
  cases e; exact ⟨_, .inr ⟨_, rfl, rfl⟩, fun q => ⟨i, j, rfl, rfl, q⟩⟩
def rIsBB : R2 := rIsB
theorem bl_f {r : R2} {o : Op} {f : Bool → Bool → Bool} (e : ∀ S x y, prim2 S o x y = blOp f x y) (h : ∀ i j (H : Hp) (Q : VK), Q (.bl (f i j)) H → r (.bl i) (.bl j) H Q) : BinF K r o := by
  intro Z μ ω H σ v S x y a b Q rr hx hy q
  change PostF K Z μ ω H σ v (Rs.of (prim2 S o a b) S) Q at q
  rw [e] at q
  unfold blOp at q
  split at q
  · rename_i i j
    cases hx.bl; cases hy.bl
    exact h i j H Q (q.bl rr)
  · exact q.elim
theorem isB_f : BinF K rIsB .isB := bl_f (fun _ _ _ => rfl) fun i j H Q q => ⟨i, j, rfl, rfl, by rw [← Bool.beq_eq_decide_eq]; exact q⟩
theorem notB_f : BinF K rNotB .notB := bl_f (fun _ _ _ => rfl) fun i j H Q q => ⟨i, j, rfl, rfl, by rw [← Bool.beq_eq_decide_eq]; exact q⟩

/-! ### one place -/
theorem neg_f : UnF K (rU fun i => .int (-i)) .neg := by
  intro Z μ ω H σ v S x a Q r hx q
  change PostF K Z μ ω H σ v (Rs.of (onInt _ a) S) Q at q
  unfold onInt at q
  split at q
  · cases hx.int
    exact ⟨_, rfl, q.int r⟩
  · exact q.elim
theorem isNon_of {Z : Addr → Prop} {μ : List Addr} {ω : List (Option Addr)} {H : Hp} {x : V} {a : D} (hx : VB K Z μ ω H x a) : decide (x = .non) = isNon a := by
  rcases hx with hx | ⟨_, _, _, rfl, rfl, _⟩
  · cases hx <;> simp [isNon]
  · simp [isNon]
def rIsNn : V → Hp → VK → Prop := fun x H Q => Q (.bl (decide (x = .non))) H
def rNotNn : V → Hp → VK → Prop := fun x H Q => Q (.bl (!decide (x = .non))) H
theorem isN_f : UnF K rIsNn .isN := by
  intro Z μ ω H σ v S x a Q r hx q
  unfold rIsNn
  rw [isNon_of hx]
  exact q.bl r
theorem notN_f : UnF K rNotNn .notN := by
  intro Z μ ω H σ v S x a Q r hx q
  unfold rNotNn
  rw [isNon_of hx]
  exact q.bl r
def rLen (K : Fg) : V → Hp → VK → Prop := fun x H Q => ∃ n, LenV K x H n ∧ Q (.int n) H
theorem len_f : UnF K (rLen K) .len := by
  intro Z μ ω H σ v S x a Q r hx q
  change PostF K Z μ ω H σ v (Rs.of (lenD S a) S) Q at q
  unfold lenD at q
  split at q
  · obtain ⟨rfl, _⟩ := hx.str
    split at q
    · rename_i hz
      exact ⟨_, ⟨lim_le hz, rfl⟩, q.int r⟩
    · exact q.elim
  · cases e : seqOf S a with
    | none => rw [e] at q; exact q.elim
    | some xs =>
      rw [e] at q
      obtain ⟨l, vs, rfl, h, d⟩ := hx.seq r e
      refine ⟨xs.length, ?_, q.int r⟩
      rcases h with h | h
      · exact .inl ⟨vs, h, d.length.symm⟩
      · exact .inr ⟨vs, h, d.length.symm⟩
theorem lst1_f {o : Op} {r : V → Hp → VK → Prop} {f : List D → Option D} (e : ∀ S x, prim1 S o x = (lstOf S x).bind f)
    (h : ∀ (N : Addr → Prop) (μ : List Addr) (H : Hp) (Q : VK) a vs xs z, SqL K H a vs → VDs K N μ H vs xs → f xs = some z → (∃ y, ((∃ k, z = .int k ∧ y = .int k) ∨ (∃ k, z = .bl k ∧ y = .bl k)) ∧ (Q y H → r (.ref a) H Q))) : UnF K r o := by
  intro Z μ ω H σ v S x a Q rr hx q
  change PostF K Z μ ω H σ v (Rs.of (prim1 S o a) S) Q at q
  rw [e] at q
  cases e1 : lstOf S a with
  | none => rw [e1] at q; exact q.elim
  | some xs =>
    rw [e1] at q
    change PostF K Z μ ω H σ v (Rs.of (f xs) S) Q at q
    obtain ⟨l, vs, rfl, h1, d⟩ := hx.lst rr e1
    cases e2 : f xs with
    | none => rw [e2] at q; exact q.elim
    | some z =>
      rw [e2] at q
      obtain ⟨w, hw, hk⟩ := h _ μ H Q l vs xs z h1 d e2
      rcases hw with ⟨k, rfl, rfl⟩ | ⟨k, rfl, rfl⟩
      · exact hk (q.int rr)
      · exact hk (q.bl rr)
def rL1 (r : List V → Hp → VK → Prop) : V → Hp → VK → Prop := fun x H Q => r [x] H Q
theorem opt_map {α β γ : Type} (o : Option α) (f : α → Option β) (g : β → γ) : (o.bind f).map g = o.bind fun x => (f x).map g := by cases o <;> rfl
theorem all_f : UnF K (rL1 (rAll K)) .all := lst1_f (f := fun xs => (boolL xs).map fun (bs : List Bool) => D.bl (bs.all id)) (fun _ _ => opt_map _ _ _) fun N μ H Q a vs xs z h d e => by
  cases e1 : boolL xs with
  | none => rw [e1] at e; cases e
  | some bs =>
    rw [e1] at e
    cases e
    exact ⟨_, .inr ⟨_, rfl, rfl⟩, fun q => ⟨a, bs, rfl, by rw [← d.bools e1]; exact h, q⟩⟩
theorem any_f : UnF K (rL1 (rAny K)) .any := lst1_f (f := fun xs => (boolL xs).map fun (bs : List Bool) => D.bl (bs.any id)) (fun _ _ => opt_map _ _ _) fun N μ H Q a vs xs z h d e => by
  cases e1 : boolL xs with
  | none => rw [e1] at e; cases e
  | some bs =>
    rw [e1] at e
    cases e
    exact ⟨_, .inr ⟨_, rfl, rfl⟩, fun q => ⟨a, bs, rfl, by rw [← d.bools e1]; exact h, q⟩⟩
theorem sum_f : UnF K (rL1 (rSum K)) .sum := lst1_f (f := fun xs => (intL xs).map fun (bs : List Int) => D.int bs.sum) (fun _ _ => opt_map _ _ _) fun N μ H Q a vs xs z h d e => by
  cases e1 : intL xs with
  | none => rw [e1] at e; cases e
  | some bs =>
    rw [e1] at e
    cases e
    exact ⟨_, .inl ⟨_, rfl, rfl⟩, fun q => ⟨a, bs, rfl, by rw [← d.ints e1]; exact h, q⟩⟩
omit [TC] in
theorem foldl_max_ge (xs : List Int) : ∀ x, x ≤ xs.foldl max x ∧ (∀ y ∈ xs, y ≤ xs.foldl max x) ∧ xs.foldl max x ∈ x :: xs := by
  induction xs with
  | nil => intro x; simp
  | cons z xs ih =>
    intro x
    obtain ⟨h1, h2, h3⟩ := ih (max x z)
    refine ⟨by simp only [List.foldl_cons]; omega, fun y hy => ?_, ?_⟩
    · simp only [List.foldl_cons]
      rcases List.mem_cons.mp hy with rfl | hy
      · omega
      · exact h2 y hy
    · simp only [List.foldl_cons]
      rcases List.mem_cons.mp h3 with e | e
      · rw [e]
        by_cases hm : x ≤ z
        · rw [Int.max_eq_right hm]; simp
        · rw [Int.max_eq_left (by omega)]; simp
      · exact List.mem_cons_of_mem _ (List.mem_cons_of_mem _ e)
omit [TC] in
theorem foldl_min_le (xs : List Int) : ∀ x, xs.foldl min x ≤ x ∧ (∀ y ∈ xs, xs.foldl min x ≤ y) ∧ xs.foldl min x ∈ x :: xs := by
  induction xs with
  | nil => intro x; simp
  | cons z xs ih =>
    intro x
    obtain ⟨h1, h2, h3⟩ := ih (min x z)
    refine ⟨by simp only [List.foldl_cons]; omega, fun y hy => ?_, ?_⟩
    · simp only [List.foldl_cons]
      rcases List.mem_cons.mp hy with rfl | hy
      · omega
      · exact h2 y hy
    · simp only [List.foldl_cons]
      rcases List.mem_cons.mp h3 with e | e
      · rw [e]
        by_cases hm : x ≤ z
        · rw [Int.min_eq_left hm]; simp
        · rw [Int.min_eq_right (by omega)]; simp
      · exact List.mem_cons_of_mem _ (List.mem_cons_of_mem _ e)
theorem opt_map2 {α β γ δ : Type} (o : Option α) (f : α → Option β) (g : β → Option γ) (h : γ → δ) : ((o.bind f).bind g).map h = o.bind fun x => ((f x).bind g).map h := by cases o <;> rfl
def rMaxA (K : Fg) : List V → Hp → VK → Prop := rMax K
theorem maxI_f {N : Addr → Prop} {μ : List Addr} {H : Hp} {Q : VK} {a : Addr} {vs : List V} {xs : List D} {bs : List Int} {z : Int} (h : SqL K H a vs) (d : VDs K N μ H vs xs) (e1 : intL xs = some bs) (e : maxL bs = some z) (q : Q (.int z) H) : rMax K [.ref a] H Q := by
  cases bs with
  | nil => cases e
  | cons b bs =>
    cases e
    refine ⟨a, b :: bs, rfl, by rw [← d.ints e1]; exact h, by simp, fun m hm hy => ?_⟩
    obtain ⟨h1, h2, h3⟩ := foldl_max_ge bs b
    have : m = bs.foldl max b := by
      have := hy _ h3
      rcases List.mem_cons.mp hm with rfl | hm
      · omega
      · have := h2 m hm; omega
    rw [this]; exact q
theorem minI_f {N : Addr → Prop} {μ : List Addr} {H : Hp} {Q : VK} {a : Addr} {vs : List V} {xs : List D} {bs : List Int} {z : Int} (h : SqL K H a vs) (d : VDs K N μ H vs xs) (e1 : intL xs = some bs) (e : minL bs = some z) (q : Q (.int z) H) : rMin K [.ref a] H Q := by
  cases bs with
  | nil => cases e
  | cons b bs =>
    cases e
    refine ⟨a, b :: bs, rfl, by rw [← d.ints e1]; exact h, by simp, fun m hm hy => ?_⟩
    obtain ⟨h1, h2, h3⟩ := foldl_min_le bs b
    have : m = bs.foldl min b := by
      have := hy _ h3
      rcases List.mem_cons.mp hm with rfl | hm
      · omega
      · have := h2 m hm; omega
    rw [this]; exact q
theorem max2_f : BinF K (fun x y H Q => ∃ i j : Int, [x, y] = [V.int i, .int j] ∧ Q (.int (if j > i then j else i)) H) .max2 := int_f (fun _ _ _ => rfl) fun i j z H Q e => by
  cases e; exact ⟨_, .inl ⟨_, rfl, rfl⟩, fun q => ⟨i, j, rfl, q⟩⟩
theorem min2_f : BinF K (fun x y H Q => ∃ i j : Int, [x, y] = [V.int i, .int j] ∧ Q (.int (if j < i then j else i)) H) .min2 := int_f (fun _ _ _ => rfl) fun i j z H Q e => by
  cases e; exact ⟨_, .inl ⟨_, rfl, rfl⟩, fun q => ⟨i, j, rfl, q⟩⟩
/-! ### items and cuts -/
theorem ixN_eq (n : Nat) (i : Int) : ixN n i = ixAt n i := rfl
theorem atI_of {α : Type} {xs : List α} {i : Int} {j : Nat} {x : α} (h : ixAt xs.length i = some j) (hx : xs[j]? = some x) : atI xs i = some x := by
  unfold atI
  rw [ixN_eq, h]
  exact hx
theorem ix_e : BinE K (rIx K) .ix := by
  intro Z μ ω H σ v S x y a b Q r hx hy q
  change Post K Z μ ω H σ v (Rs.of (onInt (ixD S a) b) S) Q at q
  unfold onInt at q
  split at q
  · rename_i i
    cases hy.int
    have items : ∀ {xs : List D} {vs : List V}, VDs K (NN Z μ ω) μ H vs xs → Post K Z μ ω H σ v (Rs.of (ixL xs i) S) Q → ∃ z, atI vs i = some z ∧ Q z H := by
      intro xs vs d q
      unfold ixL at q
      split at q
      · rename_i j hj
        cases e : xs[j]? with
        | none => rw [e] at q; exact q.elim
        | some w =>
          rw [e] at q
          obtain ⟨z, hz, rz⟩ := d.get e
          exact ⟨z, atI_of (by rw [d.length]; exact hj) hz, q z H μ .refl r rz⟩
      · exact q.elim
    unfold ixD at q
    split at q
    · rename_i s
      obtain ⟨rfl, ho⟩ := hx.str
      split at q
      · rename_i hz
        split at q
        · rename_i j hj
          cases e : s.cps.toList[j]? with
          | none => rw [e] at q; exact q.elim
          | some c =>
            rw [e] at q
            refine .inr (.inr ⟨s, i, c, rfl, rfl, lim_le hz, atI_of hj e, q _ H μ .refl r (.str _ ?_)⟩)
            have hc : c ∈ s.cps.toList := List.mem_of_getElem? e
            unfold PyData.strOk at *
            have h2 := Array.all_eq_true'.mp ho c (Array.mem_toList_iff.mp hc)
            simpa using h2
        · exact q.elim
      · exact q.elim
    · obtain ⟨l, vs, rfl, h, d⟩ := hx.tup
      obtain ⟨z, hz, qz⟩ := items d q
      exact .inr (.inl ⟨l, vs, i, z, rfl, rfl, h, hz, qz⟩)
    · split at q
      · rename_i xs e
        obtain ⟨l, vs, rfl, h, d⟩ := hx.lst r e
        obtain ⟨z, hz, qz⟩ := items d q
        exact .inl ⟨l, vs, i, z, rfl, rfl, h, hz, qz⟩
      · exact q.elim
  · exact q.elim
def rSlM (K : Fg) : V → Option Int → Option Int → Hp → VK → Prop := fun x lo hi H Q => rSlA K x lo hi H Q ∨ rSlL K x lo hi H Q
theorem sl_m {X : Cx} : SlR X (rSlM X.K) := sl_tupA.or sl_list
theorem bound_eq (n d : Nat) (o : Option Int) : HT.sIx n d o = bound n d o := by cases o <;> rfl
theorem cut_vs {N : Addr → Prop} {μ : List Addr} {H : Hp} {vs : List V} {xs : List D} (d : VDs K N μ H vs xs) (lo hi : Option Int) : VDs K N μ H (cutV vs lo hi) (cut xs lo hi) := by
  unfold cutV cut
  rw [bound_eq, bound_eq, d.length]
  exact (d.drop _).take _
theorem sl_f {Z : Addr → Prop} {μ : List Addr} {ω : List (Option Addr)} {H : Hp} {σ : L2.St} {v : Fm} {S : Store} {x : V} {a : D} {Q : VK} {lo hi : Option Int} (r : Rel K Z μ ω H σ v S) (hx : VB K Z μ ω H x a)
    (q : PostF K Z μ ω H σ v (Rs.of (slD S a lo hi) S) Q) : rSlM K x lo hi H Q := by
  unfold slD at q
  split at q
  · rename_i xs
    obtain ⟨l, vs, rfl, h, d⟩ := hx.tup
    refine .inl ⟨l, vs, rfl, h, fun ⟨e1, e2⟩ => ?_, fun _ => q.tup r (cut_vs d lo hi)⟩
    refine q.val r (fun _ e => nomatch e) (.tup h ?_)
    have : cut xs lo hi = xs := by
      unfold cut
      rw [← bound_eq, ← bound_eq, ← d.length, e1, e2, d.length]
      simp
    rw [this]
    exact d
  · cases e : lstOf S a with
    | none => rw [e] at q; exact q.elim
    | some xs =>
      rw [e] at q
      obtain ⟨l, vs, rfl, h, d⟩ := hx.lst r e
      exact .inr ⟨l, vs, rfl, h, q.lst r (cut_vs d lo hi)⟩
/-! ### lists, tuples, ints made of others -/
def rToL (K : Fg) : V → Hp → VK → Prop := fun x H Q => ∃ p ys, x = .ref p ∧ (SqL K H p ys ∨ SqT K H p ys) ∧ ∀ l, H l = none → Q (.ref l) (upd H l (.lst ys))
theorem toLst_f : UnF K (rToL K) .toLst := by
  intro Z μ ω H σ v S x a Q rr hx q
  change PostF K Z μ ω H σ v (Rs.of ((seqOf S a).map .lst) S) Q at q
  cases e : seqOf S a with
  | none => rw [e] at q; exact q.elim
  | some xs =>
    rw [e] at q
    obtain ⟨l, vs, rfl, h, d⟩ := hx.seq rr e
    exact ⟨l, vs, rfl, h, q.lst rr d⟩
def rToT (K : Fg) : V → Hp → VK → Prop := fun x H Q => ∃ p ys, x = .ref p ∧ ((SqL K H p ys ∧ ∀ l, H l = none → Q (.ref l) (upd H l (.tup ys))) ∨ (SqT K H p ys ∧ Q (.ref p) H))
theorem toTup_f : UnF K (rToT K) .toTup := by
  intro Z μ ω H σ v S x a Q rr hx q
  change PostF K Z μ ω H σ v (Rs.of ((seqOf S a).map .tup) S) Q at q
  cases e : seqOf S a with
  | none => rw [e] at q; exact q.elim
  | some xs =>
    rw [e] at q
    obtain ⟨l, vs, rfl, h, d⟩ := hx.seq rr e
    rcases h with h | h
    · exact ⟨l, vs, rfl, .inl ⟨h, q.tup rr d⟩⟩
    · exact ⟨l, vs, rfl, .inr ⟨h, q.val rr (fun _ e => nomatch e) (.tup h d)⟩⟩
def rToI : V → Hp → VK → Prop := fun x H Q => (∃ i, [x] = [V.int i] ∧ Q (.int i) H) ∨ ∃ k, [x] = [V.bl k] ∧ Q (.int (if k then 1 else 0)) H
theorem toInt_f : UnF K rToI .toInt := by
  intro Z μ ω H σ v S x a Q rr hx q
  change PostF K Z μ ω H σ v (Rs.of (toIntD a) S) Q at q
  unfold toIntD at q
  split at q
  · cases hx.int
    exact .inl ⟨_, rfl, q.int rr⟩
  · cases hx.bl
    exact .inr ⟨_, rfl, q.int rr⟩
  · exact q.elim
/-! ### kinds -/
def Ty.name : Ty → String
  | .int => "int" | .bool => "bool" | .str => "str" | .tuple => "tuple" | .list => "list"
theorem ty_is {Z : Addr → Prop} {μ : List Addr} {ω : List (Option Addr)} {H : Hp} {σ : L2.St} {v : Fm} {S : Store} {x : V} {a : D} (r : Rel K Z μ ω H σ v S) (hx : VB K Z μ ω H x a) :
    ∃ n : String, TyX K H x (.type n) ∧ (∀ t : Ty, kitB n t.name = some (tyOf S a t)) := by
  have lst : ∀ {p : Addr} {vs : List V}, SqL K H p vs → TyX K H (.ref p) (.type "list") := by
    intro p vs h
    rcases h with (h | ⟨o, h⟩) | ⟨o, its, n, h, hc, _⟩
    · exact .base (.lst h)
    · exact .base (.frz h)
    · exact .kList h hc
  have tl : ∀ (S : Store) (xs : List D) (t : Ty), kitB "list" t.name = some (tyOf S (.lst xs) t) := by
    intro S xs t; cases t <;> (show _ = some _; unfold tyOf; dsimp only; decide +kernel)
  rcases hx with hx | ⟨p, vs, xs, rfl, rfl, _, e, _⟩
  · cases hx with
    | non => exact ⟨"NoneType", .base .non, fun t => by cases t <;> (unfold tyOf; dsimp only; decide +kernel)⟩
    | bl b => exact ⟨"bool", .base (.bl b), fun t => by cases t <;> (unfold tyOf; dsimp only; decide +kernel)⟩
    | int i => exact ⟨"int", .base (.int i), fun t => by cases t <;> (unfold tyOf; dsimp only; decide +kernel)⟩
    | str s => exact ⟨"str", .base (.str s), fun t => by cases t <;> (unfold tyOf; dsimp only; decide +kernel)⟩
    | @tup p vs ds h hs =>
      refine ⟨"tuple", ?_, fun t => by cases t <;> (unfold tyOf; dsimp only; decide +kernel)⟩
      rcases h with (h | ⟨o, h⟩) | ⟨o, its, n, h, hc, _⟩
      · exact .base (.tup h)
      · exact .fTuple h
      · exact .kTuple h hc
    | lst h hs => exact ⟨"list", lst h.sq, tl S _⟩
    | @ref n p hn =>
      have hl : n < S.length := by
        rw [← r.mlen]
        exact (List.getElem?_eq_some_iff.mp hn).1
      obtain ⟨b, hb, ho⟩ := r.sto n _ (List.getElem?_eq_getElem hl)
      rw [hn] at hb; cases hb
      cases hS : S[n] with
      | lst xs =>
        rw [hS] at ho
        obtain ⟨vs, e, _⟩ := ho
        refine ⟨"list", .base (.lst e), fun t => ?_⟩
        have := tl S xs t
        rw [this]
        cases t <;> simp [tyOf, hl]
  · exact ⟨"list", lst (.of e), tl S _⟩
def rIsi (ts : List Ty) (K : Fg) : V → Hp → VK → Prop := fun x H Q => ∃ n : String, TyX K H x (.type n) ∧ ∃ bs : List Bool, ts.map (fun t => kitB n t.name) = bs.map some ∧ Q (.bl (bs.any id)) H
theorem isi_f (ts : List Ty) : UnF K (rIsi ts K) (.isi ts) := by
  intro Z μ ω H σ v S x a Q rr hx q
  obtain ⟨n, h1, h2⟩ := ty_is rr hx
  refine ⟨n, h1, ts.map (tyOf S a), ?_, ?_⟩
  · rw [List.map_map]
    exact List.map_congr_left fun t _ => h2 t
  · rw [List.any_map]
    exact q.bl rr
/-! ### equality -/
mutual
theorem eqD_py : ∀ (x y : D), D.pure x = true → D.pure y = true → PyData.eqv x.py y.py = eqD x y
  | .non, y, _, hy => by cases y <;> first | rfl | (simp [D.pure] at hy)
  | .bl b, y, _, hy => by cases y <;> first | rfl | (simp [D.pure] at hy)
  | .int b, y, _, hy => by cases y <;> first | rfl | (simp [D.pure] at hy)
  | .str b, y, _, hy => by cases y <;> first | rfl | (simp [D.pure] at hy)
  | .ref b, y, hx, hy => by simp [D.pure] at hx
  | .tup xs, y, hx, hy => by
    cases y with
    | tup ys => exact eqDs_py xs ys (by simpa [D.pure] using hx) (by simpa [D.pure] using hy)
    | ref => simp [D.pure] at hy
    | _ => rfl
  | .lst xs, y, hx, hy => by
    cases y with
    | lst ys => exact eqDs_py xs ys (by simpa [D.pure] using hx) (by simpa [D.pure] using hy)
    | ref => simp [D.pure] at hy
    | _ => rfl
theorem eqDs_py : ∀ (x y : List D), D.pures x = true → D.pures y = true → PyData.eqvAll (D.pys x) (D.pys y) = eqDs x y
  | [], [], _, _ => rfl
  | [], _ :: _, _, _ => rfl
  | _ :: _, [], _, _ => rfl
  | x :: xs, y :: ys, hx, hy => by
    have h1 : D.pure x = true ∧ D.pures xs = true := by simpa [D.pures] using hx
    have h2 : D.pure y = true ∧ D.pures ys = true := by simpa [D.pures] using hy
    show (PyData.eqv x.py y.py && PyData.eqvAll (D.pys xs) (D.pys ys)) = (eqD x y && eqDs xs ys)
    rw [eqD_py x y h1.1 h2.1, eqDs_py xs ys h1.2 h2.2]
end
mutual
theorem dep_py : ∀ x : D, x.py.depth = x.dep
  | .non => by simp [D.py, PyData.depth, D.dep]
  | .bl _ => by simp [D.py, PyData.depth, D.dep]
  | .int _ => by simp [D.py, PyData.depth, D.dep]
  | .str _ => by simp [D.py, PyData.depth, D.dep]
  | .ref _ => by simp [D.py, PyData.depth, D.dep]
  | .tup xs => by simp [D.py, PyData.depth, D.dep, deps_py xs]
  | .lst xs => by simp [D.py, PyData.depth, D.dep, deps_py xs]
theorem deps_py : ∀ x : List D, PyData.depthAll (D.pys x) = D.deps x
  | [] => by simp [D.pys, PyData.depthAll, D.deps]
  | x :: xs => by simp [D.pys, PyData.depthAll, D.deps, dep_py x, deps_py xs]
end
section
variable {N : Addr → Prop} {μ : List Addr} {H : Hp}
mutual
theorem VD.dp : ∀ {y : V} {x : D}, VD K N μ H y x → D.pure x = true → Dp K H y x.py ∧ x.py.canLay0 = true
  | _, _, .non, _ => ⟨.non, by simp [D.py, PyData.canLay0]⟩
  | _, _, .bl b, _ => ⟨.bl b, by simp [D.py, PyData.canLay0]⟩
  | _, _, .int b, _ => ⟨.int b, by simp [D.py, PyData.canLay0]⟩
  | _, _, .str b h, _ => ⟨.str b, by simpa [D.py, PyData.canLay0] using h⟩
  | _, _, .tup h hs, hp => by
    obtain ⟨h1, h2⟩ := VDs.dp hs (by simpa [D.pure] using hp)
    exact ⟨.tup h h1, by simpa [D.py, PyData.canLay0] using h2⟩
  | _, _, .lst h hs, hp => by
    obtain ⟨h1, h2⟩ := VDs.dp hs (by simpa [D.pure] using hp)
    exact ⟨.lst h.sq h1, by simpa [D.py, PyData.canLay0] using h2⟩
  | _, _, .ref _, hp => by simp [D.pure] at hp
theorem VDs.dp : ∀ {y : List V} {x : List D}, VDs K N μ H y x → D.pures x = true → DpAll K H y (D.pys x) ∧ PyData.canLayAll0 (D.pys x) = true
  | _, _, .nil, _ => ⟨.nil, by simp [D.pys, PyData.canLayAll0]⟩
  | _, _, .cons h hs, hp => by
    have hp' := hp
    simp only [D.pures, Bool.and_eq_true] at hp'
    obtain ⟨h1, h2⟩ := VD.dp h hp'.1
    obtain ⟨h3, h4⟩ := VDs.dp hs hp'.2
    exact ⟨.cons h1 h3, by simp [D.pys, PyData.canLayAll0, h2, h4]⟩
end
end
/-- a value as data, a reference by what stands there -/
theorem VB.dp {Z : Addr → Prop} {μ : List Addr} {ω : List (Option Addr)} {H : Hp} {σ : L2.St} {v : Fm} {S : Store} {x : V} {a : D} (hx : VB K Z μ ω H x a) (r : Rel K Z μ ω H σ v S) (hp : D.pure (deref S a) = true) : Dp K H x (deref S a).py ∧ (deref S a).py.canLay0 = true := by
  cases e : lstOf S a with
  | some xs =>
    obtain ⟨l, vs, rfl, h, d⟩ := hx.lst r e
    have e2 : deref S a = .lst xs := by
      cases a with
      | lst ys => cases e; rfl
      | ref n =>
        unfold lstOf at e
        unfold deref
        dsimp only at e ⊢
        cases q : S[n]? with
        | none => rw [q] at e; cases e
        | some o =>
          rw [q] at e
          cases o
          cases e
          rfl
      | _ => cases e
    rw [e2] at hp ⊢
    obtain ⟨h1, h2⟩ := d.dp (by simpa [D.pure] using hp)
    exact ⟨.lst h h1, by simpa [D.py, PyData.canLay0] using h2⟩
  | none =>
    have e2 : deref S a = a := by
      cases a with
      | ref n =>
        unfold lstOf at e
        unfold deref
        dsimp only at e ⊢
        cases q : S[n]? with
        | none => rfl
        | some o =>
          rw [q] at e
          cases o
          cases e
      | _ => rfl
    rw [e2] at hp ⊢
    rcases hx with hx | ⟨_, _, _, rfl, rfl, _⟩
    · exact hx.dp hp
    · cases e
theorem eq_core {Z : Addr → Prop} {μ : List Addr} {ω : List (Option Addr)} {H : Hp} {σ : L2.St} {v : Fm} {S : Store} {x y : V} {a b : D} {c : Bool} (r : Rel K Z μ ω H σ v S) (hx : VB K Z μ ω H x a) (hy : VB K Z μ ω H y b) (e : eqP S a b = some c) :
    ∃ d e, Dp K H x d ∧ Dp K H y e ∧ SeqAt.shaped d = true ∧ SeqAt.shaped e = true ∧ PyData.eqv d e = c := by
  unfold eqP at e
  split at e
  · rename_i h
    cases e
    unfold okEq at h
    simp only [Bool.and_eq_true, decide_eq_true_eq] at h
    obtain ⟨⟨h1, h2⟩, h3, h4⟩ := h
    obtain ⟨d1, c1⟩ := hx.dp r h1
    obtain ⟨d2, c2⟩ := hy.dp r h2
    refine ⟨_, _, d1, d2, ?_, ?_, eqD_py _ _ h1 h2⟩
    · unfold SeqAt.shaped
      rw [c1, dep_py, decide_eq_true h3]; rfl
    · unfold SeqAt.shaped
      rw [c2, dep_py, decide_eq_true h4]; rfl
  · cases e
theorem eq_f : BinF K (rEqD K) .eq := by
  intro Z μ ω H σ v S x y a b Q r hx hy q
  change PostF K Z μ ω H σ v (Rs.of ((eqP S a b).map fun c => .bl c) S) Q at q
  cases e : eqP S a b with
  | none => rw [e] at q; exact q.elim
  | some c =>
    rw [e] at q
    obtain ⟨d1, d2, h1, h2, h3, h4, h5⟩ := eq_core r hx hy e
    exact ⟨d1, d2, h1, h2, h3, h4, by rw [h5]; exact q.bl r⟩
theorem ne_f : BinF K (rNeD K) .ne := by
  intro Z μ ω H σ v S x y a b Q r hx hy q
  change PostF K Z μ ω H σ v (Rs.of ((eqP S a b).map fun c => .bl (!c)) S) Q at q
  cases e : eqP S a b with
  | none => rw [e] at q; exact q.elim
  | some c =>
    rw [e] at q
    obtain ⟨d1, d2, h1, h2, h3, h4, h5⟩ := eq_core r hx hy e
    exact ⟨d1, d2, h1, h2, h3, h4, by rw [h5]; exact q.bl r⟩
/-! ### in -/
theorem eqv_any {ds : List D} {d : D} (h1 : D.pures ds = true) (h2 : D.pure d = true) : (D.pys ds).any (fun z => PyData.eqv z d.py) = ds.any fun z => eqD z d := by
  induction ds with
  | nil => rfl
  | cons x xs ih =>
    simp only [D.pures, Bool.and_eq_true] at h1
    show (PyData.eqv x.py d.py || (D.pys xs).any _) = (eqD x d || xs.any _)
    rw [eqD_py x d h1.1 h2, ih h1.2]
def rInA (K : Fg) : R2 := fun x y H Q => rInS x y H Q ∨ rInD K x y H Q ∨ rInT K x y H Q
def rNinA (K : Fg) : R2 := fun x y H Q => rNotInS x y H Q ∨ rNotInD K x y H Q ∨ rNotInT K x y H Q
theorem op_inA {X : Cx} (hu : X.A.units + 128 < cLine) : OpR X (compareOp .In) (rInA X.K) := op_inS.or ((op_inD (by omega)).or (op_inT (by omega)))
theorem op_ninA {X : Cx} (hu : X.A.units + 128 < cLine) : OpR X (compareOp .NotIn) (rNinA X.K) := op_notInS.or ((op_notInD (by omega)).or (op_notInT (by omega)))
theorem oneS_of {s : Str} {c : Nat} (h : oneS s = some c) : s = ⟨#[c]⟩ := by
  unfold oneS at h
  split at h
  · rename_i d e
    cases h
    obtain ⟨a⟩ := s
    have : a = #[c] := by
      rw [← Array.toArray_toList (xs := a), e]
    rw [this]
  · cases h
theorem in_core {Z : Addr → Prop} {μ : List Addr} {ω : List (Option Addr)} {H : Hp} {σ : L2.St} {v : Fm} {S : Store} {x y : V} {a b : D} {c : Bool} (r : Rel K Z μ ω H σ v S) (hx : VB K Z μ ω H x a) (hy : VB K Z μ ω H y b) (e : inD S a b = some c) :
    (∃ (k : Nat) (z : Str), x = .str ⟨#[k]⟩ ∧ y = .str z ∧ c = decide (k ∈ z.cps.toList)) ∨
    (∃ d ds, Dp K H x d ∧ (Dp K H y (.list ds) ∨ Dp K H y (.tuple ds)) ∧ SeqAt.shaped d = true ∧ SeqAt.shaped (.list ds) = true ∧ SeqAt.shaped (.tuple ds) = true ∧ (ds.any fun z => PyData.eqv z d) = c) := by
  unfold inD at e
  split at e
  · split at e
    · rename_i z s
      obtain ⟨rfl, _⟩ := hx.str
      obtain ⟨rfl, _⟩ := hy.str
      cases q : oneS s with
      | none => rw [q] at e; cases e
      | some k =>
        rw [q] at e
        cases e
        rw [oneS_of q]
        exact .inl ⟨k, _, rfl, rfl, rfl⟩
    · cases e
  · split at e
    · rename_i ys ey
      split at e
      · rename_i h
        cases e
        unfold okIn at h
        simp only [Bool.and_eq_true, decide_eq_true_eq] at h
        obtain ⟨⟨h1, h2⟩, h3, h4⟩ := h
        obtain ⟨d1, c1⟩ := hx.dp r h1
        obtain ⟨l, vs, rfl, hs, d⟩ := hy.seq r ey
        obtain ⟨q1, q2⟩ := d.dp h2
        have sh : ∀ t : PyData, (t = .list (D.pys ys) ∨ t = .tuple (D.pys ys)) → SeqAt.shaped t = true := fun t ht => by
          unfold SeqAt.shaped
          have : decide (t.depth ≤ 64) = true := by
            rcases ht with rfl | rfl <;> (simp only [PyData.depth, deps_py]; exact decide_eq_true (by omega))
          rw [this]
          rcases ht with rfl | rfl <;> (simp only [PyData.canLay0]; rw [q2]; rfl)
        refine .inr ⟨_, _, d1, hs.imp (fun z => .lst z q1) (fun z => .tup z q1), ?_, sh _ (.inl rfl), sh _ (.inr rfl), eqv_any h2 h1⟩
        unfold SeqAt.shaped
        rw [c1, dep_py, decide_eq_true (by omega)]; rfl
      · cases e
    · cases e
theorem inn_f : BinF K (rInA K) .inn := by
  intro Z μ ω H σ v S x y a b Q r hx hy q
  change PostF K Z μ ω H σ v (Rs.of ((inD S a b).map fun c => .bl c) S) Q at q
  cases e : inD S a b with
  | none => rw [e] at q; exact q.elim
  | some c =>
    rw [e] at q
    rcases in_core r hx hy e with ⟨k, z, rfl, rfl, rfl⟩ | ⟨d, ds, h1, h2, h3, h4, h5, h6⟩
    · exact .inl ⟨k, z, rfl, rfl, q.bl r⟩
    · rcases h2 with h2 | h2
      · exact .inr (.inl ⟨d, ds, h1, h2, h3, h4, by rw [h6]; exact q.bl r⟩)
      · exact .inr (.inr ⟨d, ds, h1, h2, h3, h5, by rw [h6]; exact q.bl r⟩)
theorem nin_f : BinF K (rNinA K) .nin := by
  intro Z μ ω H σ v S x y a b Q r hx hy q
  change PostF K Z μ ω H σ v (Rs.of ((inD S a b).map fun c => .bl (!c)) S) Q at q
  cases e : inD S a b with
  | none => rw [e] at q; exact q.elim
  | some c =>
    rw [e] at q
    rcases in_core r hx hy e with ⟨k, z, rfl, rfl, rfl⟩ | ⟨d, ds, h1, h2, h3, h4, h5, h6⟩
    · exact .inl ⟨k, z, rfl, rfl, q.bl r⟩
    · rcases h2 with h2 | h2
      · exact .inr (.inl ⟨d, ds, h1, h2, h3, h4, by rw [h6]; exact q.bl r⟩)
      · exact .inr (.inr ⟨d, ds, h1, h2, h3, h5, by rw [h6]; exact q.bl r⟩)
/-! ### sets of texts, sorted, str, count -/
theorem VDs.strs {N : Addr → Prop} {μ : List Addr} {H : Hp} : ∀ {vs : List V} {ds : List D} {ss : List Str}, VDs K N μ H vs ds → strL ds = some ss → vs = ss.map V.str ∧ ∀ s ∈ ss, PyData.strOk s = true
  | _, _, _, .nil, e => by simp [strL] at e; subst e; exact ⟨rfl, fun s h => by simp at h⟩
  | v :: vs, d :: ds, ss, .cons a b, e => by
    cases a <;> simp [strL] at e
    rename_i s h
    obtain ⟨r, e1, e2⟩ := e
    subst e2
    obtain ⟨q1, q2⟩ := VDs.strs b e1
    exact ⟨by rw [q1]; rfl, fun t ht => (List.mem_cons.mp ht).elim (fun z => z ▸ h) (q2 t)⟩
theorem VDs.of_strs {N : Addr → Prop} {μ : List Addr} {H : Hp} : ∀ (ss : List Str), (∀ s ∈ ss, PyData.strOk s = true) → VDs K N μ H (ss.map V.str) (ss.map D.str)
  | [], _ => .nil
  | s :: ss, h => .cons (.str s (h s List.mem_cons_self)) (VDs.of_strs ss fun t ht => h t (List.mem_cons_of_mem _ ht))
def rLset (K : Fg) : V → Hp → VK → Prop := fun x H Q => ∃ (l : Addr) (ss : List Str), x = .ref l ∧ SqL K H l (ss.map V.str) ∧ ss.length ≤ 4000 ∧ Q (.int (nubS ss).length) H
def rSsetS (K : Fg) : V → Hp → VK → Prop := fun x H Q => ∃ (l : Addr) (ss : List Str), x = .ref l ∧ SqL K H l (ss.map V.str) ∧ ss.length ≤ 4000 ∧ ∀ p : Addr, H p = none → Q (.ref p) (upd H p (.lst (((nubS ss).mergeSort leTx).map V.str)))
theorem lset_f : UnF K (rLset K) .lset := by
  intro Z μ ω H σ v S x a Q rr hx q
  change PostF K Z μ ω H σ v (Rs.of (((lstOf S a).bind strL).bind _) S) Q at q
  cases e1 : lstOf S a with
  | none => rw [e1] at q; exact q.elim
  | some xs =>
    rw [e1] at q
    change PostF K Z μ ω H σ v (Rs.of ((strL xs).bind _) S) Q at q
    cases e2 : strL xs with
    | none => rw [e2] at q; exact q.elim
    | some ss =>
      rw [e2] at q
      change PostF K Z μ ω H σ v (Rs.of (if ss.length ≤ 4000 then some _ else none) S) Q at q
      obtain ⟨l, vs, rfl, h1, d⟩ := hx.lst rr e1
      split at q
      · rename_i hl
        obtain ⟨rfl, _⟩ := d.strs e2
        exact ⟨l, ss, rfl, h1, hl, q.int rr⟩
      · exact q.elim
theorem ssetS_f : UnF K (rSsetS K) .ssetS := by
  intro Z μ ω H σ v S x a Q rr hx q
  change PostF K Z μ ω H σ v (Rs.of (((lstOf S a).bind strL).bind _) S) Q at q
  cases e1 : lstOf S a with
  | none => rw [e1] at q; exact q.elim
  | some xs =>
    rw [e1] at q
    change PostF K Z μ ω H σ v (Rs.of ((strL xs).bind _) S) Q at q
    cases e2 : strL xs with
    | none => rw [e2] at q; exact q.elim
    | some ss =>
      rw [e2] at q
      change PostF K Z μ ω H σ v (Rs.of (if ss.length ≤ 4000 then some _ else none) S) Q at q
      obtain ⟨l, vs, rfl, h1, d⟩ := hx.lst rr e1
      split at q
      · rename_i hl
        obtain ⟨rfl, ok⟩ := d.strs e2
        exact ⟨l, ss, rfl, h1, hl, q.lst rr (.of_strs _ fun s hs => ok s (mem_nubS.mp ((List.mergeSort_perm _ _).mem_iff.mp hs)))⟩
      · exact q.elim
def rCnt (K : Fg) : R2 := fun x y H Q => rCntI K x [y] H Q
theorem cnt_f : BinF K (rCnt K) .cnt := by
  intro Z μ ω H σ v S x y a b Q r hx hy q
  change PostF K Z μ ω H σ v (Rs.of (((lstOf S a).bind intL).bind _) S) Q at q
  cases e1 : lstOf S a with
  | none => rw [e1] at q; exact q.elim
  | some xs =>
    rw [e1] at q
    change PostF K Z μ ω H σ v (Rs.of ((intL xs).bind _) S) Q at q
    cases e2 : intL xs with
    | none => rw [e2] at q; exact q.elim
    | some ns =>
      rw [e2] at q
      obtain ⟨l, vs, rfl, h1, d⟩ := hx.lst r e1
      rw [d.ints e2] at h1
      cases b with
      | int k => cases hy.int; exact ⟨l, ns, k, rfl, rfl, h1, q.int r⟩
      | _ => exact q.elim
theorem VDs.zip {N : Addr → Prop} {μ : List Addr} {H : Hp} : ∀ {vs : List V} {ds : List D}, VDs K N μ H vs ds → (vs.zip ds).map (·.1) = vs ∧ (vs.zip ds).map (·.2) = ds ∧ ∀ z ∈ vs.zip ds, VD K N μ H z.1 z.2
  | _, _, .nil => ⟨rfl, rfl, fun z h => by simp at h⟩
  | _, _, .cons a b => by
    obtain ⟨h1, h2, h3⟩ := VDs.zip b
    refine ⟨by rw [List.zip_cons_cons, List.map_cons, h1], by rw [List.zip_cons_cons, List.map_cons, h2], fun z hz => ?_⟩
    rw [List.zip_cons_cons] at hz
    rcases List.mem_cons.mp hz with rfl | hz
    · exact a
    · exact h3 z hz
theorem VDs.of_zip {N : Addr → Prop} {μ : List Addr} {H : Hp} : ∀ (zs : List (V × D)), (∀ z ∈ zs, VD K N μ H z.1 z.2) → VDs K N μ H (zs.map (·.1)) (zs.map (·.2))
  | [], _ => .nil
  | z :: zs, h => .cons (h z List.mem_cons_self) (VDs.of_zip zs fun y hy => h y (List.mem_cons_of_mem _ hy))
theorem pys_map : ∀ xs : List D, D.pys xs = xs.map D.py
  | [] => rfl
  | x :: xs => congrArg (D.py x :: ·) (pys_map xs)
theorem alikeB_of {ds : List PyData} (h : alikeB ds = true) : PySem.W.AllAlike ds := fun d hd e he => by
  unfold alikeB at h
  exact List.all_eq_true.mp (List.all_eq_true.mp h d hd) e he
theorem sortB_of {ds : List PyData} (h : sortB ds = true) : PySem.W.Sortable ds := by
  unfold sortB at h
  rcases Bool.or_eq_true _ _ |>.mp h with h | h
  · refine .inl fun d hd => ?_
    have := List.all_eq_true.mp h d hd
    unfold tupB at this
    split at this
    · exact ⟨_, _, rfl⟩
    · cases this
  · refine .inr fun d hd => ?_
    have := List.all_eq_true.mp h d hd
    unfold flatB at this
    split at this
    · cases this
    · cases this
    · rename_i h1 h2
      exact ⟨fun e => h2 e, fun xs e => h1 xs e⟩
theorem depth_mem {d : PyData} : ∀ {ds : List PyData}, d ∈ ds → d.depth ≤ PyData.depthAll ds
  | x :: xs, h => by
    simp only [PyData.depthAll]
    rcases List.mem_cons.mp h with rfl | h
    · omega
    · have := depth_mem h
      omega
theorem srt_f : UnF K (fun x H Q => rSortedD K [x] H Q) .srt := by
  intro Z μ ω H σ v S x a Q rr hx q
  change PostF K Z μ ω H σ v (Rs.of ((lstOf S a).bind srtD) S) Q at q
  cases e1 : lstOf S a with
  | none => rw [e1] at q; exact q.elim
  | some xs =>
    rw [e1] at q
    change PostF K Z μ ω H σ v (Rs.of (srtD xs) S) Q at q
    unfold srtD at q
    split at q
    · rename_i hc
      simp only [Bool.and_eq_true, decide_eq_true_eq] at hc
      obtain ⟨⟨⟨c1, c2⟩, c3⟩, c4⟩ := hc
      obtain ⟨l, vs, rfl, h1, d⟩ := hx.lst rr e1
      obtain ⟨z1, z2, z3⟩ := d.zip
      generalize vs.zip xs = zs at z1 z2 z3
      have m1 : (zs.map fun z => (z.1, z.2.py)).map (·.1) = vs := by rw [List.map_map]; exact z1
      have m2 : (zs.map fun z => (z.1, z.2.py)).map (·.2) = D.pys xs := by rw [List.map_map, pys_map, ← z2, List.map_map]; rfl
      have dl := d.dp c1
      refine ⟨l, zs.map fun z => (z.1, z.2.py), rfl, by rw [m1]; exact h1, by rw [m1, m2]; exact dl.1, by rw [m2]; exact alikeB_of c2, by rw [m2]; exact sortB_of c3, fun p hp => ?_, ?_⟩
      · have : p.2 ∈ D.pys xs := by rw [← m2]; exact List.mem_map.mpr ⟨p, hp, rfl⟩
        have h2 := depth_mem this
        rw [deps_py] at h2
        omega
      · have e2 : ((zs.map fun z => (z.1, z.2.py)).mergeSort (PySem.W.dataLe false (·.2))) = (zs.mergeSort (PySem.W.dataLe false fun z => z.2.py)).map fun z => (z.1, z.2.py) :=
          (List.map_mergeSort (f := fun z : V × D => (z.1, z.2.py)) (r := PySem.W.dataLe false fun z => z.2.py) (s := PySem.W.dataLe false (·.2)) (fun _ _ _ _ => rfl)).symm
        have e3 : xs.mergeSort (PySem.W.dataLe false D.py) = (zs.mergeSort (PySem.W.dataLe false fun z => z.2.py)).map (·.2) := by
          rw [← z2]
          exact (List.map_mergeSort (f := fun z : V × D => z.2) (r := PySem.W.dataLe false fun z => z.2.py) (s := PySem.W.dataLe false D.py) (fun _ _ _ _ => rfl)).symm
        rw [e2, List.map_map]
        rw [e3] at q
        exact q.lst rr (VDs.of_zip _ fun z hz => z3 z ((List.mergeSort_perm _ _).mem_iff.mp hz))
    · exact q.elim
/-! min and max of tuples -/
theorem best_map {g : PyData → PyData → Bool} : ∀ (zs : List (V × D)) (z : V × D), (zs.map fun z => (z.1, z.2.py)).foldl (fun (a y : V × PyData) => if g y.2 a.2 = true then y else a) (z.1, z.2.py) =
    ((zs.foldl (fun (a y : V × D) => if g y.2.py a.2.py = true then y else a) z).1, (zs.foldl (fun (a y : V × D) => if g y.2.py a.2.py = true then y else a) z).2.py)
  | [], z => rfl
  | y :: zs, z => by
    rw [List.map_cons, List.foldl_cons, List.foldl_cons]
    by_cases h : g y.2.py z.2.py = true
    · simp only [h, if_true]
      exact best_map zs y
    · simp only [h, if_false]
      exact best_map zs z
theorem best_snd {g : PyData → PyData → Bool} : ∀ (zs : List (V × D)) (z : V × D), (zs.foldl (fun (a y : V × D) => if g y.2.py a.2.py = true then y else a) z).2 = (zs.map (·.2)).foldl (fun (a y : D) => if g y.py a.py = true then y else a) z.2
  | [], z => rfl
  | y :: zs, z => by
    rw [List.map_cons, List.foldl_cons, List.foldl_cons]
    by_cases h : g y.2.py z.2.py = true
    · simp only [h, if_true]
      exact best_snd zs y
    · simp only [h, if_false]
      exact best_snd zs z
theorem best_mem {α : Type} {g : α → α → Bool} : ∀ (zs : List α) (z : α), zs.foldl (fun (a y : α) => if g y a = true then y else a) z ∈ z :: zs
  | [], z => List.mem_cons_self
  | y :: zs, z => by
    rw [List.foldl_cons]
    by_cases h : g y z = true
    · simp only [h, if_true]
      exact List.mem_cons_of_mem _ (best_mem zs y)
    · rw [if_neg h]
      rcases List.mem_cons.mp (best_mem (g := g) zs z) with e | e
      · rw [e]; exact List.mem_cons_self
      · exact List.mem_cons_of_mem _ (List.mem_cons_of_mem _ e)
theorem tupB_of {d : D} (h : tupB d.py = true) : (∀ xs, d ≠ .lst xs) ∧ d.py ≠ .none := by
  constructor
  · rintro xs rfl
    simp [D.py, tupB] at h
  · intro e
    rw [e] at h
    cases h
theorem best_f {g : PyData → PyData → Bool} {Z : Addr → Prop} {μ : List Addr} {ω : List (Option Addr)} {H : Hp} {σ : L2.St} {v : Fm} {S : Store} {Q : VK} {l : Addr} {vs : List V} {xs : List D}
    (f : D → List D → D) (hf : ∀ x xs, f x xs = xs.foldl (fun (a y : D) => if g y.py a.py = true then y else a) x) (p : V × PyData → List (V × PyData) → V × PyData) (hp : ∀ x xs, p x xs = xs.foldl (fun (a y : V × PyData) => if g y.2 a.2 = true then y else a) x)
    (h1 : SqL K H l vs) (d : VDs K (NN Z μ ω) μ H vs xs) (rr : Rel K Z μ ω H σ v S) (q : PostF K Z μ ω H σ v (Rs.of (bestD f xs) S) Q) : rBestD p K [.ref l] H Q := by
  cases xs with
  | nil => exact q.elim
  | cons x xs =>
    change PostF K Z μ ω H σ v (Rs.of (if (D.pures (x :: xs) && alikeB (D.pys (x :: xs)) && (D.pys (x :: xs)).all tupB && decide (D.deps (x :: xs) ≤ 60)) = true then some (f x xs) else none) S) Q at q
    by_cases hc : (D.pures (x :: xs) && alikeB (D.pys (x :: xs)) && (D.pys (x :: xs)).all tupB && decide (D.deps (x :: xs) ≤ 60)) = true
    · rw [if_pos hc] at q
      simp only [Bool.and_eq_true, decide_eq_true_eq] at hc
      obtain ⟨⟨⟨c1, c2⟩, c3⟩, c4⟩ := hc
      obtain ⟨z1, z2, z3⟩ := d.zip
      generalize vs.zip (x :: xs) = zs at z1 z2 z3
      cases zs with
      | nil => cases z2
      | cons z zs =>
        have m1 : ((z :: zs).map fun z => (z.1, z.2.py)).map (·.1) = vs := by rw [List.map_map]; exact z1
        have m2 : ((z :: zs).map fun z => (z.1, z.2.py)).map (·.2) = D.pys (x :: xs) := by rw [List.map_map, pys_map, ← z2, List.map_map]; rfl
        have dl := d.dp c1
        have ht : ∀ d ∈ x :: xs, tupB d.py = true := fun d hd => List.all_eq_true.mp c3 d.py (by rw [pys_map]; exact List.mem_map_of_mem hd)
        refine ⟨l, (z.1, z.2.py), zs.map fun z => (z.1, z.2.py), rfl, ?_, ?_, ⟨?_, ?_⟩, ?_, ?_⟩
        · have := h1
          rw [← m1] at this
          exact this
        · have := dl.1
          rw [← m1, ← m2] at this
          exact this
        · have := alikeB_of c2
          rw [← m2] at this
          exact this
        · intro y hy e
          have hy' : y ∈ D.pys (x :: xs) := by rw [← m2]; exact hy
          rw [pys_map] at hy'
          obtain ⟨w, hw, rfl⟩ := List.mem_map.mp hy'
          exact (tupB_of (ht w hw)).2 e
        · intro y hy
          have : y.2 ∈ D.pys (x :: xs) := by rw [← m2]; exact List.mem_map.mpr ⟨y, hy, rfl⟩
          have h2 := depth_mem this
          rw [deps_py] at h2
          omega
        · have e2 := best_map (g := g) zs z
          have e3 := best_snd (g := g) zs z
          have e4 := best_mem (g := fun (y a : V × D) => g y.2.py a.2.py) zs z
          have z2' := z2
          rw [List.map_cons, List.cons.injEq] at z2'
          rw [hp, e2]
          rw [hf, ← z2'.1, ← z2'.2, ← e3] at q
          have hm : (zs.foldl (fun (a y : V × D) => if g y.2.py a.2.py = true then y else a) z).2 ∈ x :: xs := by
            rw [← z2]
            exact List.mem_map_of_mem e4
          exact q.val rr (tupB_of (ht _ hm)).1 (z3 _ e4)
    · rw [if_neg hc] at q
      exact q.elim
theorem max1_f : UnF K (rL1 fun vs H Q => rMax K vs H Q ∨ rBestD maxP K vs H Q) .max1 := by
  intro Z μ ω H σ v S x a Q rr hx q
  change PostF K Z μ ω H σ v (Rs.of ((lstOf S a).bind maxD1) S) Q at q
  cases e1 : lstOf S a with
  | none => rw [e1] at q; exact q.elim
  | some xs =>
    rw [e1] at q
    obtain ⟨l, vs, rfl, h1, d⟩ := hx.lst rr e1
    change PostF K Z μ ω H σ v (Rs.of (maxD1 xs) S) Q at q
    unfold maxD1 at q
    split at q
    · rename_i ns e2
      cases e3 : maxL ns with
      | none => rw [e3] at q; exact q.elim
      | some z =>
        rw [e3] at q
        exact .inl (maxI_f h1 d e2 e3 (q.int rr))
    · exact .inr (best_f (g := fun y a => PySem.W.dataLt a y) maxT (fun _ _ => rfl) maxP (fun _ _ => rfl) h1 d rr q)
theorem min1_f : UnF K (rL1 fun vs H Q => rMin K vs H Q ∨ rBestD minP K vs H Q) .min1 := by
  intro Z μ ω H σ v S x a Q rr hx q
  change PostF K Z μ ω H σ v (Rs.of ((lstOf S a).bind minD1) S) Q at q
  cases e1 : lstOf S a with
  | none => rw [e1] at q; exact q.elim
  | some xs =>
    rw [e1] at q
    obtain ⟨l, vs, rfl, h1, d⟩ := hx.lst rr e1
    change PostF K Z μ ω H σ v (Rs.of (minD1 xs) S) Q at q
    unfold minD1 at q
    split at q
    · rename_i ns e2
      cases e3 : minL ns with
      | none => rw [e3] at q; exact q.elim
      | some z =>
        rw [e3] at q
        exact .inl (minI_f h1 d e2 e3 (q.int rr))
    · exact .inr (best_f (g := PySem.W.dataLt) minT (fun _ _ => rfl) minP (fun _ _ => rfl) h1 d rr q)
theorem rev_f : UnF K (rRevA K) .rev := by
  intro Z μ ω H σ v S x a Q rr hx q
  change PostF K Z μ ω H σ v (Rs.of (revD S a) S) Q at q
  unfold revD at q
  split at q
  · obtain ⟨l, vs, rfl, h1, d⟩ := hx.tup
    exact ⟨l, vs, rfl, .inr ⟨h1, q.tup rr d.reverse⟩⟩
  · cases e1 : lstOf S a with
    | none => rw [e1] at q; exact q.elim
    | some xs =>
      rw [e1] at q
      obtain ⟨l, vs, rfl, h1, d⟩ := hx.lst rr e1
      exact ⟨l, vs, rfl, .inl ⟨h1, q.lst rr d.reverse⟩⟩
theorem hasDict_py (x : D) : x.py.hasDict = false := by
  suffices h : (∀ x : D, x.py.hasDict = false) ∧ ∀ xs : List D, PyData.hasDictAll (D.pys xs) = false from h.1 x
  refine ⟨fun x => ?_, fun xs => ?_⟩
  · exact D.rec (motive_1 := fun x => x.py.hasDict = false) (motive_2 := fun xs => PyData.hasDictAll (D.pys xs) = false) rfl (fun _ => rfl) (fun _ => rfl) (fun _ => rfl) (fun _ ih => ih) (fun _ ih => ih) (fun _ => rfl) rfl (fun x xs h1 h2 => by
      show (x.py.hasDict || PyData.hasDictAll (D.pys xs)) = false
      rw [h1, h2]; rfl) x
  · exact D.rec_1 (motive_1 := fun x => x.py.hasDict = false) (motive_2 := fun xs => PyData.hasDictAll (D.pys xs) = false) rfl (fun _ => rfl) (fun _ => rfl) (fun _ => rfl) (fun _ ih => ih) (fun _ ih => ih) (fun _ => rfl) rfl (fun x xs h1 h2 => by
      show (x.py.hasDict || PyData.hasDictAll (D.pys xs)) = false
      rw [h1, h2]; rfl) xs
theorem strO_f : UnF K (fun x H Q => rStrD K [x] H Q) .strO := by
  intro Z μ ω H σ v S x a Q rr hx q
  change PostF K Z μ ω H σ v (Rs.of (strD (deref S a)) S) Q at q
  unfold strD at q
  split at q
  · rename_i hc
    simp only [Bool.and_eq_true, decide_eq_true_eq] at hc
    obtain ⟨⟨⟨c1, c2⟩, c3⟩, c4⟩ := hc
    obtain ⟨d1, d2⟩ := hx.dp rr c1
    obtain ⟨s1, s2⟩ := shown_ok _ c2 (hasDict_py _) d2
    refine ⟨x, _, rfl, d1, c2, hasDict_py _, by rw [dep_py]; exact c3, by rw [sizeLine_eq]; omega, q.str rr ?_⟩
    generalize (deref S a).py = d at d2 s2
    cases d with
    | str z => exact d2
    | _ => exact s2
  · exact q.elim
end
end Q
/-! Q3: what expressions mean, by their parts. -/
namespace Q
open PySem L2 PySem.Spec PyProof.Rows
variable [TC]

section
variable {K : Fg} {Z : Addr → Prop} {μ μ' : List Addr} {ω : List (Option Addr)} {H H' : Hp} {σ : L2.St} {v : Fm} {S S' : Store} {Φ : Cal} {G : Nat → Option D}
theorem bind_of {α β : Type} (r : Rs α) (f : α → Store → Rs β) (o : α → Store → β) : True := trivial
omit [TC] in
theorem ev_op1 (o : Op) (a : Ex) (v : Fm) (S : Store) : evE Φ G (.op o (.cons a .nil)) v S = (evE Φ G a v S).bind fun x S1 => .of (prim1 S1 o x) S1 := by
  simp only [evE, evEs]
  cases evE Φ G a v S <;> rfl
omit [TC] in
theorem ev_op2 (o : Op) (a b : Ex) (v : Fm) (S : Store) : evE Φ G (.op o (.cons a (.cons b .nil))) v S = (evE Φ G a v S).bind fun x S1 => (evE Φ G b v S1).bind fun y S2 => .of (prim2 S2 o x y) S2 := by
  simp only [evE, evEs]
  cases evE Φ G a v S with
  | ok x S1 =>
    simp only [Rs.bind_ok]
    cases evE Φ G b v S1 <;> rfl
  | _ => rfl
omit [TC] in
theorem ev_op3 (o : Op) (a b c : Ex) (v : Fm) (S : Store) : evE Φ G (.op o (.cons a (.cons b (.cons c .nil)))) v S = (evE Φ G a v S).bind fun x S1 => (evE Φ G b v S1).bind fun y S2 => (evE Φ G c v S2).bind fun z S3 => .of (prim3 S3 o x y z) S3 := by
  simp only [evE, evEs]
  cases evE Φ G a v S with
  | ok x S1 =>
    simp only [Rs.bind_ok]
    cases evE Φ G b v S1 with
    | ok y S2 =>
      simp only [Rs.bind_ok]
      cases evE Φ G c v S2 <;> rfl
    | _ => rfl
  | _ => rfl
theorem no_stuck {Q : VK} : ¬ Post K Z μ ω H σ v .stuck Q := fun h => h
theorem no_stuckF {Q : VK} : ¬ PostF K Z μ ω H σ v .stuck Q := fun h => h
theorem no_exc {Q : VK} : ∀ c fs S, ¬ Post K Z μ ω H σ v (.exc c fs S) Q := fun _ _ _ h => h
theorem no_excF {Q : VK} : ∀ c fs S, ¬ PostF K Z μ ω H σ v (.exc c fs S) Q := fun _ _ _ h => h
end

/-! ### operations -/
section
variable {K : Fg} {Φ : Cal} {G : Nat → Option D} {ta tb tc : TE} {a b c : Ex} {o : Op}
theorem sem_bin {r : R2} (ha : SemB K Φ G ta a) (hb : SemB K Φ G tb b) (h : BinF K r o) : SemF K Φ G (tOp r ta tb) (.op o (.cons a (.cons b .nil))) := by
  intro Z μ ω H σ v S R Q q
  rw [ev_op2] at q
  refine ha.bind (P := fun r => PostF K Z μ ω H σ v r Q) R q id (fun _ _ _ h => h) fun x H1 μ1 d1 S1 s1 R1 x1 q1 => ?_
  have q1 := q1.re s1 R1
  refine hb.bind (P := fun r => PostF K Z μ1 ω H1 σ v r Q) R1 q1 id (fun _ _ _ h => h) fun y H2 μ2 d2 S2 s2 R2 x2 q2 => ?_
  exact h Z μ2 ω H2 σ v S2 x y d1 d2 Q R2 (x1.mono R1 s2) x2 (q2.re s2 R2)
theorem sem_binE {r : R2} (ha : SemB K Φ G ta a) (hb : SemB K Φ G tb b) (h : BinE K r o) : SemE K Φ G (tOp r ta tb) (.op o (.cons a (.cons b .nil))) := by
  intro Z μ ω H σ v S R Q q
  rw [ev_op2] at q
  refine ha.bind (P := fun r => Post K Z μ ω H σ v r Q) R q id (fun _ _ _ h => h) fun x H1 μ1 d1 S1 s1 R1 x1 q1 => ?_
  have q1 := q1.re s1 R1
  refine hb.bind (P := fun r => Post K Z μ1 ω H1 σ v r Q) R1 q1 id (fun _ _ _ h => h) fun y H2 μ2 d2 S2 s2 R2 x2 q2 => ?_
  exact h Z μ2 ω H2 σ v S2 x y d1 d2 Q R2 (x1.mono R1 s2) x2 (q2.re s2 R2)
theorem sem_un {r : V → Hp → VK → Prop} (ha : SemB K Φ G ta a) (h : UnF K r o) : SemF K Φ G (tUn r ta) (.op o (.cons a .nil)) := by
  intro Z μ ω H σ v S R Q q
  rw [ev_op1] at q
  refine ha.bind (P := fun r => PostF K Z μ ω H σ v r Q) R q id (fun _ _ _ h => h) fun x H1 μ1 d1 S1 s1 R1 x1 q1 => ?_
  exact h Z μ1 ω H1 σ v S1 x d1 Q R1 x1 (q1.re s1 R1)
/-- a built-in's call with one, with two values -/
theorem sem_cb1 {r : List V → Hp → VK → Prop} (ha : SemB K Φ G ta a) (h : UnF K (fun x H Q => r [x] H Q) o) : SemF K Φ G (tCB r (tCons ta tNil)) (.op o (.cons a .nil)) := sem_un ha h
theorem sem_cb2 {r : List V → Hp → VK → Prop} (ha : SemB K Φ G ta a) (hb : SemB K Φ G tb b) (h : BinF K (fun x y H Q => r [x, y] H Q) o) : SemF K Φ G (tCB r (tCons ta (tCons tb tNil))) (.op o (.cons a (.cons b .nil))) := sem_bin ha hb h
/-! cuts -/
theorem sem_slLH (ha : SemB K Φ G ta a) (hb : SemE K Φ G tb b) (hc : SemE K Φ G tc c) : SemF K Φ G (tSl (rSlM K) ta (tPart tb) (tPart tc)) (.op .slLH (.cons a (.cons b (.cons c .nil)))) := by
  intro Z μ ω H σ v S R Q q
  rw [ev_op3] at q
  refine ha.bind (P := fun r => PostF K Z μ ω H σ v r Q) R q id (fun _ _ _ h => h) fun x H1 μ1 d1 S1 s1 R1 x1 q1 => ?_
  refine hb.bind (P := fun r => PostF K Z μ1 ω H1 σ v r Q) R1 (q1.re s1 R1) id (fun _ _ _ h => h) fun y H2 μ2 d2 S2 s2 R2 x2 q2 => ?_
  have q2 := q2.re s2 R2
  cases hd : d2 with
  | int i =>
    subst hd
    refine ⟨i, by cases x2; rfl, ?_⟩
    refine hc.bind (P := fun r => PostF K Z μ2 ω H2 σ v r Q) R2 q2 id (fun _ _ _ h => h) fun z H3 μ3 d3 S3 s3 R3 x3 q3 => ?_
    have q3 := q3.re s3 R3
    cases hd3 : d3 with
    | int j =>
      subst hd3
      refine ⟨j, by cases x3; rfl, ?_⟩
      exact sl_f R3 ((x1.mono R1 s2).mono R2 s3) q3
    | _ => subst hd3; exact q3.elim
  | _ =>
    subst hd
    exfalso
    revert q2
    cases evE Φ G c v S2 with
    | ok z S3 => exact fun q => q
    | _ => exact fun q => q
theorem sem_slL (ha : SemB K Φ G ta a) (hb : SemE K Φ G tb b) : SemF K Φ G (tSl (rSlM K) ta (tPart tb) tNoPart) (.op .slL (.cons a (.cons b .nil))) := by
  intro Z μ ω H σ v S R Q q
  rw [ev_op2] at q
  refine ha.bind (P := fun r => PostF K Z μ ω H σ v r Q) R q id (fun _ _ _ h => h) fun x H1 μ1 d1 S1 s1 R1 x1 q1 => ?_
  refine hb.bind (P := fun r => PostF K Z μ1 ω H1 σ v r Q) R1 (q1.re s1 R1) id (fun _ _ _ h => h) fun y H2 μ2 d2 S2 s2 R2 x2 q2 => ?_
  have q2 := q2.re s2 R2
  cases hd : d2 with
  | int i =>
    subst hd
    exact ⟨i, by cases x2; rfl, sl_f R2 (x1.mono R1 s2) q2⟩
  | _ => subst hd; exact q2.elim
theorem sem_slH (ha : SemB K Φ G ta a) (hb : SemE K Φ G tb b) : SemF K Φ G (tSl (rSlM K) ta tNoPart (tPart tb)) (.op .slH (.cons a (.cons b .nil))) := by
  intro Z μ ω H σ v S R Q q
  rw [ev_op2] at q
  refine ha.bind (P := fun r => PostF K Z μ ω H σ v r Q) R q id (fun _ _ _ h => h) fun x H1 μ1 d1 S1 s1 R1 x1 q1 => ?_
  show tb σ H1 _
  refine hb.bind (P := fun r => PostF K Z μ1 ω H1 σ v r Q) R1 (q1.re s1 R1) id (fun _ _ _ h => h) fun y H2 μ2 d2 S2 s2 R2 x2 q2 => ?_
  have q2 := q2.re s2 R2
  cases hd : d2 with
  | int i =>
    subst hd
    exact ⟨i, by cases x2; rfl, sl_f R2 (x1.mono R1 s2) q2⟩
  | _ => subst hd; exact q2.elim

/-! ### the rest of the expressions -/
theorem ok_of {α : Type} {r : Rs α} {P : Rs α → Prop} (h : P r) (h0 : ¬ P .stuck) (h1 : ∀ c fs S, ¬ P (.exc c fs S)) : ∃ a S, r = .ok a S := by
  cases r with
  | ok a S => exact ⟨a, S, rfl⟩
  | exc c fs S => exact absurd h (h1 c fs S)
  | stuck => exact absurd h h0
theorem sem_cst {d : D} {y : V} (h : ∀ N μ H, VD K N μ H y d) : SemE K Φ G (tC y) (.cst d) := fun Z μ ω H σ v S R Q q => by
  simp only [evE] at q
  exact q y H μ .refl R (h _ _ _)
theorem sem_var {i : Nat} : SemE K Φ G (tVar i) (.var i) := fun Z μ ω H σ v S R Q q => by
  simp only [evE] at q
  split at q
  · rename_i x hx
    obtain ⟨y, hy, hd⟩ := R.dat i x hx
    exact ⟨y, hy, q y H μ .refl R hd⟩
  · exact q.elim
theorem sem_ovar {i : Nat} : SemB K Φ G (tVar i) (.ovar i) := fun Z μ ω H σ v S R Q q => by
  simp only [evE] at q
  split at q
  · rename_i xs hx
    obtain ⟨p, vs, e1, e2, e3, d⟩ := R.own i xs hx
    exact ⟨.ref p, e2, q _ H μ .refl R (.inr ⟨p, vs, xs, rfl, rfl, List.mem_of_getElem? e1, e3, d⟩)⟩
  · exact q.elim
theorem sem_glob {k : Nat} {d : D} {y : V} (e : G k = some d) (h : ∀ N μ H, VD K N μ H y d) : SemE K Φ G (tC y) (.glob k) := fun Z μ ω H σ v S R Q q => by
  simp only [evE, e, Rs.of_some] at q
  exact q y H μ .refl R (h _ _ _)
theorem sem_nil : SemA K Φ G tNil .nil := fun Z μ ω H σ v S R Q q => by
  simp only [evEs] at q
  exact q [] H μ .refl R .nil
theorem sem_cons {t : TA} {es : Exs} (ha : SemE K Φ G ta a) (hs : SemA K Φ G t es) : SemA K Φ G (tCons ta t) (.cons a es) := fun Z μ ω H σ v S R Q q => by
  simp only [evEs] at q
  refine ha.bind (P := fun r => PostA K Z μ ω H σ v r Q) R q id (fun _ _ _ h => h) fun x H1 μ1 d1 S1 s1 R1 x1 q1 => ?_
  refine hs.bind (P := fun r => PostA K Z μ1 ω H1 σ v r Q) R1 (q1.re s1 R1) id (fun _ _ _ h => h) fun y H2 μ2 d2 S2 s2 R2 x2 q2 => ?_
  exact q2 _ H2 μ2 s2 R2 (.cons (x1.mono (R1.xt s2)) x2)
theorem PostF.tupP {xs : List D} {vs : List V} {Z : Addr → Prop} {μ : List Addr} {ω : List (Option Addr)} {H : Hp} {σ : L2.St} {v : Fm} {S : Store} {Q : VK} (h : Post K Z μ ω H σ v (.ok (.tup xs) S) Q) (r : Rel K Z μ ω H σ v S) (x : VDs K (NN Z μ ω) μ H vs xs) : ∀ p, H p = none → Q (.ref p) (upd H p (.tup vs)) := fun p hp =>
  h _ _ μ (.new hp) (r.new hp) (.tup (.of upd_same) (x.mono (r.xt (.new hp))))
def Exs.len : Exs → Nat
  | .nil => 0
  | .cons _ es => es.len + 1
theorem evEs_len : ∀ (es : Exs) (v : Fm) (S : Store) (xs : List D) (S' : Store), evEs Φ G es v S = .ok xs S' → xs.length = es.len
  | .nil, _, _, _, _, h => by simp only [evEs] at h; cases h; rfl
  | .cons e es, v, S, xs, S', h => by
    simp only [evEs] at h
    cases h1 : evE Φ G e v S with
    | ok x S1 =>
      rw [h1] at h
      simp only [Rs.bind_ok] at h
      cases h2 : evEs Φ G es v S1 with
      | ok ys S2 =>
        rw [h2] at h
        cases h
        show ys.length + 1 = es.len + 1
        rw [evEs_len es v S1 ys _ h2]
      | exc => rw [h2] at h; cases h
      | stuck => rw [h2] at h; cases h
    | exc => rw [h1] at h; cases h
    | stuck => rw [h1] at h; cases h
theorem sem_tup {t : TA} {es : Exs} (hs : SemA K Φ G t es) (hl : es.len ≤ lim) : SemE K Φ G (tTup t) (.tup es) := fun Z μ ω H σ v S R Q q => by
  simp only [evE] at q
  cases e : evEs Φ G es v S with
  | ok xs S1 =>
    refine hs Z μ ω H σ v S R _ ?_
    rw [e] at q ⊢
    intro ys H1 μ1 s1 R1 x1
    have hx := evEs_len es v S xs S1 e
    exact ⟨by rw [x1.length, hx]; exact lim_le hl, PostF.tupP (Post.re q s1 R1) R1 x1⟩
  | exc => rw [e] at q; exact q.elim
  | stuck => rw [e] at q; exact q.elim
theorem sem_lst {t : TA} {es : Exs} (hs : SemA K Φ G t es) (hl : es.len ≤ lim) : SemF K Φ G (tLst t) (.lst es) := fun Z μ ω H σ v S R Q q => by
  simp only [evE] at q
  cases e : evEs Φ G es v S with
  | ok xs S1 =>
    refine hs Z μ ω H σ v S R _ ?_
    rw [e] at q ⊢
    intro ys H1 μ1 s1 R1 x1
    have hx := evEs_len es v S xs S1 e
    exact ⟨by rw [x1.length, hx]; exact lim_le hl, PostF.lst (PostF.re q s1 R1) R1 x1⟩
  | exc => rw [e] at q; exact q.elim
  | stuck => rw [e] at q; exact q.elim

/-! ### tests; and, or, not, one of two -/
theorem sem_test (h : SemE K Φ G ta a) : SemT K Φ G (tB ta) a := fun Z μ ω H σ v S R Q q => by
  refine h Z μ ω H σ v S R _ ?_
  cases e : evE Φ G a v S with
  | ok d S1 =>
    rw [e] at q
    cases d with
    | bl b => exact fun y H' μ' s r x => ⟨b, by cases x; rfl, q H' μ' s r⟩
    | _ => exact q.elim
  | exc => rw [e] at q; exact q.elim
  | stuck => rw [e] at q; exact q.elim
theorem PostT.bl {Z : Addr → Prop} {μ : List Addr} {ω : List (Option Addr)} {H : Hp} {σ : L2.St} {v : Fm} {S : Store} {Q : Bool → Hp → Prop} {b : Bool} (q : PostT K Z μ ω H σ v (.ok (.bl b) S) Q) (R : Rel K Z μ ω H σ v S) : Q b H := q H μ .refl R
variable {sa sb : TT}
theorem sem_andT (ha : SemT K Φ G sa a) (hb : SemT K Φ G sb b) : SemT K Φ G (tAnd sa sb) (.and a b) := fun Z μ ω H σ v S R Q q => by
  simp only [evE] at q
  refine ha.bind (P := fun r => PostT K Z μ ω H σ v r Q) (a := fun S1 => evE Φ G b v S1) (b := fun S1 => .ok (.bl false) S1) R q id (fun _ _ _ h => h) fun k H1 μ1 S1 s1 R1 q1 => ?_
  cases k with
  | true => exact hb Z μ1 ω H1 σ v S1 R1 Q (PostT.re q1 s1 R1)
  | false => exact PostT.bl (PostT.re q1 s1 R1) R1
theorem sem_orT (ha : SemT K Φ G sa a) (hb : SemT K Φ G sb b) : SemT K Φ G (tOr sa sb) (.or a b) := fun Z μ ω H σ v S R Q q => by
  simp only [evE] at q
  refine ha.bind (P := fun r => PostT K Z μ ω H σ v r Q) (a := fun S1 => .ok (.bl true) S1) (b := fun S1 => evE Φ G b v S1) R q id (fun _ _ _ h => h) fun k H1 μ1 S1 s1 R1 q1 => ?_
  cases k with
  | false => exact hb Z μ1 ω H1 σ v S1 R1 Q (PostT.re q1 s1 R1)
  | true => exact PostT.bl (PostT.re q1 s1 R1) R1
theorem sem_notT (ha : SemT K Φ G sa a) : SemT K Φ G (tNot sa) (.not a) := fun Z μ ω H σ v S R Q q => by
  simp only [evE] at q
  refine ha.bind (P := fun r => PostT K Z μ ω H σ v r Q) (a := fun S1 => .ok (.bl false) S1) (b := fun S1 => .ok (.bl true) S1) R q id (fun _ _ _ h => h) fun k H1 μ1 S1 s1 R1 q1 => ?_
  cases k with
  | false => exact PostT.bl (PostT.re q1 s1 R1) R1
  | true => exact PostT.bl (PostT.re q1 s1 R1) R1
/-- a value's reading as a truth, then what hangs on it -/
theorem SemE.bindB {α : Type} {P : Rs α → Prop} {Z : Addr → Prop} {μ : List Addr} {ω : List (Option Addr)} {H : Hp} {σ : L2.St} {v : Fm} {S : Store} {x y : Store → Rs α} {k : VK} (ht : SemE K Φ G ta a) (r : Rel K Z μ ω H σ v S) (h : P ((evE Φ G a v S).bind fun z S1 => ifD z (x S1) (y S1))) (h0 : ¬ P .stuck) (h1 : ∀ c fs S, ¬ P (.exc c fs S))
    (hk : ∀ c H' μ' S', Step μ H μ' H' → Rel K Z μ' ω H' σ v S' → P (if c = true then x S' else y S') → k (.bl c) H') : ta σ H k := by
  refine ht.bind (P := P) r h h0 h1 fun z H1 μ1 d1 S1 s1 R1 x1 q1 => ?_
  cases d1 with
  | bl c => cases x1; exact hk c H1 μ1 S1 s1 R1 (by cases c <;> exact q1)
  | _ => exact absurd q1 h0
theorem sem_and (ha : SemE K Φ G ta a) (hb : SemE K Φ G tb b) : SemE K Φ G (tAndV ta tb) (.and a b) := fun Z μ ω H σ v S R Q q => by
  simp only [evE] at q
  refine ha.bindB (P := fun r => Post K Z μ ω H σ v r Q) (x := fun S1 => evE Φ G b v S1) (y := fun S1 => .ok (.bl false) S1) R q id (fun _ _ _ h => h) fun k H1 μ1 S1 s1 R1 q1 => ⟨k, rfl, ?_⟩
  cases k with
  | true => exact hb Z μ1 ω H1 σ v S1 R1 Q (Post.re q1 s1 R1)
  | false => exact (Post.re (r := .ok (.bl false) S1) q1 s1 R1) _ H1 μ1 .refl R1 (.bl false)
theorem sem_or (ha : SemE K Φ G ta a) (hb : SemE K Φ G tb b) : SemE K Φ G (tOrV ta tb) (.or a b) := fun Z μ ω H σ v S R Q q => by
  simp only [evE] at q
  refine ha.bindB (P := fun r => Post K Z μ ω H σ v r Q) (x := fun S1 => .ok (.bl true) S1) (y := fun S1 => evE Φ G b v S1) R q id (fun _ _ _ h => h) fun k H1 μ1 S1 s1 R1 q1 => ⟨k, rfl, ?_⟩
  cases k with
  | false => exact hb Z μ1 ω H1 σ v S1 R1 Q (Post.re q1 s1 R1)
  | true => exact (Post.re (r := .ok (.bl true) S1) q1 s1 R1) _ H1 μ1 .refl R1 (.bl true)
theorem sem_not (ha : SemE K Φ G ta a) : SemE K Φ G (tNotV ta) (.not a) := fun Z μ ω H σ v S R Q q => by
  simp only [evE] at q
  refine ha.bindB (P := fun r => Post K Z μ ω H σ v r Q) (x := fun S1 => .ok (.bl false) S1) (y := fun S1 => .ok (.bl true) S1) R q id (fun _ _ _ h => h) fun k H1 μ1 S1 s1 R1 q1 => ⟨k, rfl, ?_⟩
  cases k with
  | false => exact (Post.re (r := .ok (.bl true) S1) q1 s1 R1) _ H1 μ1 .refl R1 (.bl true)
  | true => exact (Post.re (r := .ok (.bl false) S1) q1 s1 R1) _ H1 μ1 .refl R1 (.bl false)
theorem sem_ife {t : Ex} (ht : SemT K Φ G sa t) (ha : SemE K Φ G ta a) (hb : SemE K Φ G tb b) : SemE K Φ G (tIf sa ta tb) (.ife t a b) := fun Z μ ω H σ v S R Q q => by
  simp only [evE] at q
  refine ht.bind (P := fun r => Post K Z μ ω H σ v r Q) (a := fun S1 => evE Φ G a v S1) (b := fun S1 => evE Φ G b v S1) R q id (fun _ _ _ h => h) fun k H1 μ1 S1 s1 R1 q1 => ?_
  cases k with
  | true => exact ha Z μ1 ω H1 σ v S1 R1 Q (Post.re q1 s1 R1)
  | false => exact hb Z μ1 ω H1 σ v S1 R1 Q (Post.re q1 s1 R1)
/-- a < b < c -/
theorem sem_chain {o o' : Op} {r r' : R2} (ha : SemE K Φ G ta a) (hb : SemE K Φ G tb b) (hc : SemE K Φ G tc c) (h : BinF K r o) (h' : BinF K r' o') : SemF K Φ G (tChain r r' ta tb tc) (.chain o o' a b c) := fun Z μ ω H σ v S R Q q => by
  simp only [evE] at q
  refine ha.bind (P := fun r => PostF K Z μ ω H σ v r Q) R q id (fun _ _ _ h => h) fun x H1 μ1 d1 S1 s1 R1 x1 q1 => ?_
  refine hb.bind (P := fun r => PostF K Z μ1 ω H1 σ v r Q) R1 (PostF.re q1 s1 R1) id (fun _ _ _ h => h) fun y H2 μ2 d2 S2 s2 R2 x2 q2 => ?_
  have q2 := PostF.re q2 s2 R2
  refine h Z μ2 ω H2 σ v S2 x y d1 d2 _ R2 (.inl (x1.mono (R1.xt s2))) (.inl x2) ?_
  change PostF K Z μ2 ω H2 σ v ((Rs.of (prim S2 o [d1, d2]) S2).bind _) Q at q2
  cases e : prim S2 o [d1, d2] with
  | none => rw [e] at q2; exact q2.elim
  | some z =>
    rw [e] at q2
    simp only [Rs.of_some, Rs.bind_ok] at q2 ⊢
    cases z with
    | bl k =>
      refine ⟨(fun _ e => nomatch e), fun _ w H3 μ3 s3 R3 x3 => ⟨k, by cases x3; rfl, ?_⟩⟩
      cases k with
      | false => exact (PostF.re q2 s3 R3).bl R3
      | true =>
        simp only [ifD_true] at q2
        refine hc.bind (P := fun r => PostF K Z μ3 ω H3 σ v r Q) R3 (PostF.re q2 s3 R3) id (fun _ _ _ h => h) fun u H4 μ4 d4 S4 s4 R4 x4 q4 => ?_
        exact h' Z μ4 ω H4 σ v S4 y u d2 d4 Q R4 (.inl ((x2.mono (R2.xt s3)).mono (R3.xt s4))) (.inl x4) (PostF.re q4 s4 R4)
    | _ => exact q2.elim
/-- sorted by the lambda's key -/
theorem sem_srtL {i : Nat} (ha : SemB K Φ G ta a) : SemF K Φ G (tSortLam K TC.T i ta) (.srtL i a) := fun Z μ ω H σ v S R Q q => by
  simp only [evE] at q
  refine ha.bind (P := fun r => PostF K Z μ ω H σ v r Q) R q id (fun _ _ _ h => h) fun x H1 μ1 d1 S1 s1 R1 x1 q1 => ?_
  refine ⟨R1.tab, ?_⟩
  split at q1
  · rename_i y hy
    unfold srtLam at q1
    cases e1 : lstOf S1 d1 with
    | none => rw [e1] at q1; exact q1.elim
    | some xs =>
      cases e2 : intL xs with
      | none => simp only [e1, e2, Option.bind_some, Option.bind_none, Rs.of_none] at q1; exact q1.elim
      | some ns =>
        cases e3 : lstOf S1 y with
        | none => simp only [e1, e2, e3, Option.bind_some, Option.bind_none, Rs.of_none] at q1; exact q1.elim
        | some ys =>
          cases e4 : intL ys with
          | none => simp only [e1, e2, e3, e4, Option.bind_some, Option.bind_none, Rs.of_none] at q1; exact q1.elim
          | some cs =>
            simp only [e1, e2, e3, e4, Option.bind_some] at q1
            split at q1
            · rename_i hin
              obtain ⟨l, vs, rfl, h1, d⟩ := x1.lst R1 e1
              rw [d.ints e2] at h1
              obtain ⟨w, hw, dw⟩ := R1.dat i y hy
              obtain ⟨c, ws, rfl, h2, d2⟩ := (VB.of dw).lst R1 e3
              rw [d2.ints e4] at h2
              refine ⟨l, c, ns, cs, rfl, h1, hw, h2, fun n hn => of_decide_eq_true (List.all_eq_true.mp hin n hn), fun H2 p hE hlv hT hp => ?_⟩
              have kN : ∀ a u, NT u → H1 a = some u → H2 a = some u := fun a u n e => hE a u e n
              have R2 := R1.growN kN hlv fun _ => hT
              have s2 : Step μ1 H1 μ1 H2 := .ofN kN hlv fun _ => hT
              have q2 := PostF.re q1 s1 R1
              exact (PostF.re q2 s2 R2).lst R2 (.of_ints _) p hp
            · exact q1.elim
  · exact q1.elim
/-- what is a list is one by its kind -/
theorem VB.listy {Z : Addr → Prop} {μ : List Addr} {ω : List (Option Addr)} {H : Hp} {σ : L2.St} {v : Fm} {S : Store} {x : V} {d : D} (h : VB K Z μ ω H x d) (r : Rel K Z μ ω H σ v S) (e : (∃ xs, d = .lst xs) ∨ ∃ n, d = .ref n) : tyV K "list" x H := by
  have key : ∃ xs, lstOf S d = some xs := by
    rcases e with ⟨xs, rfl⟩ | ⟨n, rfl⟩
    · exact ⟨xs, rfl⟩
    · rcases h with h | ⟨_, _, _, _, e, _⟩
      · cases h with
        | ref hn =>
          have hl : n < S.length := by
            rw [← r.mlen]
            exact (List.getElem?_eq_some_iff.mp hn).1
          cases q : S[n] with
          | lst xs =>
            refine ⟨xs, ?_⟩
            unfold lstOf
            dsimp only
            rw [List.getElem?_eq_getElem hl, q]
      · cases e
  obtain ⟨xs, e⟩ := key
  obtain ⟨l, vs, rfl, h1, _⟩ := h.lst r e
  exact .inl ⟨rfl, vs, h1⟩
/-- xs.count(x) -/
theorem sem_cnt (ha : SemB K Φ G ta a) (hb : SemE K Φ G tb b) : SemF K Φ G (tBM K "list" (rCntI K) ta (tCons tb tNil)) (.op .cnt (.cons a (.cons b .nil))) := by
  intro Z μ ω H σ v S R Q q
  rw [ev_op2] at q
  refine ha.bind (P := fun r => PostF K Z μ ω H σ v r Q) R q id (fun _ _ _ h => h) fun x H1 μ1 d1 S1 s1 R1 x1 q1 => ?_
  have q1 := q1.re s1 R1
  have hk : (∃ xs, d1 = .lst xs) ∨ ∃ n, d1 = .ref n := by
    cases e1 : evE Φ G b v S1 with
    | exc => rw [e1] at q1; exact q1.elim
    | stuck => rw [e1] at q1; exact q1.elim
    | ok d2 S2 =>
      rw [e1] at q1
      change PostF K Z μ1 ω H1 σ v (Rs.of (cntD S2 d1 d2) S2) Q at q1
      cases d1 with
      | lst xs => exact .inl ⟨xs, rfl⟩
      | ref n => exact .inr ⟨n, rfl⟩
      | _ => exact q1.elim
  refine ⟨x1.listy R1 hk, ?_⟩
  show tb σ H1 _
  refine hb.bind (P := fun r => PostF K Z μ1 ω H1 σ v r Q) R1 q1 id (fun _ _ _ h => h) fun y H2 μ2 d2 S2 s2 R2 x2 q2 => ?_
  exact cnt_f Z μ2 ω H2 σ v S2 x y d1 d2 Q R2 (x1.mono R1 s2) (.inl x2) (q2.re s2 R2)

/-! ### what changes nothing -/
section
variable {N N' : Addr → Prop} {μ μ' : List Addr} {H : Hp}
mutual
theorem VD.pureX (hN : ∀ a, N' a → N a) : ∀ {v : V} {d : D}, VD K N μ H v d → D.pure d = true → VD K N' μ' H v d
  | _, _, .non, _ => .non
  | _, _, .bl b, _ => .bl b
  | _, _, .int i, _ => .int i
  | _, _, .str s h, _ => .str s h
  | _, _, .tup h hs, u => .tup h (VDs.pureX hN hs (by simpa only [D.pure] using u))
  | _, _, .lst h hs, u => .lst (h.imp (fun z => ⟨z.1, fun w => z.2 (hN _ w)⟩) id) (VDs.pureX hN hs (by simpa only [D.pure] using u))
  | _, _, .ref h, u => by simp only [D.pure] at u; cases u
theorem VDs.pureX (hN : ∀ a, N' a → N a) : ∀ {v : List V} {d : List D}, VDs K N μ H v d → D.pures d = true → VDs K N' μ' H v d
  | _, _, .nil, _ => .nil
  | _, _, .cons h hs, u => by
    simp only [D.pures, Bool.and_eq_true] at u
    exact .cons (VD.pureX hN h u.1) (VDs.pureX hN hs u.2)
end
mutual
theorem VD.scalX : ∀ {v : V} {d : D}, VD K N μ H v d → D.scal d = true → VD K N' μ' H v d
  | _, _, .non, _ => .non
  | _, _, .bl b, _ => .bl b
  | _, _, .int i, _ => .int i
  | _, _, .str s h, _ => .str s h
  | _, _, .tup h hs, u => .tup h (VDs.scalX hs (by simpa only [D.scal] using u))
  | _, _, .lst h hs, u => by simp only [D.scal] at u; cases u
  | _, _, .ref h, u => by simp only [D.scal] at u; cases u
theorem VDs.scalX : ∀ {v : List V} {d : List D}, VDs K N μ H v d → D.scals d = true → VDs K N' μ' H v d
  | _, _, .nil, _ => .nil
  | _, _, .cons h hs, u => by
    simp only [D.scals, Bool.and_eq_true] at u
    exact .cons (VD.scalX h u.1) (VDs.scalX hs u.2)
end
end
section
variable {Z : Addr → Prop} {μ μ' : List Addr} {ω : List (Option Addr)} {H H' : Hp} {σ : L2.St} {v : Fm} {S : Store}
theorem snapC_d {S : Store} {c : Cell} {d : D} (h : snapC S c = .d d) : (∃ n xs, c = .d (.ref n) ∧ S[n]? = some (.lst xs) ∧ d = .lst xs ∧ D.pures xs = true) ∨ (c = .d d ∧ D.pure d = true) := by
  cases c with
  | non => exact nomatch h
  | own xs =>
    simp only [snapC] at h
    split at h <;> cases h
  | d x =>
    simp only [snapC] at h
    cases x with
    | ref n =>
      simp only [snapD] at h
      split at h
      · rename_i xs hx
        by_cases hp : D.pures xs = true
        · rw [if_pos hp] at h
          cases h
          exact .inl ⟨n, xs, rfl, hx, rfl, hp⟩
        · rw [if_neg hp] at h
          exact nomatch h
      · exact nomatch h
    | _ =>
      simp only [snapD] at h
      split at h
      · rename_i hp
        cases h
        exact .inr ⟨rfl, hp⟩
      · exact nomatch h
theorem snapC_own {S : Store} {c : Cell} {xs : List D} (h : snapC S c = .own xs) : c = .own xs ∧ D.pures xs = true := by
  cases c with
  | non => exact nomatch h
  | own ys =>
    simp only [snapC] at h
    by_cases hp : D.pures ys = true
    · rw [if_pos hp] at h
      cases h
      exact ⟨rfl, hp⟩
    · rw [if_neg hp] at h
      exact nomatch h
  | d x =>
    simp only [snapC] at h
    cases x with
    | ref n =>
      simp only [snapD] at h
      split at h
      · split at h <;> exact nomatch h
      · exact nomatch h
    | _ =>
      simp only [snapD] at h
      split at h <;> exact nomatch h
theorem Rel.snap (r : Rel K Z μ ω H σ v S) : Rel K Z [] ω H σ (v.map (snapC S)) [] := by
  have sub : ∀ a, NN Z [] ω a → NN Z μ ω a := by
    rintro a (z | z)
    · simp at z
    · exact .inr z
  refine ⟨by rw [List.length_map]; exact r.len, fun i d e => ?_, fun i xs e => ?_, fun n ob e => by simp at e, rfl, .nil, r.oinj, fun a ha => ⟨by simp, (r.oap a ha).2⟩, fun a ha => ⟨by simp, (r.zap a ha).2⟩, by rw [List.length_map]; exact r.olen, r.tab⟩
  · rw [List.getElem?_map] at e
    cases q : v[i]? with
    | none => rw [q] at e; cases e
    | some c =>
      rw [q] at e
      simp only [Option.map_some, Option.some.injEq] at e
      rcases snapC_d e with ⟨n, xs, rfl, hx, rfl, hp⟩ | ⟨rfl, hp⟩
      · obtain ⟨y, hy, hd⟩ := r.dat i _ q
        refine ⟨y, hy, ?_⟩
        cases hd with
        | @ref _ a hn =>
          obtain ⟨a', e1, vs, e2, hs⟩ := r.sto n _ hx
          rw [hn] at e1; cases e1
          have hm : a ∈ μ := List.mem_of_getElem? hn
          refine .lst (.inl ⟨.inl e2, ?_⟩) (hs.pureX sub hp)
          rintro (z | z | z)
          · simp at z
          · exact (r.oap a z).1 hm
          · exact (r.zap a z).1 hm
      · obtain ⟨y, hy, hd⟩ := r.dat i _ q
        exact ⟨y, hy, hd.pureX sub hp⟩
  · rw [List.getElem?_map] at e
    cases q : v[i]? with
    | none => rw [q] at e; cases e
    | some c =>
      rw [q] at e
      simp only [Option.map_some, Option.some.injEq] at e
      obtain ⟨rfl, hp⟩ := snapC_own e
      obtain ⟨a, vs, e1, e2, e3, hs⟩ := r.own i _ q
      exact ⟨a, vs, e1, e2, e3, hs.pureX sub hp⟩
/-- back from there -/
theorem Rel.unsnap (r : Rel K Z μ ω H σ v S) {μ1 : List Addr} (s : Step [] H μ1 H') : Step μ H μ H' ∧ Rel K Z μ ω H' σ v S :=
  ⟨⟨fun a u _ n e => s.keepN a u (by simp) n e, ⟨[], by simp, fun _ h => by simp at h⟩, s.live, s.tab⟩, r.growN (fun a u n e => s.keepN a u (by simp) n e) s.live s.tab⟩
theorem quietD_ok {S : Store} {r : Rs D} {d : D} {S' : Store} (h : quietD S r = .ok d S') : r = .ok d [] ∧ S' = S ∧ d.scal = true := by
  unfold quietD at h
  split at h
  · rename_i d' S1
    split at h
    · rename_i hh
      cases h
      simp only [Bool.and_eq_true, List.isEmpty_iff] at hh
      rw [hh.2]
      exact ⟨rfl, rfl, hh.1⟩
    · cases h
  · cases h
theorem quietD_exc {S : Store} {r : Rs D} {c : Nat} {fs : List D} {S' : Store} : quietD S r ≠ .exc c fs S' := by
  unfold quietD
  split
  · split <;> simp
  · simp
end
theorem sem_pure (ha : SemE K Φ G ta a) : SemE K Φ G ta (.pure a) := fun Z μ ω H σ v S R Q q => by
  simp only [evE] at q
  refine ha Z [] ω H σ _ [] R.snap Q ?_
  cases e : quietD S (evE Φ G a (v.map (snapC S)) []) with
  | stuck => rw [e] at q; exact q.elim
  | exc => exact absurd e quietD_exc
  | ok d S' =>
    rw [e] at q
    obtain ⟨e1, rfl, hs⟩ := quietD_ok e
    rw [e1]
    intro y H' μ' s r x
    obtain ⟨s2, r2⟩ := R.unsnap s
    exact q y H' μ s2 r2 (x.scalX hs)
theorem sem_pureT {tt : TT} (ha : SemT K Φ G tt a) : SemT K Φ G tt (.pure a) := fun Z μ ω H σ v S R Q q => by
  simp only [evE] at q
  refine ha Z [] ω H σ _ [] R.snap Q ?_
  cases e : quietD S (evE Φ G a (v.map (snapC S)) []) with
  | stuck => rw [e] at q; exact q.elim
  | exc => exact absurd e quietD_exc
  | ok d S' =>
    rw [e] at q
    obtain ⟨e1, rfl, hs⟩ := quietD_ok e
    rw [e1]
    cases d with
    | bl b =>
      intro H' μ' s r
      obtain ⟨s2, r2⟩ := R.unsnap s
      exact q H' μ s2 r2
    | _ => exact q.elim
end
end Q
/-! Q4: what is walked: lists, tuples, enumerate, zip of any of them. -/
namespace Q
open PySem L2 PySem.Spec PyProof.Rows
variable [TC]

section
variable {X : Cx} {tg : Expr}
/-- a list or a tuple -/
def iSeq (K : Fg) (tl : TE) : TI := fun σ H R => tl σ H fun x H1 => ∃ a, x = .ref a ∧ (((∃ xs, SqL K H1 a xs) ∧ R (Itl K a) H1) ∨ ((∃ xs, SqT K H1 a xs) ∧ R (Itt K a) H1))
theorem pi_seq {l : Expr} {tl : TE} (hl : PE X l tl) : PI X tg l (iSeq X.K tl) := by
  refine ⟨fun pins s σ H R I h => ?_⟩
  refine thn (hl.run pins s σ H _ I h) fun v s1 ⟨x, H1, I1, r1, q1⟩ => ?_
  obtain ⟨a, e, q⟩ := q1
  subst e
  cases r1
  have fresh : ∀ b, b ∈ [s1.heap.objs.size] → FpOk X pins H1 b := fun b hb => by
    have e : b = s1.heap.objs.size := by simpa using hb
    subst e
    exact I1.fpOk (Nat.le_refl _) (I1.hok.fresh (Nat.le_refl _))
  rcases q with ⟨⟨xs, hq⟩, q⟩ | ⟨⟨xs, hq⟩, q⟩
  · obtain ⟨its, rv, p, hz⟩ := I1.list hq
    refine wpAny_pyIter_list p.isList ?_
    exact ⟨s1.heap.objs.size, [s1.heap.objs.size], _, _, H1, rfl, I1.kept (t' := s1.toks) fun b o e => Heap.get?_push_of_some _ e, turn_list a _, ⟨_, Heap.get?_push_size _ rfl, rfl, rfl⟩, fresh, q⟩
  · obtain ⟨its, rv, p, hz⟩ := I1.tuple hq
    refine wpAny_pyIter_tuple (show s1.heap.IsTuple a its.toArray from p) ?_
    exact ⟨s1.heap.objs.size, [s1.heap.objs.size], _, _, H1, rfl, I1.kept (t' := s1.toks) fun b o e => Heap.get?_push_of_some _ e, turn_tuple a _, ⟨_, Heap.get?_push_size _ rfl, rfl, rfl⟩, fresh, q⟩

/-! ### enumerate(tuple) -/
set_option maxHeartbeats 2000000 in
theorem meets_enumerate_newB1 {v : Value} {o : Obj} {H : Heap → Prop} (B : Begins v o H) :
    Meets (Builtin.«enumerate.__new__» ⟨[.type "enumerate", v], []⟩) (fun _ R s => H s.heap ∧
      R (.ok (.ret (.ref (s.heap.push o).objs.size))) { s with heap := (s.heap.push o).push { cls := .type "enumerate", data := .fields #[.none, .bool false, .ref s.heap.objs.size, rawInt 0, .none, .none] } }) :=
  .of_wp fun prog w A R s h => by
    obtain ⟨hp, g, d, tk, os⟩ := s; obtain ⟨h1, h⟩ := h
    have hsub := sub_enumerate
    have q1 : ∀ {A' : Around} {E : Value → Shared → Prop} {Q : Value → Shared → Prop}, Q (.ref hp.objs.size) ⟨hp.push o, g, d, tk, os⟩ → wpAny (model prog w) A' (pyIter v) Q E ⟨hp, g, d, tk, os⟩ :=
      fun q => B.iter prog w _ _ ⟨hp, g, d, tk, os⟩ _ h1 q
    wp_walk using q1
    refine wpAny_stack_any fun st => wpAny_pure ?_
    split
    · rename_i c _ _ _ _ _
      cases (c == Value.type "enumerate")
      · wp_walk using q1
        exact ⟨_, rfl, h⟩
      · wp_walk using q1
        exact ⟨_, rfl, h⟩
    · wp_walk using q1
      exact ⟨_, rfl, h⟩
theorem enum_begins1 {prog : Program} {w : World} {A : Around} {E : Value → Shared → Prop} {s : Shared} {v : Value} {o : Obj} {H : Heap → Prop} {Q : Value → Shared → Prop} (B : Begins v o H) (h1 : H s.heap)
    (h : ∀ h', IsEnum h' (s.heap.objs.size + 1) s.heap.objs.size 0 .none → h'.get? s.heap.objs.size = some o → h'.objs.size = s.heap.objs.size + 2 →
      (∀ b o, s.heap.get? b = some o → h'.get? b = some o) → Q (.ref (s.heap.objs.size + 1)) { s with heap := h' }) :
    wpAny (model prog w) A (call (.type "enumerate") [v]) Q E s := by
  refine callType_new F.called_enumerate (by decide) (F.typeCall_enumerate_1 _) (F.newCall_enumerate_1 _) (fun obj => F.args_object_init_2 obj _) F.entry_enumerate_new
    (meets_enumerate_newB1 B) ⟨h1, ?_⟩
  have hz : (s.heap.push o).objs.size = s.heap.objs.size + 1 := Heap.size_push ..
  show _ ∧ _
  rw [hz]
  have he : IsEnum ((s.heap.push o).push { cls := .type "enumerate", data := .fields #[.none, .bool false, .ref s.heap.objs.size, rawInt 0, .none, .none] }) (s.heap.objs.size + 1) s.heap.objs.size 0 .none := by
    have := Heap.get?_push_size (s.heap.push o) (o := { cls := .type "enumerate", data := .fields #[.none, .bool false, .ref s.heap.objs.size, rawInt 0, .none, .none] }) rfl
    rw [hz] at this; exact this
  refine ⟨⟨_, he, rfl⟩, h _ he (Heap.get?_push_of_some _ (Heap.get?_push_size _ B.free)) (by rw [Heap.size_push, hz]) fun b o x => Heap.get?_push_of_some _ (Heap.get?_push_of_some _ x)⟩
/-- the tuple at a, each item in a new pair -/
def IteT (K : Fg) (a : Addr) : It :=
  ⟨fun i H => ∃ (xs : List V) (x : V), SqT K H a xs ∧ xs[i]? = some x, fun i H v H' => ∃ T x, v = .ref T ∧ H T = none ∧ H' = upd H T (.tup [.int (i : Nat), x]) ∧ ∀ xs, SqT K H a xs → xs[i]? = some x, fun i H => ∃ xs : List V, SqT K H a xs ∧ xs.length = i⟩
theorem turn_enumT {P : Program} {w : World} {K : Fg} {elts : List Expr} {kk : Nat} {tpos : Pos} (a e it : Addr) :
    Turn P w K (.Tuple elts kk tpos) (IteT K a) [e, it] e (fun i h => (∃ old, IsEnum h e it ((i : Nat) : Int) old) ∧ h.IsTupleIter it a i ∧ e ≠ it ∧ e ≠ a ∧ a ≠ it) where
  mem := by simp
  obj := fun i h st b hb => by
    obtain ⟨⟨old, he⟩, ⟨o, ho, hc, hd⟩, _⟩ := st
    have e' : b = e ∨ b = it := by simpa using hb
    rcases e' with z | z
    · rw [z]; exact ⟨_, he, fun v q => nomatch q⟩
    · rw [z]; exact ⟨o, ho, fun v q => by rw [hd] at q; cases q⟩
  keep := fun i h h' st k => let ⟨⟨old, he⟩, hi, hne⟩ := st; ⟨⟨old, k e (by simp) _ he⟩, hi.at fun o q => k it (by simp) o q, hne⟩
  item := by
    intro X hP hw hK hc i pins s σ H E I hf st hg
    subst hP hw hK
    obtain ⟨⟨old, he⟩, hit, hne, hea, hai⟩ := st
    obtain ⟨xs, x, hq, hx⟩ := hg
    obtain ⟨its, rv, p, hz⟩ := I.tuple hq
    obtain ⟨u, hu, ru⟩ := rv.get hx
    have hlt : i < its.toArray.size := by
      have := (List.getElem?_eq_some_iff.mp hu).1
      simpa using this
    have D := Draws.tuple (prog := X.prog) (w := X.w) (A := X.A.in1) (I.ok.hd hc) it a hai its.toArray
    refine wpAny_pyNext_enum_itemD D he ⟨hit, p⟩ hlt hne (by simp [hne, hea]) fun y h' tk hy ho st' hT hsz hk => ?_
    have hyu : y = u := by
      have hy' : its[i]? = some y := by simpa using hy
      rw [hu] at hy'
      exact (Option.some.inj hy').symm
    subst hyu
    refine ⟨_, rfl, wpAny_letOwnedTupleGo_enum (s := { s with heap := h', toks := tk + 1 }) ho fun h'' he' sb => ?_⟩
    have hel : e < s.heap.objs.size := Heap.lt_size he
    have hil : it < s.heap.objs.size := by obtain ⟨_, q, _⟩ := hit; exact Heap.lt_size q
    have hT2 : h''.get? s.heap.objs.size = some { cls := .type "tuple", data := .seq #[.int i tk, y] } := (sb.2 _ (Nat.ne_of_gt hel)).trans hT
    have new : ObjOk X.prog X.w (upd H s.heap.objs.size (.tup [.int (i : Nat), x])) h'' s.heap.objs.size (.tup [.int (i : Nat), x]) :=
      ⟨by show 2 ≤ sizeLine; decide, [.int i tk, y], .cons ⟨_, rfl⟩ (.cons ru .nil), ⟨_, hT2, rfl, _, rfl⟩⟩
    have I1 : Inv X pins σ (upd H s.heap.objs.size (.tup [.int (i : Nat), x])) { s with heap := h'', toks := tk + 1 } :=
      I.turnedNew (ch := [e, it]) (fun b ob hb q => (sb.2 b (fun z => hb (by simp [z]))).trans (hk b ob (fun z => hb (by simp [z])) (fun z => hb (by simp [z])) q)) hf (Nat.le_refl _) new
    refine ⟨.ref s.heap.objs.size, _, I1, rfl, ⟨_, x, rfl, I.hok.fresh (Nat.le_refl _), rfl, fun ys hy => by rw [I.tuple_inj hy hq]; exact hx⟩, ⟨⟨y, ?_⟩, st'.1.at fun o q => (sb.2 it (Ne.symm hne)).trans q, hne, hea, hai⟩, fun b hb => ?_⟩
    · have e1 : ((i + 1 : Nat) : Int) = (i : Int) + 1 := by omega
      rw [e1]; exact he'
    · have hb' : b < s.heap.objs.size := by
        have e' : b = e ∨ b = it := by simpa using hb
        rcases e' with z | z
        · rw [z]; exact hel
        · rw [z]; exact hil
      rw [upd_ne (Nat.ne_of_lt hb')]
      exact (hf b hb).1
  done := by
    intro X hP hw hK hc i pins s σ H E I hf st hg
    subst hP hw hK
    obtain ⟨⟨old, he⟩, hit, hne, hea, hai⟩ := st
    obtain ⟨xs, hq, hx⟩ := hg
    obtain ⟨its, rv, p, hz⟩ := I.tuple hq
    have hl := rv.length
    have D := Draws.tuple (prog := X.prog) (w := X.w) (A := X.A.in1) (I.ok.hd hc) it a hai its.toArray
    have hi : i = its.toArray.size := by simp; omega
    have hit' : s.heap.IsTupleIter it a its.toArray.size := hi ▸ hit
    obtain ⟨f0, f1, f2, f3, f4, f5⟩ := hf it (by simp)
    exact wpAny_pyNext_enum_endD D he ⟨hit', p⟩ fun h' eb => ⟨rfl, I.turned (t' := s.toks) (fun b o hb q => eb b o hb q) f0 f1 f3 f4 f5⟩
  self := fun A i s Q E st h => let ⟨⟨_, he⟩, _⟩ := st; wpAny_pyIter_enum he h
def iEnumA (K : Fg) (ta : TA) : TI := fun σ H R => ta σ H fun vs H1 => ∃ a xs, vs = [.ref a] ∧ ((SqL K H1 a xs ∧ R (Ite K a) H1) ∨ (SqT K H1 a xs ∧ R (IteT K a) H1))
theorem pi_enumA {e : Expr} {ta : TA} {p pos tpos : Pos} {elts : List Expr} {kk : Nat} (hg : Gl X "enumerate") (hm : X.mg "enumerate" = none) (ha : PA X [e] ta) (hs : starEach [e] X.env = [(false, eval e X.env)]) :
    PI X (.Tuple elts kk tpos) (.Call (.Name "enumerate" p) [e] [] pos) (iEnumA X.K ta) := by
  refine ⟨fun pins s σ H R I h => ?_⟩
  refine Call_ (ld_blt I hg hm boot_enumerate (PyProof.Rows.callWith_type1 (thn (ha.run pos pins s σ H _ I h) fun us s1 ⟨vs, H1, I1, r1, q1⟩ => ?_) hs rfl))
  obtain ⟨a, xs, ex, q1⟩ := q1
  subst ex
  cases r1 with
  | cons r rr =>
    cases rr
    cases r
    have two : ∀ b, b ∈ [s1.heap.objs.size + 1, s1.heap.objs.size] → FpOk X pins H1 b := fun b hb => by
      have e' : b = s1.heap.objs.size + 1 ∨ b = s1.heap.objs.size := by simpa using hb
      have hle : s1.heap.objs.size ≤ b := by
        rcases e' with z | z
        · rw [z]; exact Nat.le_add_right _ _
        · rw [z]; exact Nat.le_refl _
      exact I1.fpOk hle (I1.hok.fresh hle)
    rcases q1 with ⟨hq, q⟩ | ⟨hq, q⟩
    · obtain ⟨its, rv, p', hz⟩ := I1.list hq
      refine call_enumerate_list p'.isList fun h' he hit hsz hk => wpAny_pyIter_enum he ?_
      have I2 : Inv X pins σ H1 { s1 with heap := h' } := I1.kept (t' := s1.toks) hk
      exact ⟨s1.heap.objs.size + 1, [s1.heap.objs.size + 1, s1.heap.objs.size], _, _, H1, rfl, I2, turn_enum a (s1.heap.objs.size + 1) s1.heap.objs.size, ⟨⟨.none, he⟩, hit, Nat.succ_ne_self _⟩, two, q⟩
    · obtain ⟨its, rv, p', hz⟩ := I1.tuple hq
      refine enum_begins1 (begins_tuple a its.toArray) (show s1.heap.IsTuple a its.toArray from p') fun h' he hit hsz hk => wpAny_pyIter_enum he ?_
      have I2 : Inv X pins σ H1 { s1 with heap := h' } := I1.kept (t' := s1.toks) hk
      obtain ⟨o, ho, _⟩ := id p'
      have hal : a < s1.heap.objs.size := Heap.lt_size ho
      exact ⟨s1.heap.objs.size + 1, [s1.heap.objs.size + 1, s1.heap.objs.size], _, _, H1, rfl, I2, turn_enumT a (s1.heap.objs.size + 1) s1.heap.objs.size, ⟨⟨.none, he⟩, ⟨_, hit, rfl, rfl⟩, Nat.succ_ne_self _, Nat.ne_of_gt (Nat.lt_succ_of_lt hal), Nat.ne_of_lt hal⟩, two, q⟩
theorem walk_enumT {K : Fg} {a : Addr} {xs : List V} : Walk (IteT K a) xs.length (fun H => SqT K H a xs) (YPair (fun i => some (.int (i : Nat))) (fun i => xs[i]?)) := by
  refine ⟨fun i _ hi q => ⟨xs, xs[i], q, by simp [hi]⟩, fun _ q => ⟨xs, q, rfl⟩, fun i H v H' _ q y => ?_⟩
  obtain ⟨T, x, h1, h2, h3, h4⟩ := y
  exact ⟨T, .int (i : Nat), x, h1, h2, h3, rfl, h4 xs q⟩
theorem walk_zipT {K : Fg} {a b : Addr} {xs ys : List V} {n : Nat} (hn : n = min xs.length ys.length) : Walk (RZ.ItzT K a b) n (fun H => SqT K H a xs ∧ SqT K H b ys) (YPair (fun i => xs[i]?) (fun i => ys[i]?)) := by
  subst hn
  refine ⟨fun i _ hi q => ?_, fun _ q => ⟨xs, ys, q.1, q.2, by omega⟩, fun i H v H' _ q y => ?_⟩
  · have h1 : i < xs.length := by omega
    have h2 : i < ys.length := by omega
    exact ⟨xs, ys, xs[i], ys[i], q.1, q.2, by simp [h1], by simp [h2]⟩
  · obtain ⟨T, x, z, h1, h2, h3, h4, h5⟩ := y
    exact ⟨T, x, z, h1, h2, h3, h4 xs q.1, h5 ys q.2⟩
end

/-- what is evaluated is no longer than may be -/
def Sz (K : Fg) (H : Hp) (x : V) : Prop := ∀ a xs, x = .ref a → (SqL K H a xs ∨ SqT K H a xs) → xs.length ≤ sizeLine
def tSz (K : Fg) (t : TE) : TE := fun σ H Q => t σ H fun x H1 => Sz K H1 x → Q x H1
theorem pe_sz {X : Cx} {e : Expr} {t : TE} (h : PE X e t) : PE X e (tSz X.K t) := ⟨fun pins s σ H Q I q => thn (h.run pins s σ H _ I q) fun u s1 ⟨x, H1, I1, r, q1⟩ => ⟨x, H1, I1, r, q1 fun a xs e hs => by
  rcases hs with hs | hs
  · obtain ⟨_, _, _, z⟩ := I1.list hs; exact z
  · obtain ⟨_, _, _, z⟩ := I1.tuple hs; exact z⟩⟩
/-! ### what is walked, as data -/
section
variable {K : Fg} {N N' N2 : Addr → Prop} {μ μ' μ2 : List Addr} {H H' H2 : Hp}
theorem Xt.trans (a : Xt K N N' μ μ' H H') (b : Xt K N' N2 μ' μ2 H' H2) : Xt K N N2 μ μ2 H H2 := ⟨fun x vs h => b.t x vs (a.t x vs h), fun x vs h => b.l x vs (a.l x vs h), fun n x h => b.m n x (a.m n x h)⟩
theorem Xt.refl : Xt K N N μ μ H H := ⟨fun _ _ h => h, fun _ _ h => h, fun _ _ h => h⟩
theorem Xt.grow (k : ∀ a u, H a = some u → H' a = some u) : Xt K N N μ μ H H' := by
  refine ⟨fun a vs h => ?_, fun a vs h => ?_, fun _ _ h => h⟩
  · rcases h with (h | ⟨o, h⟩) | h
    · exact .inl (.inl (k _ _ h))
    · exact .inl (.inr ⟨o, k _ _ h⟩)
    · exact .inr h
  · rcases h with ⟨h, hn⟩ | h
    · rcases h with h | ⟨o, h⟩
      · exact .inl ⟨.inl (k _ _ h), hn⟩
      · exact .inl ⟨.inr ⟨o, k _ _ h⟩, hn⟩
    · exact .inr h
/-- what is walked gives these things, whatever is done meanwhile -/
def ItOk (K : Fg) (N : Addr → Prop) (μ : List Addr) (H : Hp) (J : It) (its : List D) : Prop :=
  its.length ≤ sizeLine ∧ ∃ (Gd : Hp → Prop) (Y : Nat → Hp → V → Hp → Prop), Walk J its.length Gd Y ∧ (∀ N2 μ2 H2, Xt K N N2 μ μ2 H H2 → Gd H2) ∧
    ∀ i N2 μ2 H2 x H3, i < its.length → Xt K N N2 μ μ2 H H2 → Y i H2 x H3 → (∀ a u, H2 a = some u → H3 a = some u) ∧ ∃ d, its[i]? = some d ∧ VD K N2 μ2 H3 x d
theorem itok_at {J : It} {its : List D} {vs : List V} {Gd : Hp → Prop} (w : Walk J its.length Gd (YAt vs)) (d : VDs K N μ H vs its) (hG : ∀ N2 μ2 H2, Xt K N N2 μ μ2 H H2 → Gd H2) (hz : its.length ≤ sizeLine) : ItOk K N μ H J its := by
  refine ⟨hz, Gd, YAt vs, w, hG, fun i N2 μ2 H2 x H3 hi e y => ?_⟩
  obtain ⟨rfl, hx⟩ := y
  obtain ⟨z, hz, q⟩ := d.getV hx
  exact ⟨fun _ _ h => h, z, hz, q.mono e⟩
theorem itok_pair {J : It} {its : List D} {f g : Nat → Option V} {Gd : Hp → Prop} (w : Walk J its.length Gd (YPair f g)) (hG : ∀ N2 μ2 H2, Xt K N N2 μ μ2 H H2 → Gd H2)
    (hd : ∀ i x y, i < its.length → f i = some x → g i = some y → ∃ a b, its[i]? = some (.tup [a, b]) ∧ VD K N μ H x a ∧ VD K N μ H y b) (hz : its.length ≤ sizeLine) : ItOk K N μ H J its := by
  refine ⟨hz, Gd, _, w, hG, fun i N2 μ2 H2 x H3 hi e y => ?_⟩
  obtain ⟨T, x, y, rfl, hT, rfl, h1, h2⟩ := y
  obtain ⟨a, b, h3, h4, h5⟩ := hd i x y hi h1 h2
  have k : ∀ c u, H2 c = some u → upd H2 T (.tup [x, y]) c = some u := fun c u q => by rw [upd_ne (ne_of_none q hT)]; exact q
  have e2 : Xt K N2 N2 μ2 μ2 H2 (upd H2 T (.tup [x, y])) := .grow k
  exact ⟨k, _, h3, .tup (.of upd_same) (.cons ((h4.mono e).mono e2) (.cons ((h5.mono e).mono e2) .nil))⟩
theorem enumD_get (xs : List D) (i : Nat) : (enumD xs)[i]? = xs[i]?.map fun x => .tup [.int (i : Nat), x] := by
  unfold enumD
  rw [List.getElem?_mapIdx]
theorem enumD_len (xs : List D) : (enumD xs).length = xs.length := by
  unfold enumD
  rw [List.length_mapIdx]
theorem itok_list {a : Addr} {vs : List V} {xs : List D} (h : FrL K N H a vs) (d : VDs K N μ H vs xs) (hz : vs.length ≤ sizeLine) : ItOk K N μ H (Itl K a) xs :=
  itok_at (vs := vs) (by rw [← d.length]; exact walk_list) d (fun N2 μ2 H2 e => (e.l _ _ h).sq) (by rw [← d.length]; exact hz)
theorem itok_tup {a : Addr} {vs : List V} {xs : List D} (h : SqT K H a vs) (d : VDs K N μ H vs xs) (hz : vs.length ≤ sizeLine) : ItOk K N μ H (Itt K a) xs :=
  itok_at (vs := vs) (by rw [← d.length]; exact walk_tup) d (fun N2 μ2 H2 e => e.t _ _ h) (by rw [← d.length]; exact hz)
theorem enum_pair {vs : List V} {xs : List D} (d : VDs K N μ H vs xs) (i : Nat) (x y : V) (hx : some (V.int (i : Nat)) = some x) (hy : vs[i]? = some y) : ∃ a b, (enumD xs)[i]? = some (.tup [a, b]) ∧ VD K N μ H x a ∧ VD K N μ H y b := by
  cases hx
  obtain ⟨z, hz, q⟩ := d.getV hy
  exact ⟨.int (i : Nat), z, by rw [enumD_get, hz]; rfl, .int _, q⟩
theorem itok_enumL {a : Addr} {vs : List V} {xs : List D} (h : FrL K N H a vs) (d : VDs K N μ H vs xs) (hz : vs.length ≤ sizeLine) : ItOk K N μ H (Ite K a) (enumD xs) :=
  itok_pair (by rw [enumD_len, ← d.length]; exact walk_enum) (fun N2 μ2 H2 e => (e.l _ _ h).sq) (fun i x y _ hx hy => enum_pair d i x y hx hy) (by rw [enumD_len, ← d.length]; exact hz)
theorem itok_enumT {a : Addr} {vs : List V} {xs : List D} (h : SqT K H a vs) (d : VDs K N μ H vs xs) (hz : vs.length ≤ sizeLine) : ItOk K N μ H (IteT K a) (enumD xs) :=
  itok_pair (by rw [enumD_len, ← d.length]; exact walk_enumT) (fun N2 μ2 H2 e => e.t _ _ h) (fun i x y _ hx hy => enum_pair d i x y hx hy) (by rw [enumD_len, ← d.length]; exact hz)
theorem zip_pair {vs ws : List V} {xs ys : List D} (d : VDs K N μ H vs xs) (d2 : VDs K N μ H ws ys) (i : Nat) (x y : V) (hx : vs[i]? = some x) (hy : ws[i]? = some y) : ∃ a b, (List.zipWith (fun a b => D.tup [a, b]) xs ys)[i]? = some (.tup [a, b]) ∧ VD K N μ H x a ∧ VD K N μ H y b := by
  obtain ⟨z, hz, q⟩ := d.getV hx
  obtain ⟨z2, hz2, q2⟩ := d2.getV hy
  exact ⟨z, z2, by rw [List.getElem?_zipWith, hz, hz2], q, q2⟩
theorem itok_zipL {a b : Addr} {vs ws : List V} {xs ys : List D} (h : FrL K N H a vs) (h2 : FrL K N H b ws) (d : VDs K N μ H vs xs) (d2 : VDs K N μ H ws ys) (hz : vs.length ≤ sizeLine) : ItOk K N μ H (Itz K a b) (List.zipWith (fun a b => .tup [a, b]) xs ys) :=
  itok_pair (walk_zip (by rw [List.length_zipWith, d.length, d2.length])) (fun N2 μ2 H2 e => ⟨(e.l _ _ h).sq, (e.l _ _ h2).sq⟩) (fun i x y _ hx hy => zip_pair d d2 i x y hx hy) (by rw [List.length_zipWith, ← d.length]; omega)
theorem itok_zipT {a b : Addr} {vs ws : List V} {xs ys : List D} (h : SqT K H a vs) (h2 : SqT K H b ws) (d : VDs K N μ H vs xs) (d2 : VDs K N μ H ws ys) (hz : vs.length ≤ sizeLine) : ItOk K N μ H (RZ.ItzT K a b) (List.zipWith (fun a b => .tup [a, b]) xs ys) :=
  itok_pair (walk_zipT (by rw [List.length_zipWith, d.length, d2.length])) (fun N2 μ2 H2 e => ⟨e.t _ _ h, e.t _ _ h2⟩) (fun i x y _ hx hy => zip_pair d d2 i x y hx hy) (by rw [List.length_zipWith, ← d.length]; omega)
theorem itok_range {lo : Int} {n : Nat} (hz : n ≤ sizeLine) : ItOk K N μ H (L2.Itr lo n) (rangeD lo n) := by
  have hl : (rangeD lo n).length = n := by unfold rangeD; rw [List.length_map, List.length_range]
  refine ⟨by rw [hl]; exact hz, fun _ => True, _, by rw [hl]; exact walk_range, fun _ _ _ _ => trivial, fun i N2 μ2 H2 x H3 hi e y => ?_⟩
  obtain ⟨rfl, rfl⟩ := y
  refine ⟨fun _ _ h => h, .int (lo + i), ?_, .int _⟩
  rw [hl] at hi
  unfold rangeD
  rw [List.getElem?_map, List.getElem?_range hi]
  rfl
theorem itok_chars {z : Str} (hz : PyData.strOk z = true) (hs : z.cps.toList.length ≤ sizeLine) : ItOk K N μ H (Its z) (z.cps.toList.map fun c => .str ⟨#[c]⟩) := by
  refine ⟨by rw [List.length_map]; exact hs, fun _ => True, _, by rw [List.length_map, Array.length_toList]; exact walk_str, fun _ _ _ _ => trivial, fun i N2 μ2 H2 x H3 hi e y => ?_⟩
  obtain ⟨rfl, c, hc, rfl⟩ := y
  have hc' : z.cps.toList[i]? = some c := by simpa using hc
  refine ⟨fun _ _ h => h, .str ⟨#[c]⟩, ?_, .str _ ?_⟩
  · rw [List.getElem?_map, hc']
    rfl
  · have hm := List.mem_of_getElem? hc'
    unfold PyData.strOk at *
    have h2 := Array.all_eq_true'.mp hz c (Array.mem_toList_iff.mp hm)
    simpa using h2
end
section
variable (K : Fg) (Z : Addr → Prop) (μ : List Addr) (ω : List (Option Addr)) (H : Hp) (σ : L2.St) (v : Fm)
def PostI (r : Rs (List D)) (R : It → Hp → Prop) : Prop := match r with
  | .ok its S' => ∀ J H' μ', Step μ H μ' H' → Rel K Z μ' ω H' σ v S' → ItOk K (NN Z μ' ω) μ' H' J its → R J H'
  | _ => False
end
def SemI (K : Fg) (Φ : Cal) (G : Nat → Option D) (wi : TI) (it : Itr) : Prop := ∀ Z μ ω H σ v S, Rel K Z μ ω H σ v S → ∀ R, PostI K Z μ ω H σ v (evI Φ G it v S) R → wi σ H R
section
variable {K : Fg} {Φ : Cal} {G : Nat → Option D} {ta tb : TE} {a b : Ex}
theorem PostI.re {Z : Addr → Prop} {μ μ' : List Addr} {ω : List (Option Addr)} {H H' : Hp} {σ : L2.St} {v : Fm} {S : Store} {r : Rs (List D)} {Q : It → Hp → Prop} (h : PostI K Z μ ω H σ v r Q) (s : Step μ H μ' H') (hr : Rel K Z μ' ω H' σ v S) : PostI K Z μ' ω H' σ v r Q := by
  cases r with
  | ok d S2 => exact fun y H2 μ2 s2 r2 q => h y H2 μ2 (s.trans s2 hr.live) r2 q
  | exc => exact h
  | stuck => exact h
theorem sem_iseq (ha : SemE K Φ G ta a) : SemI K Φ G (iSeq K (tSz K ta)) (.seq a) := fun Z μ ω H σ v S R Q q => by
  simp only [evI] at q
  refine ha.bind (P := fun r => PostI K Z μ ω H σ v r Q) R q id (fun _ _ _ h => h) fun x H1 μ1 d1 S1 s1 R1 x1 q1 hz => ?_
  cases x1 with
  | tup h hs => exact ⟨_, rfl, .inr ⟨⟨_, h⟩, q1 _ H1 μ1 s1 R1 (itok_tup h hs (hz _ _ rfl (.inr h)))⟩⟩
  | lst h hs => exact ⟨_, rfl, .inl ⟨⟨_, h.sq⟩, q1 _ H1 μ1 s1 R1 (itok_list h hs (hz _ _ rfl (.inl h.sq)))⟩⟩
  | _ => exact q1.elim
theorem sem_ienum (ha : SemE K Φ G ta a) : SemI K Φ G (iEnumA K (tCons (tSz K ta) tNil)) (.enum a) := fun Z μ ω H σ v S R Q q => by
  simp only [evI] at q
  show ta σ H _
  refine ha.bind (P := fun r => PostI K Z μ ω H σ v r Q) R q id (fun _ _ _ h => h) fun x H1 μ1 d1 S1 s1 R1 x1 q1 hz => ?_
  cases x1 with
  | tup h hs => exact ⟨_, _, rfl, .inr ⟨h, q1 _ H1 μ1 s1 R1 (itok_enumT h hs (hz _ _ rfl (.inr h)))⟩⟩
  | lst h hs => exact ⟨_, _, rfl, .inl ⟨h.sq, q1 _ H1 μ1 s1 R1 (itok_enumL h hs (hz _ _ rfl (.inl h.sq)))⟩⟩
  | _ => exact q1.elim
theorem okRange_iff {i : Int} (h : okRange i = true) : -1000000 ≤ i ∧ i ≤ 1000000 := of_decide_eq_true h
theorem sem_irange1 (ha : SemE K Φ G ta a) : SemI K Φ G (iRng1 (tCons ta tNil)) (.range1 a) := fun Z μ ω H σ v S R Q q => by
  simp only [evI] at q
  show ta σ H _
  refine ha.bind (P := fun r => PostI K Z μ ω H σ v r Q) R q id (fun _ _ _ h => h) fun x H1 μ1 d1 S1 s1 R1 x1 q1 => ?_
  cases x1 with
  | int i =>
    by_cases h : okRange i = true
    · simp only [h, if_true] at q1
      have := okRange_iff h
      exact ⟨i, rfl, by omega, by omega, q1 _ H1 μ1 s1 R1 (itok_range (by rw [sizeLine_eq]; omega))⟩
    · simp only [h] at q1
      exact q1.elim
  | _ => exact q1.elim
theorem sem_irange2 (ha : SemE K Φ G ta a) (hb : SemE K Φ G tb b) : SemI K Φ G (iRng2 (tCons ta (tCons tb tNil))) (.range2 a b) := fun Z μ ω H σ v S R Q q => by
  simp only [evI] at q
  show ta σ H _
  refine ha.bind (P := fun r => PostI K Z μ ω H σ v r Q) R q id (fun _ _ _ h => h) fun x H1 μ1 d1 S1 s1 R1 x1 q1 => ?_
  show tb σ H1 _
  refine hb.bind (P := fun r => PostI K Z μ1 ω H1 σ v r Q) R1 (PostI.re q1 s1 R1) id (fun _ _ _ h => h) fun y H2 μ2 d2 S2 s2 R2 x2 q2 => ?_
  cases x1 with
  | int i =>
    cases x2 with
    | int j =>
      by_cases h : okRange i = true ∧ okRange j = true
      · simp only [h, and_self, if_true] at q2
        have h1 := okRange_iff h.1
        have h2 := okRange_iff h.2
        exact ⟨i, j, rfl, ⟨by omega, by omega, by omega, by omega⟩, q2 _ H2 μ2 s2 R2 (itok_range (by rw [sizeLine_eq]; omega))⟩
      · simp only [if_neg h] at q2
        exact q2.elim
    | _ => exact q2.elim
  | _ => cases x2 <;> exact q2.elim
theorem sem_ichars (ha : SemE K Φ G ta a) : SemI K Φ G (iStr ta) (.chars a) := fun Z μ ω H σ v S R Q q => by
  simp only [evI] at q
  show ta σ H _
  refine ha.bind (P := fun r => PostI K Z μ ω H σ v r Q) R q id (fun _ _ _ h => h) fun x H1 μ1 d1 S1 s1 R1 x1 q1 => ?_
  cases x1 with
  | str s h =>
    by_cases hl : s.cps.toList.length ≤ lim
    · simp only [hl, if_true] at q1
      exact ⟨s, rfl, q1 _ H1 μ1 s1 R1 (itok_chars h (lim_le hl))⟩
    · simp only [if_neg hl] at q1
      exact q1.elim
  | _ => exact q1.elim
end
end Q
/-! Q5: targets, comprehensions, calls. -/
namespace Q
open PySem L2 PySem.Spec PyProof.Rows
variable [TC]
section
variable {K : Fg} {Z Z' : Addr → Prop} {μ μ' μ2 : List Addr} {ω : List (Option Addr)} {H H' H2 : Hp} {σ σ' : L2.St} {v v' : Fm} {S S' : Store} {Φ : Cal} {G : Nat → Option D}

/-! ### the frame changes -/
theorem Rel.set (r : Rel K Z μ ω H σ v S) {x : V} {d : D} (h : VD K (NN Z μ ω) μ H x d) (i : Nat) : Rel K Z μ ω H (σ.set i (some x)) (v.set i (.d d)) S := by
  refine ⟨by rw [List.length_set, List.length_set]; exact r.len, fun j y e => ?_, fun j xs e => ?_, r.sto, r.mlen, r.nd, r.oinj, r.oap, r.zap, by rw [List.length_set]; exact r.olen, r.tab⟩
  · by_cases hj : i = j
    · subst hj
      by_cases hi : i < v.length
      · rw [List.getElem?_set_self hi] at e
        cases e
        exact ⟨x, List.getElem?_set_self (by rw [r.len]; exact hi), h⟩
      · rw [List.getElem?_eq_none (by rw [List.length_set]; omega)] at e
        cases e
    · rw [List.getElem?_set_ne hj] at e ⊢
      exact r.dat j y e
  · by_cases hj : i = j
    · subst hj
      by_cases hi : i < v.length
      · rw [List.getElem?_set_self hi] at e
        cases e
      · rw [List.getElem?_eq_none (by rw [List.length_set]; omega)] at e
        cases e
    · rw [List.getElem?_set_ne hj] at e ⊢
      exact r.own j xs e
/-- cells forgotten -/
theorem Rel.none (r : Rel K Z μ ω H σ v S) (i : Nat) : Rel K Z μ ω H (σ.set i Option.none) (v.set i .non) S := by
  refine ⟨by rw [List.length_set, List.length_set]; exact r.len, fun j y e => ?_, fun j xs e => ?_, r.sto, r.mlen, r.nd, r.oinj, r.oap, r.zap, by rw [List.length_set]; exact r.olen, r.tab⟩
  · by_cases hj : i = j
    · subst hj
      by_cases hi : i < v.length
      · rw [List.getElem?_set_self hi] at e
        cases e
      · rw [List.getElem?_eq_none (by rw [List.length_set]; omega)] at e
        cases e
    · rw [List.getElem?_set_ne hj] at e ⊢
      exact r.dat j y e
  · by_cases hj : i = j
    · subst hj
      by_cases hi : i < v.length
      · rw [List.getElem?_set_self hi] at e
        cases e
      · rw [List.getElem?_eq_none (by rw [List.length_set]; omega)] at e
        cases e
    · rw [List.getElem?_set_ne hj] at e ⊢
      exact r.own j xs e
theorem Rel.wipe (r : Rel K Z μ ω H σ v S) : ∀ w : List Nat, Rel K Z μ ω H (L2.wipe σ w) (wipeE v w) S
  | [] => r
  | i :: is => (Rel.wipe r is).none i
theorem wipe_get (σ : L2.St) (i : Nat) : ∀ w : List Nat, (L2.wipe σ w)[i]? = if i ∈ w then (if i < σ.length then some Option.none else Option.none) else σ[i]?
  | [] => by simp [L2.wipe]
  | j :: w => by
    have ih := wipe_get σ i w
    unfold L2.wipe
    by_cases hj : j = i
    · subst hj
      by_cases hl : j < σ.length
      · rw [List.getElem?_set_self (by rw [wipe_length]; exact hl)]
        simp [hl]
      · rw [List.getElem?_eq_none (by rw [List.length_set, wipe_length]; omega)]
        simp [hl]
    · rw [List.getElem?_set_ne hj, ih]
      have : i ≠ j := fun e => hj e.symm
      simp [this]
theorem wipe_wipe (σ : L2.St) (w : List Nat) : L2.wipe (L2.wipe σ w) w = L2.wipe σ w := by
  apply List.ext_getElem?
  intro i
  rw [wipe_get, wipe_get, wipe_length]
  by_cases h : i ∈ w <;> simp [h]
theorem wipe_set {σ : L2.St} {w : List Nat} {i : Nat} (x : Option V) (h : i ∈ w) : L2.wipe (σ.set i x) w = L2.wipe σ w := by
  apply List.ext_getElem?
  intro j
  rw [wipe_get, wipe_get, List.length_set]
  by_cases hj : j ∈ w
  · simp [hj]
  · have : i ≠ j := fun e => hj (e ▸ h)
    simp [hj, List.getElem?_set_ne this]

/-! ### targets -/
def SemG (K : Fg) (g : TG) (gg : Tg) : Prop := ∀ (Z : Addr → Prop) (μ : List Addr) (ω : List (Option Addr)) (H : Hp) (σ : L2.St) (v : Fm) (S : Store) (x : V) (d : D) (v' : Fm), Rel K Z μ ω H σ v S → VD K (NN Z μ ω) μ H x d → gg.set d v = some v' →
  ∀ k : L2.St → Hp → Prop, (∀ σ2, Rel K Z μ ω H σ2 v' S → (∀ w, (∀ i ∈ gg.slots, i ∈ w) → L2.wipe σ2 w = L2.wipe σ w) → k σ2 H) → g x σ H k
def SemGs (K : Fg) (g : TGs) (gg : Tgs) : Prop := ∀ (Z : Addr → Prop) (μ : List Addr) (ω : List (Option Addr)) (H : Hp) (σ : L2.St) (v : Fm) (S : Store) (x : List V) (d : List D) (v' : Fm), Rel K Z μ ω H σ v S → VDs K (NN Z μ ω) μ H x d → gg.set d v = some v' →
  ∀ k : L2.St → Hp → Prop, (∀ σ2, Rel K Z μ ω H σ2 v' S → (∀ w, (∀ i ∈ gg.slots, i ∈ w) → L2.wipe σ2 w = L2.wipe σ w) → k σ2 H) → g x σ H k
theorem sem_gname (i : Nat) : SemG K (gName i) (.name i) := fun Z μ ω H σ v S x d v' r h e k hk => by
  simp only [Tg.set] at e
  cases e
  exact hk _ (r.set h i) fun w hw => wipe_set _ (hw i (by simp [Tg.slots]))
theorem Tgs.set_len : ∀ (gs : Tgs) (ds : List D) (v v' : Fm), gs.set ds v = some v' → ds.length = gs.len
  | .nil, [], _, _, _ => rfl
  | .nil, _ :: _, _, _, h => by simp [Tgs.set] at h
  | .cons g gs, [], _, _, h => by simp [Tgs.set] at h
  | .cons g gs, d :: ds, v, v', h => by
    simp only [Tgs.set] at h
    split at h
    · rename_i v2 _
      show ds.length + 1 = gs.len + 1
      rw [Tgs.set_len gs ds v2 v' h]
    · cases h
theorem sem_gtup {t : TGs} {gs : Tgs} (h : SemGs K t gs) : SemG K (gTup K gs.len t) (.tup gs) := fun Z μ ω H σ v S x d v' r hd e k hk => by
  cases hd with
  | tup ht hs =>
    have e : gs.set _ v = some v' := e
    have hl := Tgs.set_len gs _ v v' e
    exact ⟨_, _, rfl, ht, by rw [hs.length, hl], h Z μ ω H σ v S _ _ v' r hs e k hk⟩
  | _ => simp [Tg.set] at e
theorem sem_gnil : SemGs K gNil .nil := fun Z μ ω H σ v S x d v' r hd e k hk => by
  cases hd with
  | nil => cases e; exact ⟨rfl, hk σ r fun _ _ => rfl⟩
  | cons => cases e
theorem sem_gcons {t : TG} {u : TGs} {g : Tg} {gs : Tgs} (h : SemG K t g) (hs : SemGs K u gs) : SemGs K (gCons t u) (.cons g gs) := fun Z μ ω H σ v S x d v' r hd e k hk => by
  cases hd with
  | nil => cases e
  | cons h1 h2 =>
    simp only [Tgs.set] at e
    split at e
    · rename_i v2 e2
      refine ⟨_, _, rfl, h Z μ ω H σ v S _ _ v2 r h1 e2 _ fun σ2 r2 w2 => ?_⟩
      exact hs Z μ ω H σ2 v2 S _ _ v' r2 h2 e k fun σ3 r3 w3 => hk σ3 r3 fun w hw => (w3 w fun i hi => hw i (by simp [Tgs.slots, hi])).trans (w2 w fun i hi => hw i (by simp [Tgs.slots, hi]))
    · cases e

/-! ### a list that grows aside -/
theorem Xt.put {N : Addr → Prop} {D0 : Addr} {vs : List V} {o : HO} (hD : N D0) (h : H D0 = some (.lst vs)) : Xt K N N μ μ H (upd H D0 o) := by
  refine ⟨fun a ws q => ?_, fun a ws q => ?_, fun _ _ h => h⟩
  · rcases q with (q | ⟨ob, q⟩) | q
    · exact .inl (.inl (by rw [upd_ne (fun e => by rw [e, h] at q; cases q)]; exact q))
    · exact .inl (.inr ⟨ob, by rw [upd_ne (fun e => by rw [e, h] at q; cases q)]; exact q⟩)
    · exact .inr q
  · rcases q with ⟨q, hn⟩ | q
    · have ne : a ≠ D0 := fun e => hn (e ▸ hD)
      rcases q with q | ⟨ob, q⟩
      · exact .inl ⟨.inl (by rw [upd_ne ne]; exact q), hn⟩
      · exact .inl ⟨.inr ⟨ob, by rw [upd_ne ne]; exact q⟩, hn⟩
    · exact .inr q
/-- a list of the outside is changed -/
theorem Rel.put (r : Rel K Z μ ω H σ v S) {D0 : Addr} {vs : List V} {o : HO} (hD : Z D0) (h : H D0 = some (.lst vs)) : Rel K Z μ ω (upd H D0 o) σ v S := by
  have x : Xt K (NN Z μ ω) (NN Z μ ω) μ μ H (upd H D0 o) := .put (.inr (.inr hD)) h
  have nm : ∀ a, a ∈ μ → a ≠ D0 := fun a ha e => (r.zap D0 hD).1 (e ▸ ha)
  have no : ∀ a, some a ∈ ω → a ≠ D0 := fun a ha e => (r.oap a ha).2.1 (e ▸ hD)
  refine ⟨r.len, fun i d e => ?_, fun i xs e => ?_, fun n ob e => ?_, r.mlen, r.nd, r.oinj, fun a ha => ?_, fun a ha => ?_, r.olen, r.tabS (.updL h)⟩
  · obtain ⟨y, e1, q⟩ := r.dat i d e
    exact ⟨y, e1, q.mono x⟩
  · obtain ⟨a, ws, e1, e2, e3, q⟩ := r.own i xs e
    exact ⟨a, ws, e1, e2, by rw [upd_ne (no a (List.mem_of_getElem? e1))]; exact e3, q.mono x⟩
  · obtain ⟨a, e1, q⟩ := r.sto n ob e
    refine ⟨a, e1, ?_⟩
    cases ob with
    | lst xs =>
      obtain ⟨ws, e2, q⟩ := q
      exact ⟨ws, by rw [upd_ne (nm a (List.mem_of_getElem? e1))]; exact e2, q.mono x⟩
  · obtain ⟨h1, h2, ws, e⟩ := r.oap a ha
    exact ⟨h1, h2, ws, by rw [upd_ne (no a ha)]; exact e⟩
  · obtain ⟨h1, h2⟩ := r.zap a ha
    refine ⟨h1, ?_⟩
    by_cases e : a = D0
    · rw [e, upd_same]; simp
    · rw [upd_ne e]; exact h2
/-- the frame as it was, the store as it is -/
theorem Rel.back {σ2 : L2.St} {v2 : Fm} (r : Rel K Z μ ω H σ v S) (s : Step μ H μ' H') (r2 : Rel K Z μ' ω H' σ2 v2 S') : Rel K Z μ' ω H' σ v S' := by
  have x := r.xt s
  refine ⟨r.len, fun i d e => ?_, fun i xs e => ?_, r2.sto, r2.mlen, r2.nd, r.oinj, r2.oap, r2.zap, r.olen, r2.tab⟩
  · obtain ⟨y, e1, q⟩ := r.dat i d e
    exact ⟨y, e1, q.mono x⟩
  · obtain ⟨a, ws, e1, e2, e3, q⟩ := r.own i xs e
    exact ⟨a, ws, e1, e2, s.keep a _ (r.oap a (List.mem_of_getElem? e1)).1 e3, q.mono x⟩
end

/-! ### comprehensions -/
/-- lc_it from any heap -/
theorem lc_itG {J : It} {n : Nat} {G : Hp → Prop} {Y : Nat → Hp → V → Hp → Prop} (w : Walk J n G Y) {g : TG} {tt : TT} {te : TE} {vs : List Nat} {σ : L2.St} {H0 : Hp} {D : Addr} {Qd : Hp → Prop} (Pv : Nat → Hp → Prop) (h0 : Pv 0 H0) (hG : ∀ i H, i ≤ n → Pv i H → G H)
    (hs : ∀ i x H H', i < n → Pv i H → Y i H x H' → g x (wipe σ vs) H' fun σ2 H2 => wipe σ2 vs = wipe σ vs ∧ tt σ2 H2 fun b H3 =>
      if b = true then te σ2 H3 fun y H4 => ∃ acc, H4 D = some (.lst acc) ∧ acc.length < sizeLine ∧ Pv (i + 1) (upd H4 D (.lst (acc ++ [y]))) else Pv (i + 1) H3) (hd : ∀ H, Pv n H → Qd H) :
    ∃ W : Nat → Nat → Hp → Prop, (∃ m, W 0 m H0) ∧ ∀ i m H, W i m H →
      (J.stop i H ∧ Qd H) ∨ (J.go i H ∧ ∃ Nx : Hp → Prop, (∀ H', Nx H' → ∃ m', m' < m ∧ W (i + 1) m' H') ∧ ∀ x H', J.yld i H x H' → g x (wipe σ vs) H' fun σ2 H2 => wipe σ2 vs = wipe σ vs ∧ tt σ2 H2 fun b H3 =>
        if b = true then te σ2 H3 fun y H4 => ∃ acc, H4 D = some (.lst acc) ∧ acc.length < sizeLine ∧ Nx (upd H4 D (.lst (acc ++ [y]))) else Nx H3) := by
  refine ⟨fun i m H => m = n - i ∧ i ≤ n ∧ Pv i H, ⟨n, by simp, Nat.zero_le _, h0⟩, ?_⟩
  rintro i m H ⟨rfl, hi, p⟩
  have q := hG i H hi p
  by_cases hlt : i < n
  · refine .inr ⟨w.goes i H hlt q, Pv (i + 1), fun H' p' => ⟨n - (i + 1), by omega, rfl, hlt, p'⟩, fun x H' y => hs i x H H' hlt p (w.yields i H x H' hlt q y)⟩
  · have e : i = n := by omega
    subst e
    exact .inl ⟨w.stops H q, hd H p⟩
section
variable {K : Fg} {Φ : Cal} {G : Nat → Option D}
theorem flat_step {f : D → Store → Rs (List D)} {its : List D} {i : Nat} {d : D} {S Sf : Store} {zs : List D} (hd : its[i]? = some d) (h : flat f (its.drop i) S = .ok zs Sf) :
    ((f d S).bind fun ys1 S2 => (flat f (its.drop (i + 1)) S2).bind fun zs2 S3 => .ok (ys1 ++ zs2) S3) = .ok zs Sf := by
  have hi := (List.getElem?_eq_some_iff.mp hd).1
  have hx := (List.getElem?_eq_some_iff.mp hd).2
  rw [List.drop_eq_getElem_cons hi, hx] at h
  exact h
/-- what a block's turn leaves for the rest -/
def Rest (f : D → Store → Rs (List D)) (its : List D) (zs : List D) (Sf : Store) (r : Rs (List D)) : Prop := (r.bind fun ys1 S2 => (flat f its S2).bind fun zs2 S3 => .ok (ys1 ++ zs2) S3) = .ok zs Sf
theorem Rest.stuck {f : D → Store → Rs (List D)} {its zs : List D} {Sf : Store} : ¬ Rest f its zs Sf .stuck := fun h => nomatch h
theorem Rest.exc {f : D → Store → Rs (List D)} {its zs : List D} {Sf : Store} : ∀ c fs S, ¬ Rest f its zs Sf (.exc c fs S) := fun _ _ _ h => nomatch h
theorem Rest.ok {f : D → Store → Rs (List D)} {its zs ys : List D} {S Sf : Store} (h : Rest f its zs Sf (.ok ys S)) : ∃ zs2, flat f its S = .ok zs2 Sf ∧ zs = ys ++ zs2 := by
  unfold Rest at h
  simp only [Rs.bind_ok] at h
  cases e : flat f its S with
  | ok zs2 S3 => rw [e] at h; cases h; exact ⟨zs2, rfl, rfl⟩
  | exc => rw [e] at h; cases h
  | stuck => rw [e] at h; cases h
theorem vds_snoc {N : Addr → Prop} {μ : List Addr} {H : Hp} {vs : List V} {ds : List D} {y : V} {d : D} (h : VDs K N μ H vs ds) (q : VD K N μ H y d) : VDs K N μ H (vs ++ [y]) (ds ++ [d]) := h.append (.cons q .nil)
theorem sem_lc {w : List Nat} {g : TG} {gg : Tg} {wi : TI} {it : Itr} {tt : TT} {te : TE} {c e : Ex} (hi : SemI K Φ G wi it) (hg : SemG K g gg) (hw : ∀ i ∈ gg.slots, i ∈ w) (hc : SemT K Φ G tt c) (he : SemE K Φ G te e) :
    SemF K Φ G (tLc wi g tt te w) (.lc w gg it c e) := fun Z μ ω H σ v S R Q q => by
  simp only [evE] at q
  generalize hf : (fun (x : D) (S2 : Store) => match gg.set x (wipeE v w) with
      | some v' => (evE Φ G c v' S2).bind fun b S3 => ifD b ((evE Φ G e v' S3).bind fun y S4 => Rs.ok [y] S4) (.ok [] S3)
      | none => .stuck) = f at q
  refine hi Z μ ω H σ v S R _ ?_
  cases ei : evI Φ G it v S with
  | exc => rw [ei] at q; exact q.elim
  | stuck => rw [ei] at q; exact q.elim
  | ok its S1 =>
    rw [ei] at q
    simp only [Rs.bind_ok] at q
    cases ef : flat f its S1 with
    | exc => rw [ef] at q; exact q.elim
    | stuck => rw [ef] at q; exact q.elim
    | ok ys Sf =>
      rw [ef] at q
      simp only [Rs.quiet_ok, Rs.bind_ok] at q
      intro J H1 μ1 s1 R1 iok D0 hD
      obtain ⟨hlen, Gd, Y, wk, hG, hY⟩ := iok
      refine lc_it wk (fun i H' => ∃ μ' S' acc vs zs, Step μ1 H1 μ' H' ∧ Rel K (ZP Z D0) μ' ω H' σ v S' ∧ H' D0 = some (.lst vs) ∧ VDs K (NN (ZP Z D0) μ' ω) μ' H' vs acc ∧ vs.length ≤ i ∧ flat f (its.drop i) S' = .ok zs Sf ∧ ys = acc ++ zs) ?_ ?_ ?_ ?_
      · exact ⟨μ1, S1, [], [], ys, .new hD, R1.shield hD, upd_same, .nil, Nat.le_refl _, ef, rfl⟩
      · rintro i H' _ ⟨μ', S', acc, vs, zs, s', R', _⟩
        exact hG _ μ' H' (s'.xtD (Z := Z) (Z' := ZP Z D0) (fun a h => R1.mu h) hD fun a h => h)
      · rintro i x H' H2 hlt ⟨μ', S', acc, vs, zs, s', R', hD', d', hl, ef', ey⟩ hy
        obtain ⟨kp, d, hd, xd⟩ := hY i (NN (ZP Z D0) μ' ω) μ' H' x H2 hlt (s'.xtD (fun a h => R1.mu h) hD fun a h => h) hy
        have R2 := R'.grow kp
        have st := flat_step hd ef'
        change Rest f (its.drop (i + 1)) zs Sf (f d S') at st
        rw [← hf] at st
        dsimp only at st
        cases e2 : gg.set d (wipeE v w) with
        | none => rw [e2] at st; exact absurd st Rest.stuck
        | some v2 =>
          rw [e2, hf] at st
          dsimp only at st
          refine hg _ μ' ω H2 (wipe σ w) (wipeE v w) S' x d v2 (R2.wipe w) xd e2 _ fun σ2 R3 hw2 => ⟨by rw [hw2 w hw, wipe_wipe], ?_⟩
          have s2 : Step μ' H' μ' H2 := .of kp
          refine hc.bind (P := Rest f (its.drop (i + 1)) zs Sf) (a := fun S3 => (evE Φ G e v2 S3).bind fun y S4 => .ok [y] S4) (b := fun S3 => .ok [] S3) R3 st Rest.stuck Rest.exc fun b H3 μ3 S3 s3 R4 st2 => ?_
          have s03 : Step μ1 H1 μ3 H3 := (s'.trans s2 R'.live).trans s3 R2.live
          have hD3 : H3 D0 = some (.lst vs) := s3.keep D0 _ (R3.zap D0 (.inr rfl)).1 (kp _ _ hD')
          have x3 := (R'.xt s2).trans (R2.xt s3)
          have R5 := R2.back s3 R4
          cases b with
          | false =>
            obtain ⟨zs2, e4, e5⟩ := Rest.ok (show Rest f (its.drop (i + 1)) zs Sf (.ok [] S3) from st2)
            exact ⟨μ3, S3, acc, vs, zs2, s03, R5, hD3, d'.mono x3, by omega, e4, by rw [ey, e5]; rfl⟩
          | true =>
            show te σ2 H3 _
            refine he.bind (P := Rest f (its.drop (i + 1)) zs Sf) R4 st2 Rest.stuck Rest.exc fun y H4 μ4 d4 S4 s4 R6 x6 st3 => ?_
            obtain ⟨zs2, e4, e5⟩ := Rest.ok st3
            have hD4 : H4 D0 = some (.lst vs) := s4.keep D0 _ (R4.zap D0 (.inr rfl)).1 hD3
            have x4 := x3.trans (R5.xt s4)
            have R7 := R5.back s4 R6
            have xp : Xt K (NN (ZP Z D0) μ4 ω) (NN (ZP Z D0) μ4 ω) μ4 μ4 H4 (upd H4 D0 (.lst (vs ++ [y]))) := .put (.inr (.inr (.inr rfl))) hD4
            have s04 : Step μ1 H1 μ4 H4 := s03.trans s4 R4.live
            refine ⟨vs, hD4, by omega, μ4, S4, acc ++ [d4], vs ++ [y], zs2, s04.putN hD hD4, R7.put (.inr rfl) hD4, upd_same, vds_snoc ((d'.mono x4).mono xp) (x6.mono xp), by rw [List.length_append]; simp; omega, e4, by rw [ey, e5, List.append_assoc]⟩
      · rintro H' ⟨μ', S', acc, vs, zs, s', R', hD', d', hl, ef', ey⟩
        rw [List.drop_length] at ef'
        cases ef'
        rw [List.append_nil] at ey
        subst ey
        exact q.1 _ rfl D0 vs H' μ' (s1.trans s' R1.live) R' (step_none s1 R1 hD) hD' d'
theorem sem_lc2 {w w1 : List Nat} {g g1 : TG} {gg gg1 : Tg} {wi wi1 : TI} {it it1 : Itr} {tt tt1 : TT} {te : TE} {c c1 e : Ex} (hi : SemI K Φ G wi it) (hg : SemG K g gg) (hw : ∀ i ∈ gg.slots, i ∈ w) (hc : SemT K Φ G tt c)
    (hi1 : SemI K Φ G wi1 it1) (hg1 : SemG K g1 gg1) (hw1 : ∀ i ∈ gg1.slots, i ∈ w1) (hc1 : SemT K Φ G tt1 c1) (he : SemE K Φ G te e) :
    SemF K Φ G (tLc2 wi g tt wi1 g1 tt1 te w w1) (.lc2 w w1 gg it c gg1 it1 c1 e) := fun Z μ ω H σ v S R Q q => by
  simp only [evE] at q
  generalize hf : (fun (x : D) (S2 : Store) => match gg.set x (wipeE v w) with
      | some v' => (evE Φ G c v' S2).bind fun b S3 => ifD b ((evI Φ G it1 v' S3).bind fun xs1 S4 => flat (fun x1 S5 => match gg1.set x1 (wipeE v' w1) with
          | some v2 => (evE Φ G c1 v2 S5).bind fun b1 S6 => ifD b1 ((evE Φ G e v2 S6).bind fun y S7 => Rs.ok [y] S7) (.ok [] S6)
          | none => .stuck) xs1 S4) (.ok [] S3)
      | none => .stuck) = f at q
  refine hi Z μ ω H σ v S R _ ?_
  cases ei : evI Φ G it v S with
  | exc => rw [ei] at q; exact q.elim
  | stuck => rw [ei] at q; exact q.elim
  | ok its S1 =>
    rw [ei] at q
    simp only [Rs.bind_ok] at q
    cases ef : flat f its S1 with
    | exc => rw [ef] at q; exact q.elim
    | stuck => rw [ef] at q; exact q.elim
    | ok ys Sf =>
      rw [ef] at q
      simp only [Rs.quiet_ok, Rs.bind_ok] at q
      by_cases hys : ys.length ≤ lim
      case neg => simp only [if_neg hys] at q; exact q.elim
      simp only [hys, if_true] at q
      intro J H1 μ1 s1 R1 iok D0 hD
      obtain ⟨hlen, Gd, Y, wk, hG, hY⟩ := iok
      -- the outer walk
      have outer := for_it (D := ⟨fun _ H' => Q (.ref D0) H', fun _ _ => True, fun _ _ => True, fun _ _ => True⟩) (σ := σ) (H := upd H1 D0 (.lst [])) (g := fun x σ0 H2 k => g x (wipe σ w) H2 fun σ2 H3 => wipe σ2 w = wipe σ w ∧ tt σ2 H3 fun b H4 =>
        if b = true then wi1 σ2 H4 fun J1 H5 => ∃ W1 : Nat → Nat → Hp → Prop, (∃ m, W1 0 m H5) ∧ ∀ j n H, W1 j n H →
          (J1.stop j H ∧ k σ0 H) ∨ (J1.go j H ∧ ∃ Nx1 : Hp → Prop, (∀ H', Nx1 H' → ∃ k', k' < n ∧ W1 (j + 1) k' H') ∧ ∀ x H', J1.yld j H x H' → g1 x (wipe σ2 w1) H' fun σ3 H5 => wipe σ3 w1 = wipe σ2 w1 ∧ tt1 σ3 H5 fun b H6 =>
            if b = true then te σ3 H6 fun y H7 => ∃ acc, H7 D0 = some (.lst acc) ∧ acc.length < sizeLine ∧ Nx1 (upd H7 D0 (.lst (acc ++ [y]))) else Nx1 H6)
        else k σ0 H4) (tb := tNext) wk
        (fun i σ0 H' => σ = σ0 ∧ ∃ μ' S' acc vs zs, Step μ1 H1 μ' H' ∧ Rel K (ZP Z D0) μ' ω H' σ v S' ∧ H' D0 = some (.lst vs) ∧ VDs K (NN (ZP Z D0) μ' ω) μ' H' vs acc ∧ flat f (its.drop i) S' = .ok zs Sf ∧ ys = acc ++ zs) ?_ ?_ ?_ ?_
      · obtain ⟨W, ⟨m, w0⟩, h⟩ := outer
        refine ⟨fun i n H => W i n σ H, ⟨m, w0⟩, fun i n H hw => ?_⟩
        rcases h i n σ H hw with ⟨h1, h2⟩ | ⟨h1, N, h2, h3⟩
        · exact .inl ⟨h1, h2⟩
        · exact .inr ⟨h1, fun H' => N σ H', fun H' hn => h2 σ H' hn, fun x H' hy => h3 x H' hy⟩
      · exact ⟨rfl, μ1, S1, [], [], ys, .new hD, R1.shield hD, upd_same, .nil, ef, rfl⟩
      · rintro i _ H' _ ⟨_, μ', S', acc, vs, zs, s', R', _⟩
        exact hG _ μ' H' (s'.xtD (Z := Z) (Z' := ZP Z D0) (fun a h => R1.mu h) hD fun a h => h)
      · rintro i x _ H' H2 hlt ⟨rfl, μ', S', acc, vs, zs, s', R', hD', d', ef', ey⟩ hy
        obtain ⟨kp, d, hd, xd⟩ := hY i (NN (ZP Z D0) μ' ω) μ' H' x H2 hlt (s'.xtD (fun a h => R1.mu h) hD fun a h => h) hy
        have R2 := R'.grow kp
        have st := flat_step hd ef'
        change Rest f (its.drop (i + 1)) zs Sf (f d S') at st
        rw [← hf] at st
        dsimp only at st
        cases e2 : gg.set d (wipeE v w) with
        | none => rw [e2] at st; exact absurd st Rest.stuck
        | some v2 =>
          rw [e2, hf] at st
          dsimp only at st
          generalize hf1 : (fun (x1 : D) (S5 : Store) => match gg1.set x1 (wipeE v2 w1) with
            | some v2 => (evE Φ G c1 v2 S5).bind fun b1 S6 => ifD b1 ((evE Φ G e v2 S6).bind fun y S7 => Rs.ok [y] S7) (.ok [] S6)
            | none => .stuck) = f1 at st
          refine hg _ μ' ω H2 (wipe σ w) (wipeE v w) S' x d v2 (R2.wipe w) xd e2 _ fun σ2 R3 hw2 => ⟨by rw [hw2 w hw, wipe_wipe], ?_⟩
          have s2 : Step μ' H' μ' H2 := .of kp
          refine hc.bind (P := Rest f (its.drop (i + 1)) zs Sf) (a := fun S3 => (evI Φ G it1 v2 S3).bind fun xs1 S4 => flat f1 xs1 S4) (b := fun S3 => .ok [] S3) R3 st Rest.stuck Rest.exc fun b H3 μ3 S3 s3 R4 st2 => ?_
          have s03 : Step μ1 H1 μ3 H3 := (s'.trans s2 R'.live).trans s3 R2.live
          have hD3 : H3 D0 = some (.lst vs) := s3.keep D0 _ (R3.zap D0 (.inr rfl)).1 (kp _ _ hD')
          have x3 := (R'.xt s2).trans (R2.xt s3)
          have R5 := R2.back s3 R4
          cases b with
          | false =>
            obtain ⟨zs2, e4, e5⟩ := Rest.ok (show Rest f (its.drop (i + 1)) zs Sf (.ok [] S3) from st2)
            exact ⟨rfl, μ3, S3, acc, vs, zs2, s03, R5, hD3, d'.mono x3, e4, by rw [ey, e5]; rfl⟩
          | true =>
            show wi1 σ2 H3 _
            replace st2 : Rest f (its.drop (i + 1)) zs Sf ((evI Φ G it1 v2 S3).bind fun xs1 S4 => flat f1 xs1 S4) := st2
            refine hi1 _ μ3 ω H3 σ2 v2 S3 R4 _ ?_
            cases ei1 : evI Φ G it1 v2 S3 with
            | exc => rw [ei1] at st2; exact absurd st2 (Rest.exc _ _ _)
            | stuck => rw [ei1] at st2; exact absurd st2 Rest.stuck
            | ok its1 S4 =>
              rw [ei1] at st2
              simp only [Rs.bind_ok] at st2
              cases ef1 : flat f1 its1 S4 with
              | exc => rw [ef1] at st2; exact absurd st2 (Rest.exc _ _ _)
              | stuck => rw [ef1] at st2; exact absurd st2 Rest.stuck
              | ok ys1 S5 =>
                rw [ef1] at st2
                obtain ⟨zs2, e4, e5⟩ := Rest.ok st2
                intro J1 H4 μ4 s4 R6 iok1
                obtain ⟨_, Gd1, Y1, wk1, hG1, hY1⟩ := iok1
                have hD4 : H4 D0 = some (.lst vs) := s4.keep D0 _ (R4.zap D0 (.inr rfl)).1 hD3
                have x4 := x3.trans (R5.xt s4)
                have R7 := R5.back s4 R6
                have s04 : Step μ1 H1 μ4 H4 := s03.trans s4 R4.live
                refine lc_itG wk1 (fun j H' => ∃ μ' S' acc1 vs zs1, Step μ1 H1 μ' H' ∧ Xt K (NN (ZP Z D0) μ4 ω) (NN (ZP Z D0) μ' ω) μ4 μ' H4 H' ∧ Rel K (ZP Z D0) μ' ω H' σ v S' ∧ Rel K (ZP Z D0) μ' ω H' σ2 v2 S' ∧ H' D0 = some (.lst vs) ∧
                  VDs K (NN (ZP Z D0) μ' ω) μ' H' vs (acc ++ acc1) ∧ flat f1 (its1.drop j) S' = .ok zs1 S5 ∧ ys1 = acc1 ++ zs1) ?_ ?_ ?_ ?_
                · exact ⟨μ4, S4, [], vs, ys1, s04, .refl, R7, R6, hD4, by rw [List.append_nil]; exact d'.mono x4, ef1, rfl⟩
                · rintro j H' _ ⟨μ', S', acc1, vs, zs1, _, x', _⟩
                  exact hG1 _ μ' H' x'
                · rintro j x1 H5 H6 hlt1 ⟨μ5, S6, acc1, vs5, zs1, s05, x5, R8, R9, hD5, d5, ef5, ey1⟩ hy1
                  obtain ⟨kp1, d1, hd1, xd1⟩ := hY1 j _ μ5 H5 x1 H6 hlt1 x5 hy1
                  have R10 := R9.grow kp1
                  have R8' := R8.grow kp1
                  have st3 := flat_step hd1 ef5
                  change Rest f1 (its1.drop (j + 1)) zs1 S5 (f1 d1 S6) at st3
                  rw [← hf1] at st3
                  dsimp only at st3
                  have s6 : Step μ5 H5 μ5 H6 := .of kp1
                  cases e6 : gg1.set d1 (wipeE v2 w1) with
                  | none => rw [e6] at st3; exact absurd st3 Rest.stuck
                  | some v3 =>
                    rw [e6, hf1] at st3
                    dsimp only at st3
                    refine hg1 _ μ5 ω H6 (wipe σ2 w1) (wipeE v2 w1) S6 x1 d1 v3 (R10.wipe w1) xd1 e6 _ fun σ3 R11 hw3 => ⟨by rw [hw3 w1 hw1, wipe_wipe], ?_⟩
                    refine hc1.bind (P := Rest f1 (its1.drop (j + 1)) zs1 S5) (a := fun S3 => (evE Φ G e v3 S3).bind fun y S4 => .ok [y] S4) (b := fun S3 => .ok [] S3) R11 st3 Rest.stuck Rest.exc fun b H7 μ7 S7 s7 R12 st4 => ?_
                    have s07 : Step μ1 H1 μ7 H7 := (s05.trans s6 R9.live).trans s7 R10.live
                    have hD7 : H7 D0 = some (.lst vs5) := s7.keep D0 _ (R11.zap D0 (.inr rfl)).1 (kp1 _ _ hD5)
                    have x7 := (R9.xt s6).trans (R10.xt s7)
                    have R13 := R8'.back s7 R12
                    have R14 := R10.back s7 R12
                    cases b with
                    | false =>
                      obtain ⟨zs3, e7, e8⟩ := Rest.ok (show Rest f1 (its1.drop (j + 1)) zs1 S5 (.ok [] S7) from st4)
                      exact ⟨μ7, S7, acc1, vs5, zs3, s07, x5.trans x7, R13, R14, hD7, d5.mono x7, e7, by rw [ey1, e8]; rfl⟩
                    | true =>
                      show te σ3 H7 _
                      refine he.bind (P := Rest f1 (its1.drop (j + 1)) zs1 S5) R12 st4 Rest.stuck Rest.exc fun y H8 μ8 d8 S8 s8 R15 x8 st5 => ?_
                      obtain ⟨zs3, e7, e8⟩ := Rest.ok st5
                      have hD8 : H8 D0 = some (.lst vs5) := s8.keep D0 _ (R12.zap D0 (.inr rfl)).1 hD7
                      have x9 := x7.trans (R13.xt s8)
                      have R16 := R13.back s8 R15
                      have R17 := R14.back s8 R15
                      have xp : Xt K (NN (ZP Z D0) μ8 ω) (NN (ZP Z D0) μ8 ω) μ8 μ8 H8 (upd H8 D0 (.lst (vs5 ++ [y]))) := .put (.inr (.inr (.inr rfl))) hD8
                      have s08 : Step μ1 H1 μ8 H8 := s07.trans s8 R12.live
                      have hl5 : vs5.length < sizeLine := by
                        have h1 := d5.length
                        have h2 : ys.length = acc.length + (acc1.length + (1 + zs3.length) + zs2.length) := by
                          rw [ey, e5, ey1, e8]
                          simp only [List.length_append, List.length_cons, List.length_nil]
                        rw [h1, List.length_append]
                        exact lim_lt (n := acc.length + acc1.length) (by omega)
                      refine ⟨vs5, hD8, hl5, μ8, S8, acc1 ++ [d8], vs5 ++ [y], zs3, s08.putN hD hD8, (x5.trans x9).trans xp, R16.put (.inr rfl) hD8, R17.put (.inr rfl) hD8, upd_same, ?_, e7, by rw [ey1, e8, List.append_assoc]⟩
                      · rw [← List.append_assoc]
                        exact vds_snoc ((d5.mono x9).mono xp) (x8.mono xp)
                · rintro H' ⟨μ', S', acc1, vs', zs1, s', _, R', _, hD', d', ef', ey1⟩
                  rw [List.drop_length] at ef'
                  cases ef'
                  rw [List.append_nil] at ey1
                  subst ey1
                  exact ⟨rfl, μ', S5, acc ++ ys1, vs', zs2, s', R', hD', d', e4, by rw [ey, e5, List.append_assoc]⟩
      · rintro _ H' ⟨_, μ', S', acc, vs, zs, s', R', hD', d', ef', ey⟩
        rw [List.drop_length] at ef'
        cases ef'
        rw [List.append_nil] at ey
        subst ey
        exact q.1 _ rfl D0 vs H' μ' (s1.trans s' R1.live) R' (step_none s1 R1 hD) hD' d'

/-! ### calls -/
/-- what a call of f is worth -/
def PostC (K : Fg) (Z : Addr → Prop) (μ : List Addr) (H : Hp) (fr : Bool) (r : Rs D) (Q : VK) : Prop := if fr = true then PostF K Z μ [] H [] [] r Q else Post K Z μ [] H [] [] r Q
def spOf (K : Fg) (Φ : Cal) (f n : Nat) (fr : Bool) : Sp := fun vs H Q _ => vs.length = n ∧ ∃ Z μ S ds, Rel K Z μ [] H [] [] S ∧ VDs K (NN Z μ []) μ H vs ds ∧ PostC K Z μ H fr (Φ f ds S) Q
section
variable {Z Z' : Addr → Prop} {μ μ' μ2 : List Addr} {ω : List (Option Addr)} {H H' H2 : Hp} {σ σ' : L2.St} {v v' : Fm} {S S' : Store}
def Zc (Z : Addr → Prop) (ω : List (Option Addr)) (a : Addr) : Prop := Z a ∨ some a ∈ ω
theorem nn_c (a : Addr) : NN (Zc Z ω) μ [] a ↔ NN Z μ ω a := by
  unfold NN Zc
  simp only [List.not_mem_nil, false_or]
  constructor
  · rintro (h | h | h)
    · exact .inl h
    · exact .inr (.inr h)
    · exact .inr (.inl h)
  · rintro (h | h | h)
    · exact .inl h
    · exact .inr (.inr h)
    · exact .inr (.inl h)
/-- the store alone, for a callee -/
theorem Rel.toC (r : Rel K Z μ ω H σ v S) : Rel K (Zc Z ω) μ [] H [] [] S := by
  have x : Xt K (NN Z μ ω) (NN (Zc Z ω) μ []) μ μ H H := .weak fun a h => (nn_c a).mp h
  refine ⟨rfl, fun i d e => by simp at e, fun i xs e => by simp at e, fun n ob e => ?_, r.mlen, r.nd, fun i j a e => by simp at e, fun a e => by simp at e, fun a ha => ?_, rfl, r.tab⟩
  · obtain ⟨a, e1, q⟩ := r.sto n ob e
    refine ⟨a, e1, ?_⟩
    cases ob with
    | lst xs =>
      obtain ⟨ws, e2, q⟩ := q
      exact ⟨ws, e2, q.mono x⟩
  · rcases ha with ha | ha
    · exact r.zap a ha
    · obtain ⟨h1, h2, ws, e⟩ := r.oap a ha
      exact ⟨h1, by rw [e]; simp⟩
theorem Rel.ofC (r : Rel K Z μ ω H σ v S) (s : Step μ H μ' H') (r2 : Rel K (Zc Z ω) μ' [] H' [] [] S') : Rel K Z μ' ω H' σ v S' := by
  have x := r.xt s
  have x2 : Xt K (NN (Zc Z ω) μ' []) (NN Z μ' ω) μ' μ' H' H' := .weak fun a h => (nn_c a).mpr h
  refine ⟨r.len, fun i d e => ?_, fun i xs e => ?_, fun n ob e => ?_, r2.mlen, r2.nd, r.oinj, fun a ha => ?_, fun a ha => r2.zap a (.inl ha), r.olen, r2.tab⟩
  · obtain ⟨y, e1, q⟩ := r.dat i d e
    exact ⟨y, e1, q.mono x⟩
  · obtain ⟨a, ws, e1, e2, e3, q⟩ := r.own i xs e
    exact ⟨a, ws, e1, e2, s.keep a _ (r.oap a (List.mem_of_getElem? e1)).1 e3, q.mono x⟩
  · obtain ⟨a, e1, q⟩ := r2.sto n ob e
    refine ⟨a, e1, ?_⟩
    cases ob with
    | lst xs =>
      obtain ⟨ws, e2, q⟩ := q
      exact ⟨ws, e2, q.mono x2⟩
  · obtain ⟨h1, h2, ws, e⟩ := r.oap a ha
    exact ⟨(r2.zap a (.inr ha)).1, h2, ws, s.keep a _ h1 e⟩
theorem nn_cp {p : Addr} (a : Addr) : NN (ZP (Zc Z ω) p) μ [] a ↔ NN (ZP Z p) μ ω a := by
  unfold NN ZP Zc
  simp only [List.not_mem_nil, false_or]
  constructor
  · rintro (h | (h | h) | h)
    · exact .inl h
    · exact .inr (.inr (.inl h))
    · exact .inr (.inl h)
    · exact .inr (.inr (.inr h))
  · rintro (h | h | h | h)
    · exact .inl h
    · exact .inr (.inl (.inr h))
    · exact .inr (.inl (.inl h))
    · exact .inr (.inr h)
theorem Rel.ofCp (r : Rel K Z μ ω H σ v S) (s : Step μ H μ' H') {p : Addr} (hp : H p = Option.none) (r2 : Rel K (ZP (Zc Z ω) p) μ' [] H' [] [] S') : Rel K (ZP Z p) μ' ω H' σ v S' := by
  have x : Xt K (NN Z μ ω) (NN (ZP Z p) μ' ω) μ μ' H H' := s.xtD (fun _ h => r.mu h) hp fun _ h => h
  have x2 : Xt K (NN (ZP (Zc Z ω) p) μ' []) (NN (ZP Z p) μ' ω) μ' μ' H' H' := .weak fun a h => (nn_cp a).mpr h
  refine ⟨r.len, fun i d e => ?_, fun i xs e => ?_, fun n ob e => ?_, r2.mlen, r2.nd, r.oinj, fun a ha => ?_, fun a ha => ?_, r.olen, r2.tab⟩
  · obtain ⟨y, e1, q⟩ := r.dat i d e
    exact ⟨y, e1, q.mono x⟩
  · obtain ⟨a, ws, e1, e2, e3, q⟩ := r.own i xs e
    exact ⟨a, ws, e1, e2, s.keep a _ (r.oap a (List.mem_of_getElem? e1)).1 e3, q.mono x⟩
  · obtain ⟨a, e1, q⟩ := r2.sto n ob e
    refine ⟨a, e1, ?_⟩
    cases ob with
    | lst xs =>
      obtain ⟨ws, e2, q⟩ := q
      exact ⟨ws, e2, q.mono x2⟩
  · obtain ⟨h1, h2, ws, e⟩ := r.oap a ha
    refine ⟨(r2.zap a (.inl (.inr ha))).1, ?_, ws, s.keep a _ h1 e⟩
    rintro (z | z)
    · exact h2 z
    · rw [z, hp] at e; cases e
  · rcases ha with ha | ha
    · exact r2.zap a (.inl (.inl ha))
    · exact r2.zap a (.inr ha)
end
theorem sem_call {f n : Nat} {t : TA} {es : Exs} {E : XK} (hs : SemA K Φ G t es) (hl : es.len = n) : SemE K Φ G (tCall (spOf K Φ f n false) [] E t) (.call f es) := fun Z μ ω H σ v S R Q q => by
  simp only [evE] at q
  cases e : evEs Φ G es v S with
  | exc => rw [e] at q; exact q.elim
  | stuck => rw [e] at q; exact q.elim
  | ok xs S1 =>
    refine hs Z μ ω H σ v S R _ ?_
    rw [e] at q ⊢
    intro ys H1 μ1 s1 R1 x1
    simp only [Rs.bind_ok] at q
    have x : Xt K (NN Z μ1 ω) (NN (Zc Z ω) μ1 []) μ1 μ1 H1 H1 := .weak fun a h => (nn_c a).mp h
    refine ⟨by rw [List.append_nil, x1.length, evEs_len es v S xs S1 e]; exact hl, Zc Z ω, μ1, S1, xs, R1.toC, by rw [List.append_nil]; exact x1.mono x, ?_⟩
    show Post K (Zc Z ω) μ1 [] H1 [] [] (Φ f xs S1) Q
    have q := Post.re q s1 R1
    cases e2 : Φ f xs S1 with
    | exc => rw [e2] at q; exact q.elim
    | stuck => rw [e2] at q; exact q.elim
    | ok d S2 =>
      rw [e2] at q
      exact fun y H2 μ2 s2 R2 x2 => q y H2 μ2 s2 (R1.ofC s2 R2) (x2.mono (.weak fun a h => (nn_c a).mpr h))
theorem sem_callF {f n : Nat} {t : TA} {es : Exs} {E : XK} (hs : SemA K Φ G t es) (hl : es.len = n) : SemF K Φ G (tCall (spOf K Φ f n true) [] E t) (.call f es) := fun Z μ ω H σ v S R Q q => by
  simp only [evE] at q
  cases e : evEs Φ G es v S with
  | exc => rw [e] at q; exact q.elim
  | stuck => rw [e] at q; exact q.elim
  | ok xs S1 =>
    refine hs Z μ ω H σ v S R _ ?_
    rw [e] at q ⊢
    intro ys H1 μ1 s1 R1 x1
    simp only [Rs.bind_ok] at q
    have x : Xt K (NN Z μ1 ω) (NN (Zc Z ω) μ1 []) μ1 μ1 H1 H1 := .weak fun a h => (nn_c a).mp h
    refine ⟨by rw [List.append_nil, x1.length, evEs_len es v S xs S1 e]; exact hl, Zc Z ω, μ1, S1, xs, R1.toC, by rw [List.append_nil]; exact x1.mono x, ?_⟩
    show PostF K (Zc Z ω) μ1 [] H1 [] [] (Φ f xs S1) Q
    have q := PostF.re q s1 R1
    cases e2 : Φ f xs S1 with
    | exc => rw [e2] at q; exact q.elim
    | stuck => rw [e2] at q; exact q.elim
    | ok d S2 =>
      rw [e2] at q
      exact ⟨fun zs ez p vs H2 μ2 s2 R2 n1 h3 x2 => q.1 zs ez p vs H2 μ2 s2 (R1.ofCp s2 n1 R2) n1 h3 (x2.mono (.weak fun a h => (nn_cp a).mpr h)), fun ne y H2 μ2 s2 R2 x2 => q.2 ne y H2 μ2 s2 (R1.ofC s2 R2) (x2.mono (.weak fun a h => (nn_c a).mpr h))⟩
end
end Q
/-! Q6: statements. -/
namespace Q
open PySem L2 PySem.Spec PyProof.Rows
variable [TC]
structure SStep (μ : List Addr) (ω : List (Option Addr)) (H : Hp) (μ' : List Addr) (ω' : List (Option Addr)) (H' : Hp) : Prop where
  keepN : ∀ a u, a ∉ μ → some a ∉ ω → NT u → H a = some u → H' a = some u
  pre : ∃ more, μ' = μ ++ more ∧ ∀ a ∈ more, H a = none
  own : ∀ a, some a ∈ ω' → some a ∈ ω ∨ H a = none
  live : ∀ a, H' a = none → H a = none
  tab : TbKeep H H'
theorem SStep.keep {μ μ' : List Addr} {ω ω' : List (Option Addr)} {H H' : Hp} (s : SStep μ ω H μ' ω' H') (a : Addr) (u : HO) (h : a ∉ μ) (h2 : some a ∉ ω) (e : H a = some u) (n : NT u := by exact fun _ e => nomatch e) : H' a = some u := s.keepN a u h h2 n e
theorem nodup_at {α : Type} {l : List α} (h : l.Nodup) {i j : Nat} {a : α} (h1 : l[i]? = some a) (h2 : l[j]? = some a) : i = j := by
  obtain ⟨q1, e1⟩ := List.getElem?_eq_some_iff.mp h1
  obtain ⟨q2, e2⟩ := List.getElem?_eq_some_iff.mp h2
  exact (List.getElem_inj h).mp (e1.trans e2.symm)
section
variable {p : Addr} {K : Fg} {Z Z' : Addr → Prop} {μ μ' μ2 : List Addr} {ω ω' ω2 : List (Option Addr)} {H H' H2 : Hp} {σ σ' : L2.St} {v v' : Fm} {S S' : Store} {Φ : Cal} {G : Nat → Option D}
theorem SStep.refl : SStep μ ω H μ ω H := ⟨fun _ _ _ _ _ h => h, ⟨[], by simp, fun _ h => by simp at h⟩, fun _ h => .inl h, fun _ h => h, .refl⟩
theorem SStep.of (s : Step μ H μ' H') (r : Rel K Z μ' ω H' σ v S') : SStep μ ω H μ' ω H' := ⟨fun a u h _ n e => s.keepN a u h n e, s.pre, fun _ h => .inl h, s.live, s.tab⟩
theorem SStep.notM (s : SStep μ ω H μ' ω' H') {a : Addr} {u : HO} (h : a ∉ μ) (e : H a = some u) : a ∉ μ' := by
  obtain ⟨m, e1, hm⟩ := s.pre
  rw [e1, List.mem_append]
  rintro (z | z)
  · exact h z
  · rw [hm a z] at e; cases e
theorem SStep.notO (s : SStep μ ω H μ' ω' H') {a : Addr} {u : HO} (h : some a ∉ ω) (e : H a = some u) : some a ∉ ω' := fun z => by
  rcases s.own a z with q | q
  · exact h q
  · rw [q] at e; cases e
theorem SStep.trans (a : SStep μ ω H μ' ω' H') (b : SStep μ' ω' H' μ2 ω2 H2) : SStep μ ω H μ2 ω2 H2 := by
  obtain ⟨m1, e1, h1⟩ := a.pre
  obtain ⟨m2, e2, h2⟩ := b.pre
  refine ⟨fun x u hx ho n e => b.keepN x u (a.notM hx e) (a.notO ho e) n (a.keepN x u hx ho n e), ⟨m1 ++ m2, by rw [e2, e1, List.append_assoc], fun x hx => ?_⟩, fun x hx => ?_, fun x h => a.live x (b.live x h), a.tab.trans b.tab⟩
  · rcases List.mem_append.mp hx with z | z
    · exact h1 x z
    · exact a.live x (h2 x z)
  · rcases b.own x hx with q | q
    · exact a.own x q
    · exact .inr (a.live x q)
theorem SStep.xt (s : SStep μ ω H μ' ω' H') (r : Rel K Z μ ω H σ v S) : Xt K (NN Z μ ω) (NN Z μ' ω') μ μ' H H' := by
  have big : ∀ a u, H a = some u → NT u → (∀ vs, u ≠ .lst vs) → H' a = some u := fun a u e hnt hne => by
    refine s.keepN a u (fun z => ?_) (fun z => ?_) hnt e
    · obtain ⟨vs, q⟩ := r.mu z
      rw [e] at q; cases q; exact hne vs rfl
    · obtain ⟨_, _, vs, q⟩ := r.oap a z
      rw [e] at q; cases q; exact hne vs rfl
  refine ⟨fun a vs h => ?_, fun a vs h => ?_, fun n a h => ?_⟩
  · rcases h with (h | ⟨o, h⟩) | h
    · exact .inl (.inl (big _ _ h (fun _ e => nomatch e) fun _ e => nomatch e))
    · exact .inl (.inr ⟨o, big _ _ h (fun _ e => nomatch e) fun _ e => nomatch e⟩)
    · exact .inr h
  · rcases h with ⟨h, hn⟩ | h
    · have h1 : a ∉ μ := fun z => hn (.inl z)
      have h2 : some a ∉ ω := fun z => hn (.inr (.inl z))
      have key : ∀ u, NT u → H a = some u → H' a = some u ∧ ¬ NN Z μ' ω' a := fun u hnt e => by
        refine ⟨s.keepN a u h1 h2 hnt e, ?_⟩
        rintro (z | z | z)
        · exact s.notM h1 e z
        · exact s.notO h2 e z
        · exact hn (.inr (.inr z))
      rcases h with h | ⟨o, h⟩
      · have kk := key (.lst vs) (fun _ e => nomatch e) h
        exact .inl ⟨.inl kk.1, kk.2⟩
      · have kk := key (.frz o (.lst vs)) (fun _ e => nomatch e) h
        exact .inl ⟨.inr ⟨o, kk.1⟩, kk.2⟩
    · exact .inr h
  · obtain ⟨m, e, _⟩ := s.pre
    rw [e, List.getElem?_append_left (List.getElem?_eq_some_iff.mp h).1]
    exact h

/-! ### what a statement means -/
/-- an answer of the def -/
def RetP (K : Fg) (Z : Addr → Prop) (fr : Bool) (μ : List Addr) (ω : List (Option Addr)) (H : Hp) (d : D) (S' : Store) (Q : VK) : Prop :=
  if fr = true then (∀ xs, d = .lst xs → ∀ p vs H' μ', SStep μ ω H μ' [] H' → Rel K (ZP Z p) μ' [] H' [] [] S' → (some p ∈ ω ∨ H p = none) → H' p = some (.lst vs) → VDs K (NN (ZP Z p) μ' []) μ' H' vs xs → Q (.ref p) H') ∧
      ((∀ xs, d ≠ .lst xs) → ∀ y H' μ', SStep μ ω H μ' [] H' → Rel K Z μ' [] H' [] [] S' → VD K (NN Z μ' []) μ' H' y d → Q y H')
  else ∀ y H' μ', SStep μ ω H μ' [] H' → Rel K Z μ' [] H' [] [] S' → VD K (NN Z μ' []) μ' H' y d → Q y H'
def PostS (K : Fg) (Z : Addr → Prop) (fr : Bool) (μ : List Addr) (ω : List (Option Addr)) (H : Hp) (r : Rs Fl) (D : Ends) : Prop := match r with
  | .ok (.nx v') S' => ∀ σ' H' μ' ω', SStep μ ω H μ' ω' H' → Rel K Z μ' ω' H' σ' v' S' → D.nx σ' H'
  | .ok (.br v') S' => ∀ σ' H' μ' ω', SStep μ ω H μ' ω' H' → Rel K Z μ' ω' H' σ' v' S' → D.bk σ' H'
  | .ok (.ct v') S' => ∀ σ' H' μ' ω', SStep μ ω H μ' ω' H' → Rel K Z μ' ω' H' σ' v' S' → D.ct σ' H'
  | .ok (.rt d) S' => RetP K Z fr μ ω H d S' D.rt
  | _ => False
theorem RetP.re {fr : Bool} {d : D} {S' : Store} {Q : VK} (h : RetP K Z fr μ ω H d S' Q) (s : SStep μ ω H μ' ω' H') : RetP K Z fr μ' ω' H' d S' Q := by
  unfold RetP at *
  split
  · rename_i hf
    rw [if_pos hf] at h
    refine ⟨fun xs e p vs H2 μ2 s2 r2 hp => h.1 xs e p vs H2 μ2 (s.trans s2) r2 ?_, fun ne y H2 μ2 s2 => h.2 ne y H2 μ2 (s.trans s2)⟩
    rcases hp with hp | hp
    · exact s.own p hp
    · exact .inr (s.live p hp)
  · rename_i hf
    rw [if_neg hf] at h
    exact fun y H2 μ2 s2 => h y H2 μ2 (s.trans s2)
theorem PostS.re {fr : Bool} {r : Rs Fl} {D : Ends} (h : PostS K Z fr μ ω H r D) (s : SStep μ ω H μ' ω' H') : PostS K Z fr μ' ω' H' r D := by
  cases r with
  | ok f S2 =>
    cases f with
    | nx v2 => exact fun σ2 H2 μ2 ω2 s2 => h σ2 H2 μ2 ω2 (s.trans s2)
    | br v2 => exact fun σ2 H2 μ2 ω2 s2 => h σ2 H2 μ2 ω2 (s.trans s2)
    | ct v2 => exact fun σ2 H2 μ2 ω2 s2 => h σ2 H2 μ2 ω2 (s.trans s2)
    | rt d => exact RetP.re h s
  | exc => exact h
  | stuck => exact h
def SemS (K : Fg) (Φ : Cal) (G : Nat → Option D) (fr : Bool) (t : TS) (s : Sm) : Prop := ∀ Z μ ω H σ v S, Rel K Z μ ω H σ v S → ∀ D, PostS K Z fr μ ω H (evS Φ G s v S) D → t D σ H
def SemSs (K : Fg) (Φ : Cal) (G : Nat → Option D) (fr : Bool) (t : TS) (s : Sms) : Prop := ∀ Z μ ω H σ v S, Rel K Z μ ω H σ v S → ∀ D, PostS K Z fr μ ω H (evSs Φ G s v S) D → t D σ H

/-! ### frames and own lists -/
/-- a frame forgotten -/
theorem Rel.bare (r : Rel K Z μ ω H σ v S) : Rel K Z μ [] H [] [] S := by
  have x : Xt K (NN Z μ ω) (NN Z μ []) μ μ H H := .weak fun a h => h.imp id fun h => h.elim (fun z => absurd z (by simp)) .inr
  refine ⟨rfl, fun i d e => by simp at e, fun i xs e => by simp at e, fun n ob e => ?_, r.mlen, r.nd, fun i j a e => by simp at e, fun a e => by simp at e, r.zap, rfl, r.tab⟩
  obtain ⟨a, e1, q⟩ := r.sto n ob e
  refine ⟨a, e1, ?_⟩
  cases ob with
  | lst xs =>
    obtain ⟨ws, e2, q⟩ := q
    exact ⟨ws, e2, q.mono x⟩
theorem SStep.bare (s : SStep μ ω H μ' ω' H') : SStep μ ω H μ' [] H' := ⟨s.keepN, s.pre, fun a h => absurd h (by simp), s.live, s.tab⟩
/-- name = a new list -/
theorem Rel.setOwn (r : Rel K (ZP Z p) μ ω H σ v S) (hpw : some p ∉ ω) (hZ : ¬ Z p) {vs : List V} {xs : List D} (e : H p = some (.lst vs)) (d : VDs K (NN (ZP Z p) μ ω) μ H vs xs) {i : Nat} (hi : i < v.length) :
    Rel K Z μ (ω.set i (some p)) H (σ.set i (some (.ref p))) (v.set i (.own xs)) S := by
  have hio : i < ω.length := by rw [r.olen]; exact hi
  have sub : ∀ a, NN Z μ (ω.set i (some p)) a → NN (ZP Z p) μ ω a := by
    rintro a (z | z | z)
    · exact .inl z
    · rcases List.mem_or_eq_of_mem_set z with z | z
      · exact .inr (.inl z)
      · cases z; exact .inr (.inr (.inr rfl))
    · exact .inr (.inr (.inl z))
  have x : Xt K (NN (ZP Z p) μ ω) (NN Z μ (ω.set i (some p))) μ μ H H := .weak sub
  refine ⟨by rw [List.length_set, List.length_set]; exact r.len, fun j y q => ?_, fun j ys q => ?_, fun n ob q => ?_, r.mlen, r.nd, fun j k a h1 h2 => ?_, fun a ha => ?_, fun a ha => r.zap a (.inl ha), by rw [List.length_set, List.length_set]; exact r.olen, r.tab⟩
  · by_cases hj : i = j
    · subst hj
      rw [List.getElem?_set_self hi] at q; cases q
    · rw [List.getElem?_set_ne hj] at q ⊢
      obtain ⟨y, e1, z⟩ := r.dat j _ q
      exact ⟨y, e1, z.mono x⟩
  · by_cases hj : i = j
    · subst hj
      rw [List.getElem?_set_self hi] at q; cases q
      exact ⟨p, vs, List.getElem?_set_self hio, List.getElem?_set_self (by rw [r.len]; exact hi), e, d.mono x⟩
    · rw [List.getElem?_set_ne hj] at q
      obtain ⟨a, ws, e1, e2, e3, z⟩ := r.own j _ q
      exact ⟨a, ws, by rw [List.getElem?_set_ne hj]; exact e1, by rw [List.getElem?_set_ne hj]; exact e2, e3, z.mono x⟩
  · obtain ⟨a, e1, z⟩ := r.sto n ob q
    refine ⟨a, e1, ?_⟩
    cases ob with
    | lst ys =>
      obtain ⟨ws, e2, z⟩ := z
      exact ⟨ws, e2, z.mono x⟩
  · by_cases hj : i = j
    · subst hj
      rw [List.getElem?_set_self hio] at h1; cases h1
      by_cases hk : i = k
      · exact hk
      · rw [List.getElem?_set_ne hk] at h2
        exact absurd (List.mem_of_getElem? h2) hpw
    · rw [List.getElem?_set_ne hj] at h1
      by_cases hk : i = k
      · subst hk
        rw [List.getElem?_set_self hio] at h2; cases h2
        exact absurd (List.mem_of_getElem? h1) hpw
      · rw [List.getElem?_set_ne hk] at h2
        exact r.oinj j k a h1 h2
  · rcases List.mem_or_eq_of_mem_set ha with z | z
    · obtain ⟨h1, h2, h3⟩ := r.oap a z
      exact ⟨h1, fun q => h2 (.inl q), h3⟩
    · cases z
      exact ⟨(r.zap p (.inr rfl)).1, hZ, vs, e⟩
/-- an own list changed -/
theorem Rel.putOwn (r : Rel K Z μ ω H σ v S) {i : Nat} {a : Addr} {vs vs' : List V} {xs xs' : List D} (hv : v[i]? = some (.own xs)) (ho : ω[i]? = some (some a)) (hs : σ[i]? = some (some (.ref a))) (e : H a = some (.lst vs)) (d : VDs K (NN Z μ ω) μ H vs' xs') :
    Rel K Z μ ω (upd H a (.lst vs')) σ (v.set i (.own xs')) S ∧ SStep μ ω H μ ω (upd H a (.lst vs')) := by
  have hm : some a ∈ ω := List.mem_of_getElem? ho
  obtain ⟨hn1, hn2, _⟩ := r.oap a hm
  have x : Xt K (NN Z μ ω) (NN Z μ ω) μ μ H (upd H a (.lst vs')) := .put (.inr (.inl hm)) e
  have hi : i < v.length := (List.getElem?_eq_some_iff.mp hv).1
  have kp : ∀ b u, b ≠ a → H b = some u → upd H a (.lst vs') b = some u := fun b u hb q => by rw [upd_ne hb]; exact q
  have lv : ∀ b, upd H a (.lst vs') b = Option.none → H b = Option.none := fun b q => by
    by_cases hb : b = a
    · rw [hb, upd_same] at q; cases q
    · rw [upd_ne hb] at q; exact q
  refine ⟨⟨by rw [List.length_set]; exact r.len, fun j y q => ?_, fun j ys q => ?_, fun n ob q => ?_, r.mlen, r.nd, r.oinj, fun b hb => ?_, fun b hb => ⟨(r.zap b hb).1, fun q => (r.zap b hb).2 (lv b q)⟩, by rw [List.length_set]; exact r.olen, r.tabS (.updL e)⟩,
    ⟨fun b u _ hb _ q => kp b u (fun z => hb (z ▸ hm)) q, ⟨[], by simp, fun _ h => by simp at h⟩, fun _ h => .inl h, lv, .updL e⟩⟩
  · by_cases hj : i = j
    · subst hj
      rw [List.getElem?_set_self hi] at q; cases q
    · rw [List.getElem?_set_ne hj] at q
      obtain ⟨y, e1, z⟩ := r.dat j _ q
      exact ⟨y, e1, z.mono x⟩
  · by_cases hj : i = j
    · subst hj
      rw [List.getElem?_set_self hi] at q; cases q
      exact ⟨a, vs', ho, hs, upd_same, d.mono x⟩
    · rw [List.getElem?_set_ne hj] at q
      obtain ⟨b, ws, e1, e2, e3, z⟩ := r.own j _ q
      exact ⟨b, ws, e1, e2, kp b _ (fun w => hj (r.oinj i j a ho (w ▸ e1))) e3, z.mono x⟩
  · obtain ⟨b, e1, z⟩ := r.sto n ob q
    refine ⟨b, e1, ?_⟩
    cases ob with
    | lst ys =>
      obtain ⟨ws, e2, z⟩ := z
      exact ⟨ws, kp b _ (fun w => hn1 (w ▸ List.mem_of_getElem? e1)) e2, z.mono x⟩
  · obtain ⟨h1, h2, ws, q⟩ := r.oap b hb
    by_cases hba : b = a
    · exact ⟨h1, h2, vs', by rw [hba]; exact upd_same⟩
    · exact ⟨h1, h2, ws, kp b _ hba q⟩
/-- a list of the store changed -/
theorem Rel.putSto (r : Rel K Z μ ω H σ v S) {n : Nat} {a : Addr} {vs vs' : List V} {xs' : List D} (hm : μ[n]? = some a) (e : H a = some (.lst vs)) (d : VDs K (NN Z μ ω) μ H vs' xs') :
    Rel K Z μ ω (upd H a (.lst vs')) σ v (S.set n (.lst xs')) ∧ SStep μ ω H μ ω (upd H a (.lst vs')) := by
  have hma : a ∈ μ := List.mem_of_getElem? hm
  have x : Xt K (NN Z μ ω) (NN Z μ ω) μ μ H (upd H a (.lst vs')) := .put (.inl hma) e
  have kp : ∀ b u, b ≠ a → H b = some u → upd H a (.lst vs') b = some u := fun b u hb q => by rw [upd_ne hb]; exact q
  have lv : ∀ b, upd H a (.lst vs') b = Option.none → H b = Option.none := fun b q => by
    by_cases hb : b = a
    · rw [hb, upd_same] at q; cases q
    · rw [upd_ne hb] at q; exact q
  have no : ∀ b, some b ∈ ω → b ≠ a := fun b hb z => (r.oap b hb).1 (z ▸ hma)
  have hn : n < S.length := by rw [← r.mlen]; exact (List.getElem?_eq_some_iff.mp hm).1
  refine ⟨⟨r.len, fun j y q => ?_, fun j ys q => ?_, fun k ob q => ?_, by rw [List.length_set]; exact r.mlen, r.nd, r.oinj, fun b hb => ?_, fun b hb => ⟨(r.zap b hb).1, fun q => (r.zap b hb).2 (lv b q)⟩, r.olen, r.tabS (.updL e)⟩,
    ⟨fun b u hb _ _ q => kp b u (fun z => hb (z ▸ hma)) q, ⟨[], by simp, fun _ h => by simp at h⟩, fun _ h => .inl h, lv, .updL e⟩⟩
  · obtain ⟨y, e1, z⟩ := r.dat j _ q
    exact ⟨y, e1, z.mono x⟩
  · obtain ⟨b, ws, e1, e2, e3, z⟩ := r.own j _ q
    exact ⟨b, ws, e1, e2, kp b _ (no b (List.mem_of_getElem? e1)) e3, z.mono x⟩
  · by_cases hk : n = k
    · subst hk
      rw [List.getElem?_set_self hn] at q; cases q
      exact ⟨a, hm, vs', upd_same, d.mono x⟩
    · rw [List.getElem?_set_ne hk] at q
      obtain ⟨b, e1, z⟩ := r.sto k ob q
      refine ⟨b, e1, ?_⟩
      cases ob with
      | lst ys =>
        obtain ⟨ws, e2, z⟩ := z
        exact ⟨ws, kp b _ (fun w => hk (nodup_at r.nd hm (w ▸ e1))) e2, z.mono x⟩
  · obtain ⟨h1, h2, ws, q⟩ := r.oap b hb
    exact ⟨h1, h2, ws, kp b _ (no b hb) q⟩
end
end Q
/-! Q7: statements, one by one. -/
namespace Q
open PySem L2 PySem.Spec PyProof.Rows
variable [TC]
section
variable {K : Fg} {Φ : Cal} {G : Nat → Option D} {fr : Bool} {ta tb tc te : TE} {a b c e : Ex}
theorem sem_asg {g : TG} {gg : Tg} (he : SemE K Φ G te e) (hg : SemG K g gg) : SemS K Φ G fr (tAsg te g) (.asg gg e) := fun Z μ ω H σ v S R Dd q => by
  simp only [evS] at q
  show te σ H _
  refine he.bind (P := fun r => PostS K Z fr μ ω H r Dd) R q id (fun _ _ _ h => h) fun x H1 μ1 d1 S1 s1 R1 x1 q1 => ?_
  cases e1 : gg.set d1 v with
  | none => rw [e1] at q1; exact q1.elim
  | some v' =>
    rw [e1] at q1
    exact hg Z μ1 ω H1 σ v S1 x d1 v' R1 x1 e1 _ fun σ2 R2 _ => q1 σ2 H1 μ1 ω (.of s1 R1) R2
/-- a new list, then what hangs on it -/
theorem SemF.bindL {α : Type} {P : Rs α → Prop} {Z : Addr → Prop} {μ : List Addr} {ω : List (Option Addr)} {H : Hp} {σ : L2.St} {v : Fm} {S : Store} {f : List D → Store → Rs α} {k : VK} (ht : SemF K Φ G te e) (r : Rel K Z μ ω H σ v S)
    (h : P ((evE Φ G e v S).bind fun x S1 => match x with | .lst xs => f xs S1 | _ => .stuck)) (h0 : ¬ P .stuck) (h1 : ∀ c fs S, ¬ P (.exc c fs S))
    (hk : ∀ p vs H' μ' xs S', Step μ H μ' H' → Rel K (ZP Z p) μ' ω H' σ v S' → H p = none → H' p = some (.lst vs) → VDs K (NN (ZP Z p) μ' ω) μ' H' vs xs → P (f xs S') → k (.ref p) H') : te σ H k := by
  refine ht Z μ ω H σ v S r k ?_
  cases q : evE Φ G e v S with
  | exc c fs S' => rw [q] at h; exact absurd h (h1 _ _ _)
  | stuck => rw [q] at h; exact absurd h h0
  | ok d S' =>
    rw [q] at h
    cases d with
    | lst xs =>
      refine ⟨fun ys ey p vs H' μ' s' r' hp he hs => ?_, fun ne => absurd rfl (ne xs)⟩
      cases ey
      exact hk p vs H' μ' xs S' s' r' hp he hs h
    | _ => exact absurd h h0
theorem wpn {Z : Addr → Prop} {μ : List Addr} {ω : List (Option Addr)} {H : Hp} {σ : L2.St} {v : Fm} {S : Store} (r : Rel K Z μ ω H σ v S) {p : Addr} (hp : H p = none) : some p ∉ ω ∧ ¬ Z p := by
  refine ⟨fun z => ?_, fun z => (r.zap p z).2 hp⟩
  obtain ⟨_, _, _, e⟩ := r.oap p z
  rw [hp] at e; cases e
theorem sem_own {i : Nat} (he : SemF K Φ G te e) : SemS K Φ G fr (tAsg te (gName i)) (.own i e) := fun Z μ ω H σ v S R Dd q => by
  simp only [evS] at q
  show te σ H _
  refine he.bindL (P := fun r => PostS K Z fr μ ω H r Dd) (f := fun xs S1 => .ok (.nx (v.set i (.own xs))) S1) R q id (fun _ _ _ h => h) fun p vs H1 μ1 xs S1 s1 R1 hp h1 d1 q1 => ?_
  obtain ⟨h2, h3⟩ := wpn R hp
  by_cases hi : i < v.length
  case neg =>
    show Dd.nx (σ.set i (some (.ref p))) H1
    have R2 := R1.weakZ (Z := Z) fun a h => .inl h
    rw [List.set_eq_of_length_le (by rw [R.len]; omega)]
    rw [List.set_eq_of_length_le (by omega)] at q1
    exact q1 σ H1 μ1 ω (.of s1 R2) R2
  refine q1 _ H1 μ1 (ω.set i (some p)) ⟨fun a u h _ n e => s1.keepN a u h n e, s1.pre, fun a ha => ?_, s1.live, s1.tab⟩ (R1.setOwn h2 h3 h1 d1 hi)
  rcases List.mem_or_eq_of_mem_set ha with z | z
  · exact .inl z
  · cases z; exact .inr hp
/-- a new list put to the store -/
theorem Rel.alloc {Z : Addr → Prop} {μ : List Addr} {ω : List (Option Addr)} {H : Hp} {σ : L2.St} {v : Fm} {S : Store} {p : Addr} {vs : List V} {xs : List D} (r : Rel K (ZP Z p) μ ω H σ v S) (hpw : some p ∉ ω) (hZ : ¬ Z p) (e : H p = some (.lst vs)) (d : VDs K (NN (ZP Z p) μ ω) μ H vs xs) :
    Rel K Z (μ ++ [p]) ω H σ v (S ++ [.lst xs]) := by
  have hpm : p ∉ μ := (r.zap p (.inr rfl)).1
  have sub : ∀ a, NN Z (μ ++ [p]) ω a → NN (ZP Z p) μ ω a := by
    rintro a (z | z | z)
    · rcases List.mem_append.mp z with z | z
      · exact .inl z
      · exact .inr (.inr (.inr (by simpa using z)))
    · exact .inr (.inl z)
    · exact .inr (.inr (.inl z))
  have x : Xt K (NN (ZP Z p) μ ω) (NN Z (μ ++ [p]) ω) μ (μ ++ [p]) H H := by
    have w := Xt.weak (K := K) (μ := μ) (H := H) sub
    exact ⟨w.t, w.l, fun n a h => by rw [List.getElem?_append_left (List.getElem?_eq_some_iff.mp h).1]; exact h⟩
  refine ⟨r.len, fun j y q => ?_, fun j ys q => ?_, fun n ob q => ?_, by rw [List.length_append, List.length_append, r.mlen]; rfl, List.nodup_append.mpr ⟨r.nd, by simp, fun a ha b hb => ?_⟩, r.oinj, fun a ha => ?_, fun a ha => ?_, r.olen, r.tab⟩
  · obtain ⟨y, e1, z⟩ := r.dat j _ q
    exact ⟨y, e1, z.mono x⟩
  · obtain ⟨a, ws, e1, e2, e3, z⟩ := r.own j _ q
    exact ⟨a, ws, e1, e2, e3, z.mono x⟩
  · by_cases hn : n < S.length
    · rw [List.getElem?_append_left hn] at q
      obtain ⟨a, e1, z⟩ := r.sto n ob q
      refine ⟨a, x.m _ _ e1, ?_⟩
      cases ob with
      | lst ys =>
        obtain ⟨ws, e2, z⟩ := z
        exact ⟨ws, e2, z.mono x⟩
    · rw [List.getElem?_append_right (by omega)] at q
      have hz : n - S.length = 0 := by
        have := (List.getElem?_eq_some_iff.mp q).1
        simp at this; omega
      rw [hz] at q
      cases q
      refine ⟨p, ?_, vs, e, d.mono x⟩
      have hn2 : n = μ.length := by rw [r.mlen]; omega
      rw [hn2]; simp
  · intro h
    have : b = p := by simpa using hb
    exact hpm (by rw [← this, ← h]; exact ha)
  · obtain ⟨h1, h2, h3⟩ := r.oap a ha
    refine ⟨?_, fun z => h2 (.inl z), h3⟩
    rw [List.mem_append]
    rintro (z | z)
    · exact h1 z
    · have : a = p := by simpa using z
      exact hpw (this ▸ ha)
  · obtain ⟨h1, h2⟩ := r.zap a (.inl ha)
    refine ⟨?_, h2⟩
    rw [List.mem_append]
    rintro (z | z)
    · exact h1 z
    · have : a = p := by simpa using z
      exact hZ (this ▸ ha)
theorem sem_alloc {i : Nat} (he : SemF K Φ G te e) : SemS K Φ G fr (tAsg te (gName i)) (.alloc i e) := fun Z μ ω H σ v S R Dd q => by
  simp only [evS] at q
  show te σ H _
  refine he.bindL (P := fun r => PostS K Z fr μ ω H r Dd) (f := fun xs S1 => .ok (.nx (v.set i (.d (.ref S1.length)))) (S1 ++ [.lst xs])) R q id (fun _ _ _ h => h) fun p vs H1 μ1 xs S1 s1 R1 hp h1 d1 q1 => ?_
  obtain ⟨h2, h3⟩ := wpn R hp
  have R2 := R1.alloc h2 h3 h1 d1
  obtain ⟨more, e1, e2⟩ := s1.pre
  have R3 := R2.set (x := .ref p) (d := .ref S1.length) (.ref (by rw [← R1.mlen]; simp)) i
  exact q1 _ H1 (μ1 ++ [p]) ω ⟨fun a u h _ n e => s1.keepN a u h n e, ⟨more ++ [p], by rw [e1, List.append_assoc], fun a ha => (List.mem_append.mp ha).elim (e2 a) fun z => by
    have : a = p := by simpa using z
    rw [this]; exact hp⟩, fun a h => .inl h, s1.live, s1.tab⟩ R3
/-- a new list, put to the store, as an expression -/
theorem sem_mk (he : SemF K Φ G te e) : SemE K Φ G te (.mk e) := fun Z μ ω H σ v S R Q q => by
  simp only [evE] at q
  refine he.bindL (P := fun r => Post K Z μ ω H σ v r Q) (f := fun xs S1 => .ok (.ref S1.length) (S1 ++ [.lst xs])) R q id (fun _ _ _ h => h) fun p vs H1 μ1 xs S1 s1 R1 hp h1 d1 q1 => ?_
  obtain ⟨h2, h3⟩ := wpn R hp
  have R2 := R1.alloc h2 h3 h1 d1
  obtain ⟨more, e1, e2⟩ := s1.pre
  refine q1 (.ref p) H1 (μ1 ++ [p]) ⟨s1.keepN, ⟨more ++ [p], by rw [e1, List.append_assoc], fun a ha => (List.mem_append.mp ha).elim (e2 a) fun z => by
    have : a = p := by simpa using z
    rw [this]; exact hp⟩, s1.live, s1.tab⟩ R2 (.ref (by rw [← R1.mlen]; simp))
theorem sem_app {i : Nat} (he : SemE K Φ G te e) : SemS K Φ G fr (tDrop (tBM K "list" rAppend (tVar i) (tCons te tNil))) (.app i e) := fun Z μ ω H σ v S R Dd q => by
  simp only [evS] at q
  have own : ∃ xs, v[i]? = some (.own xs) := by
    cases e1 : evE Φ G e v S with
    | exc => rw [e1] at q; exact q.elim
    | stuck => rw [e1] at q; exact q.elim
    | ok d S1 =>
      rw [e1] at q
      simp only [Rs.bind_ok] at q
      split at q
      · rename_i xs hx; exact ⟨xs, hx⟩
      · exact q.elim
  obtain ⟨xs, hx⟩ := own
  obtain ⟨p, vs, o1, o2, o3, o4⟩ := R.own i xs hx
  simp only [hx] at q
  refine ⟨.ref p, o2, .inl ⟨rfl, vs, .of o3⟩, ?_⟩
  show te σ H _
  refine he.bind (P := fun r => PostS K Z fr μ ω H r Dd) R q id (fun _ _ _ h => h) fun x H1 μ1 d1 S1 s1 R1 x1 q1 => ?_
  obtain ⟨p', vs', o1', o2', o3', o4'⟩ := R1.own i xs hx
  rw [o1] at o1'; cases o1'
  by_cases hl : xs.length < lim
  case neg => simp only [if_neg hl] at q1; exact q1.elim
  simp only [hl, if_true] at q1
  obtain ⟨R2, s2⟩ := R1.putOwn (xs' := xs ++ [d1]) hx o1 o2 o3' (vds_snoc o4' x1)
  exact ⟨p, vs', x, rfl, rfl, o3', by rw [o4'.length]; exact lim_lt hl, q1 σ _ μ1 ω ((SStep.of s1 R1).trans s2) R2⟩
theorem sem_setO {i : Nat} (he : SemE K Φ G te e) (ha : SemE K Φ G ta a) : SemS K Φ G fr (tAsg te (gSub (tVar i) ta rSetL)) (.setO i a e) := fun Z μ ω H σ v S R Dd q => by
  simp only [evS] at q
  show te σ H _
  refine he.bind (P := fun r => PostS K Z fr μ ω H r Dd) R q id (fun _ _ _ h => h) fun x H1 μ1 d1 S1 s1 R1 x1 q1 => ?_
  have own : ∃ xs, v[i]? = some (.own xs) := by
    cases e1 : evE Φ G a v S1 with
    | exc => rw [e1] at q1; exact q1.elim
    | stuck => rw [e1] at q1; exact q1.elim
    | ok d S1 =>
      rw [e1] at q1
      simp only [Rs.bind_ok] at q1
      split at q1
      · rename_i xs _ hx; exact ⟨xs, hx⟩
      · exact q1.elim
  obtain ⟨xs, hx⟩ := own
  obtain ⟨p, vs, o1, o2, o3, o4⟩ := R1.own i xs hx
  simp only [hx] at q1
  refine ⟨.ref p, o2, ?_⟩
  refine ha.bind (P := fun r => PostS K Z fr μ ω H r Dd) R1 q1 id (fun _ _ _ h => h) fun y H2 μ2 d2 S2 s2 R2 x2 q2 => ?_
  obtain ⟨p', vs', o1', o2', o3', o4'⟩ := R2.own i xs hx
  rw [o1] at o1'; cases o1'
  cases x2 with
  | int k =>
    dsimp only at q2
    cases hj : ixAt xs.length k with
    | none => rw [hj] at q2; exact q2.elim
    | some j =>
      rw [hj] at q2
      obtain ⟨R3, s3⟩ := R2.putOwn (xs' := xs.set j d1) hx o1 o2 o3' (o4'.set (x1.mono (R1.xt s2)) j)
      exact ⟨p, vs', k, j, rfl, rfl, o3', by rw [o4'.length]; exact hj, q2 σ _ μ2 ω (((SStep.of s1 R1).trans (.of s2 R2)).trans s3) R3⟩
  | _ => exact q2.elim
theorem sem_setR {to : TE} {o : Ex} (he : SemE K Φ G te e) (ho : SemE K Φ G to o) (ha : SemE K Φ G ta a) : SemS K Φ G fr (tAsg te (gSub to ta rSetL)) (.setR o a e) := fun Z μ ω H σ v S R Dd q => by
  simp only [evS] at q
  show te σ H _
  refine he.bind (P := fun r => PostS K Z fr μ ω H r Dd) R q id (fun _ _ _ h => h) fun x H1 μ1 d1 S1 s1 R1 x1 q1 => ?_
  show to σ H1 _
  refine ho.bind (P := fun r => PostS K Z fr μ ω H r Dd) R1 q1 id (fun _ _ _ h => h) fun w H2 μ2 d2 S2 s2 R2 x2 q2 => ?_
  show ta σ H2 _
  refine ha.bind (P := fun r => PostS K Z fr μ ω H r Dd) R2 q2 id (fun _ _ _ h => h) fun y H3 μ3 d3 S3 s3 R3 x3 q3 => ?_
  have x2 := x2.mono (R2.xt s3)
  cases x2 with
  | @ref n p hn =>
    cases x3 with
    | int k =>
      dsimp only at q3
      cases hS : S3[n]? with
      | none => rw [hS] at q3; exact q3.elim
      | some ob =>
        rw [hS] at q3
        cases ob with
        | lst xs =>
          dsimp only at q3
          obtain ⟨p', e1, vs, e2, d⟩ := R3.sto n _ hS
          rw [hn] at e1; cases e1
          cases hj : ixAt xs.length k with
          | none => rw [hj] at q3; exact q3.elim
          | some j =>
            rw [hj] at q3
            obtain ⟨R4, s4⟩ := R3.putSto (xs' := xs.set j d1) hn e2 (d.set ((x1.mono (R1.xt s2)).mono (R2.xt s3)) j)
            exact ⟨p, vs, k, j, rfl, rfl, e2, by rw [d.length]; exact hj, q3 σ _ μ3 ω ((((SStep.of s1 R1).trans (.of s2 R2)).trans (.of s3 R3)).trans s4) R4⟩
    | _ => exact q3.elim
  | _ => cases x3 <;> exact q3.elim
theorem sem_appR {to : TE} {o : Ex} (ho : SemE K Φ G to o) (he : SemE K Φ G te e) : SemS K Φ G fr (tDrop (tBM K "list" rAppend to (tCons te tNil))) (.appR o e) := fun Z μ ω H σ v S R Dd q => by
  simp only [evS] at q
  show to σ H _
  refine ho.bind (P := fun r => PostS K Z fr μ ω H r Dd) R q id (fun _ _ _ h => h) fun w H1 μ1 d1 S1 s1 R1 x1 q1 => ?_
  have isr : ∃ n, d1 = .ref n ∧ n < μ1.length := by
    cases e1 : evE Φ G e v S1 with
    | exc => rw [e1] at q1; exact q1.elim
    | stuck => rw [e1] at q1; exact q1.elim
    | ok d S2 =>
      rw [e1] at q1
      simp only [Rs.bind_ok] at q1
      cases x1 with
      | ref hn => exact ⟨_, rfl, (List.getElem?_eq_some_iff.mp hn).1⟩
      | _ => exact q1.elim
  obtain ⟨n, rfl, hn1⟩ := isr
  cases x1 with
  | @ref _ p hn =>
    obtain ⟨p', e1, ob⟩ := R1.sto n _ (List.getElem?_eq_getElem (by rw [← R1.mlen]; exact hn1))
    rw [hn] at e1; cases e1
    have ls : ∃ vs, H1 p = some (.lst vs) := by
      cases hh : S1[n]'(by rw [← R1.mlen]; exact hn1) with
      | lst xs => rw [hh] at ob; obtain ⟨vs, e, _⟩ := ob; exact ⟨vs, e⟩
    obtain ⟨vs0, h0⟩ := ls
    refine ⟨.inl ⟨rfl, vs0, .of h0⟩, ?_⟩
    show te σ H1 _
    refine he.bind (P := fun r => PostS K Z fr μ ω H r Dd) R1 q1 id (fun _ _ _ h => h) fun x H2 μ2 d2 S2 s2 R2 x2 q2 => ?_
    have hn2 : μ2[n]? = some p := (R1.xt s2).m _ _ hn
    dsimp only at q2
    cases hS : S2[n]? with
    | none => rw [hS] at q2; exact q2.elim
    | some ob2 =>
      rw [hS] at q2
      cases ob2 with
      | lst xs =>
        dsimp only at q2
        obtain ⟨p', e1, vs, e2, d⟩ := R2.sto n _ hS
        rw [hn2] at e1; cases e1
        by_cases hl : xs.length < lim
        case neg => simp only [if_neg hl] at q2; exact q2.elim
        simp only [hl, if_true] at q2
        obtain ⟨R3, s3⟩ := R2.putSto (xs' := xs ++ [d2]) hn2 e2 (vds_snoc d x2)
        exact ⟨p, vs, x, rfl, rfl, e2, by rw [d.length]; exact lim_lt hl, q2 σ _ μ2 ω (((SStep.of s1 R1).trans (.of s2 R2)).trans s3) R3⟩
theorem sem_augAdd {i : Nat} (he : SemE K Φ G te e) : SemS K Φ G fr (tAug i te (ipI fun i j => i + j)) (.aug i .add e) := fun Z μ ω H σ v S R Dd q => by
  simp only [evS] at q
  split at q
  · rename_i k hk
    obtain ⟨y, hy, d⟩ := R.dat i _ hk
    cases d
    refine ⟨_, hy, ?_⟩
    refine he.bind (P := fun r => PostS K Z fr μ ω H r Dd) R q id (fun _ _ _ h => h) fun x H1 μ1 d1 S1 s1 R1 x1 q1 => ?_
    cases x1 with
    | int j => exact ⟨k, j, rfl, rfl, q1 _ H1 μ1 ω (.of s1 R1) (R1.set (.int _) i)⟩
    | _ => exact q1.elim
  · exact q.elim
theorem sem_augSub {i : Nat} (he : SemE K Φ G te e) : SemS K Φ G fr (tAug i te (ipI fun i j => i - j)) (.aug i .sub e) := fun Z μ ω H σ v S R Dd q => by
  simp only [evS] at q
  split at q
  · rename_i k hk
    obtain ⟨y, hy, d⟩ := R.dat i _ hk
    cases d
    refine ⟨_, hy, ?_⟩
    refine he.bind (P := fun r => PostS K Z fr μ ω H r Dd) R q id (fun _ _ _ h => h) fun x H1 μ1 d1 S1 s1 R1 x1 q1 => ?_
    cases x1 with
    | int j => exact ⟨k, j, rfl, rfl, q1 _ H1 μ1 ω (.of s1 R1) (R1.set (.int _) i)⟩
    | _ => exact q1.elim
  · exact q.elim
/-! ### answers -/
theorem sem_ret (he : SemE K Φ G te e) : SemS K Φ G false (tRet te) (.ret e) := fun Z μ ω H σ v S R Dd q => by
  simp only [evS] at q
  show te σ H _
  refine he.bind (P := fun r => PostS K Z false μ ω H r Dd) R q id (fun _ _ _ h => h) fun x H1 μ1 d1 S1 s1 R1 x1 q1 => ?_
  exact q1 x H1 μ1 (SStep.of s1 R1).bare R1.bare (x1.mono (.weak fun a h => h.imp id fun h => h.elim (fun z => absurd z (by simp)) .inr))
theorem bareN {Z : Addr → Prop} {μ : List Addr} {ω : List (Option Addr)} (a : Addr) (h : NN Z μ [] a) : NN Z μ ω a := h.imp id fun h => h.elim (fun z => absurd z (by simp)) .inr
theorem sem_retF (he : SemF K Φ G te e) : SemS K Φ G true (tRet te) (.retF e) := fun Z μ ω H σ v S R Dd q => by
  simp only [evS] at q
  refine he Z μ ω H σ v S R _ ?_
  cases e1 : evE Φ G e v S with
  | exc => rw [e1] at q; exact q.elim
  | stuck => rw [e1] at q; exact q.elim
  | ok d S1 =>
    rw [e1] at q
    refine ⟨fun xs ed p vs H1 μ1 s1 R1 hp h1 d1 => q.1 xs ed p vs H1 μ1 (SStep.of s1 (R1.weakZ fun a h => .inl h)).bare R1.bare (.inr hp) h1 (d1.mono (.weak bareN)), fun ne y H1 μ1 s1 R1 x1 => q.2 ne y H1 μ1 (SStep.of s1 R1).bare R1.bare (x1.mono (.weak bareN))⟩
/-- an own list handed back -/
theorem Rel.giveOwn {Z : Addr → Prop} {μ : List Addr} {ω : List (Option Addr)} {H : Hp} {σ : L2.St} {v : Fm} {S : Store} {p : Addr} (r : Rel K Z μ ω H σ v S) (h : some p ∈ ω) : Rel K (ZP Z p) μ [] H [] [] S := by
  have x : Xt K (NN Z μ ω) (NN (ZP Z p) μ []) μ μ H H := .weak fun a q => by
    rcases q with q | q | q | q
    · exact .inl q
    · simp at q
    · exact .inr (.inr q)
    · subst q; exact .inr (.inl h)
  refine ⟨rfl, fun i d e => by simp at e, fun i xs e => by simp at e, fun n ob e => ?_, r.mlen, r.nd, fun i j a e => by simp at e, fun a e => by simp at e, fun a ha => ?_, rfl, r.tab⟩
  · obtain ⟨a, e1, q⟩ := r.sto n ob e
    refine ⟨a, e1, ?_⟩
    cases ob with
    | lst xs =>
      obtain ⟨ws, e2, q⟩ := q
      exact ⟨ws, e2, q.mono x⟩
  · rcases ha with ha | ha
    · exact r.zap a ha
    · subst ha
      obtain ⟨h1, h2, ws, e⟩ := r.oap a h
      exact ⟨h1, by rw [e]; simp⟩
theorem sem_retO {i : Nat} : SemS K Φ G true (tRet (tVar i)) (.retO i) := fun Z μ ω H σ v S R Dd q => by
  simp only [evS] at q
  split at q
  · rename_i xs hx
    obtain ⟨p, vs, o1, o2, o3, o4⟩ := R.own i xs hx
    have hm := List.mem_of_getElem? o1
    refine ⟨.ref p, o2, q.1 xs rfl p vs H μ SStep.refl.bare (R.giveOwn hm) (.inl hm) o3 (o4.mono (.weak fun a q => ?_))⟩
    rcases q with q | q | q | q
    · exact .inl q
    · simp at q
    · exact .inr (.inr q)
    · subst q; exact .inr (.inl hm)
  · exact q.elim
/-! ### blocks -/
theorem sem_nil_s : SemSs K Φ G fr tNext .nil := fun Z μ ω H σ v S R Dd q => by
  simp only [evSs] at q
  exact q σ H μ ω .refl R
theorem sem_cons_s {t u : TS} {s : Sm} {ss : Sms} (h : SemS K Φ G fr t s) (hs : SemSs K Φ G fr u ss) : SemSs K Φ G fr (tSeq t u) (.cons s ss) := fun Z μ ω H σ v S R Dd q => by
  simp only [evSs] at q
  refine h Z μ ω H σ v S R _ ?_
  cases e1 : evS Φ G s v S with
  | exc => rw [e1] at q; exact q.elim
  | stuck => rw [e1] at q; exact q.elim
  | ok r S1 =>
    rw [e1] at q
    simp only [Rs.bind_ok] at q
    cases r with
    | nx v1 => exact fun σ1 H1 μ1 ω1 s1 R1 => hs Z μ1 ω1 H1 σ1 v1 S1 R1 Dd (PostS.re q s1)
    | rt d => exact q
    | br v1 => exact q
    | ct v1 => exact q
/-- a ghost: an own list is data from here on -/
theorem sem_frz {t : TS} {i : Nat} {ss : Sms} (hs : SemSs K Φ G fr t ss) : SemSs K Φ G fr t (.cons (.frz i) ss) := fun Z μ ω H σ v S R Dd q => by
  simp only [evSs, evS] at q
  split at q
  · rename_i xs hx
    simp only [Rs.bind_ok] at q
    obtain ⟨p, vs, o1, o2, o3, o4⟩ := R.own i xs hx
    have hi : i < v.length := (List.getElem?_eq_some_iff.mp hx).1
    have hio : i < ω.length := by rw [R.olen]; exact hi
    have hm := List.mem_of_getElem? o1
    have gone : some p ∉ ω.set i none := fun z => by
      obtain ⟨j, hj⟩ := List.getElem?_of_mem z
      by_cases hij : i = j
      · subst hij
        rw [List.getElem?_set_self hio] at hj; cases hj
      · rw [List.getElem?_set_ne hij] at hj
        exact hij (R.oinj i j p o1 hj)
    have subw : ∀ a, some a ∈ ω.set i none → some a ∈ ω := fun a z => by
      rcases List.mem_or_eq_of_mem_set z with z | z
      · exact z
      · cases z
    have x : Xt K (NN Z μ ω) (NN Z μ (ω.set i none)) μ μ H H := .weak fun a h => h.imp id fun h => h.imp (subw a) id
    have R1 : Rel K Z μ (ω.set i none) H σ (v.set i (.d (.lst xs))) S := by
      refine ⟨by rw [List.length_set]; exact R.len, fun j y q => ?_, fun j ys q => ?_, fun n ob q => ?_, R.mlen, R.nd, fun j k a h1 h2 => ?_, fun a ha => R.oap a (subw a ha), R.zap, by rw [List.length_set, List.length_set]; exact R.olen, R.tab⟩
      · by_cases hj : i = j
        · subst hj
          rw [List.getElem?_set_self hi] at q; cases q
          refine ⟨_, o2, .lst (.inl ⟨.inl o3, ?_⟩) (o4.mono x)⟩
          obtain ⟨h1, h2, _⟩ := R.oap p hm
          rintro (z | z | z)
          · exact h1 z
          · exact gone z
          · exact h2 z
        · rw [List.getElem?_set_ne hj] at q
          obtain ⟨y, e1, z⟩ := R.dat j _ q
          exact ⟨y, e1, z.mono x⟩
      · by_cases hj : i = j
        · subst hj
          rw [List.getElem?_set_self hi] at q; cases q
        · rw [List.getElem?_set_ne hj] at q
          obtain ⟨a, ws, e1, e2, e3, z⟩ := R.own j _ q
          exact ⟨a, ws, by rw [List.getElem?_set_ne hj]; exact e1, e2, e3, z.mono x⟩
      · obtain ⟨a, e1, z⟩ := R.sto n ob q
        refine ⟨a, e1, ?_⟩
        cases ob with
        | lst ys =>
          obtain ⟨ws, e2, z⟩ := z
          exact ⟨ws, e2, z.mono x⟩
      · by_cases hj : i = j
        · subst hj
          rw [List.getElem?_set_self hio] at h1; cases h1
        · rw [List.getElem?_set_ne hj] at h1
          by_cases hk : i = k
          · subst hk
            rw [List.getElem?_set_self hio] at h2; cases h2
          · rw [List.getElem?_set_ne hk] at h2
            exact R.oinj j k a h1 h2
    exact hs Z μ (ω.set i none) H σ _ S R1 Dd (PostS.re q ⟨fun a u _ _ _ e => e, ⟨[], by simp, fun _ h => by simp at h⟩, fun a ha => .inl (subw a ha), fun a h => h, .refl⟩)
  · exact q.elim
theorem sem_ifS {tt : TT} {t u : TS} {sa sb : Sms} (hc : SemT K Φ G tt c) (ha : SemSs K Φ G fr t sa) (hb : SemSs K Φ G fr u sb) : SemS K Φ G fr (tIfS tt t u) (.ife c sa sb) := fun Z μ ω H σ v S R Dd q => by
  simp only [evS] at q
  show tt σ H _
  refine hc.bind (P := fun r => PostS K Z fr μ ω H r Dd) (a := fun S1 => evSs Φ G sa v S1) (b := fun S1 => evSs Φ G sb v S1) R q id (fun _ _ _ h => h) fun k H1 μ1 S1 s1 R1 q1 => ?_
  cases k with
  | true => exact ha Z μ1 ω H1 σ v S1 R1 Dd (PostS.re q1 (.of s1 R1))
  | false => exact hb Z μ1 ω H1 σ v S1 R1 Dd (PostS.re q1 (.of s1 R1))
theorem sem_brk : SemS K Φ G fr tBreak .brk := fun Z μ ω H σ v S R Dd q => by
  simp only [evS] at q
  exact q σ H μ ω .refl R
theorem sem_cont : SemS K Φ G fr tCont .cont := fun Z μ ω H σ v S R Dd q => by
  simp only [evS] at q
  exact q σ H μ ω .refl R
theorem sem_pass : SemS K Φ G fr tNext .pass := fun Z μ ω H σ v S R Dd q => by
  simp only [evS] at q
  exact q σ H μ ω .refl R
theorem sem_drop (he : SemE K Φ G te e) : SemS K Φ G fr (tDrop te) (.drop e) := fun Z μ ω H σ v S R Dd q => by
  simp only [evS] at q
  show te σ H _
  refine he.bind (P := fun r => PostS K Z fr μ ω H r Dd) R q id (fun _ _ _ h => h) fun x H1 μ1 d1 S1 s1 R1 x1 q1 => ?_
  exact q1 σ H1 μ1 ω (.of s1 R1) R1
/-! ### loops -/
theorem forL_step {f : D → Fm → Store → Rs Fl} {its : List D} {i : Nat} {d : D} {v : Fm} {S : Store} (hd : its[i]? = some d) :
    forL f (its.drop i) v S = (f d v S).bind fun r S1 => match r with
      | .nx v1 => forL f (its.drop (i + 1)) v1 S1
      | .ct v1 => forL f (its.drop (i + 1)) v1 S1
      | .br v1 => .ok (.nx v1) S1
      | .rt d => .ok (.rt d) S1 := by
  have hi := (List.getElem?_eq_some_iff.mp hd).1
  have hx := (List.getElem?_eq_some_iff.mp hd).2
  rw [List.drop_eq_getElem_cons hi, hx]
  rfl
theorem sem_for {g : TG} {gg : Tg} {wi : TI} {it : Itr} {tb : TS} {sb : Sms} (hi : SemI K Φ G wi it) (hg : SemG K g gg) (hb : SemSs K Φ G fr tb sb) : SemS K Φ G fr (tFor wi g tb) (.for_ gg it sb) := fun Z μ ω H σ v S R Dd q => by
  simp only [evS] at q
  generalize hf : (fun (x : D) (v1 : Fm) (S2 : Store) => match gg.set x v1 with
      | some v2 => evSs Φ G sb v2 S2
      | none => .stuck) = f at q
  refine hi Z μ ω H σ v S R _ ?_
  cases ei : evI Φ G it v S with
  | exc => rw [ei] at q; exact q.elim
  | stuck => rw [ei] at q; exact q.elim
  | ok its S1 =>
    rw [ei] at q
    simp only [Rs.bind_ok] at q
    intro J H1 μ1 s1 R1 iok
    obtain ⟨hlen, Gd, Y, wk, hG, hY⟩ := iok
    have q := PostS.re q (.of s1 R1)
    refine for_it wk (fun i σ' H' => ∃ μ' ω' v' S', SStep μ1 ω H1 μ' ω' H' ∧ Rel K Z μ' ω' H' σ' v' S' ∧ forL f (its.drop i) v' S' = forL f its v S1) ⟨μ1, ω, v, S1, .refl, R1, rfl⟩ ?_ ?_ ?_
    · rintro i σ' H' _ ⟨μ', ω', v', S', s', R', _⟩
      exact hG _ μ' H' (s'.xt R1)
    · rintro i x σ' H' H2 hlt ⟨μ', ω', v', S', s', R', ef⟩ hy
      obtain ⟨kp, d, hd, xd⟩ := hY i (NN Z μ' ω') μ' H' x H2 hlt (s'.xt R1) hy
      have R2 := R'.grow kp
      have s2 : SStep μ' ω' H' μ' ω' H2 := ⟨fun a u _ _ _ q => kp a u q, ⟨[], by simp, fun _ h => by simp at h⟩, fun _ h => .inl h, fun a h => (by
        cases z : H' a with
        | none => rfl
        | some u => rw [kp a u z] at h; cases h), .of kp⟩
      rw [← ef, forL_step hd, ← hf] at q
      dsimp only at q
      cases e2 : gg.set d v' with
      | none => rw [e2] at q; exact q.elim
      | some v2 =>
        rw [e2, hf] at q
        rw [forL_step hd, ← hf] at ef
        dsimp only at ef
        rw [e2, hf] at ef
        dsimp only at q ef
        refine hg Z μ' ω' H2 σ' v' S' x d v2 R2 xd e2 _ fun σ2 R3 _ => ?_
        have q := PostS.re q (s'.trans s2)
        refine hb Z μ' ω' H2 σ2 v2 S' R3 _ ?_
        cases e3 : evSs Φ G sb v2 S' with
        | exc => rw [e3] at q; exact q.elim
        | stuck => rw [e3] at q; exact q.elim
        | ok r S3 =>
          rw [e3] at q ef
          simp only [Rs.bind_ok] at q ef
          cases r with
          | nx v3 => exact fun σ3 H3 μ3 ω3 s3 R4 => ⟨μ3, ω3, v3, S3, (s'.trans s2).trans s3, R4, ef⟩
          | ct v3 => exact fun σ3 H3 μ3 ω3 s3 R4 => ⟨μ3, ω3, v3, S3, (s'.trans s2).trans s3, R4, ef⟩
          | br v3 => exact q
          | rt d => exact q
    · rintro σ' H' ⟨μ', ω', v', S', s', R', ef⟩
      rw [List.drop_length] at ef
      rw [← ef] at q
      exact q σ' H' μ' ω' s' R'
theorem walk_listG {a : Addr} {n : Nat} : Walk (Itl K a) n (fun H => ∃ vs : List V, SqL K H a vs ∧ vs.length = n) (fun i H x H' => H' = H ∧ ∀ vs, SqL K H a vs → vs[i]? = some x) :=
  ⟨fun i _ hi ⟨vs, q, e⟩ => ⟨vs, vs[i]'(by omega), q, List.getElem?_eq_getElem (by omega)⟩, fun _ ⟨vs, q, e⟩ => ⟨vs, q, Nat.le_of_eq e⟩, fun _ _ _ _ _ _ y => y⟩
theorem sem_forR {g : TG} {gg : Tg} {te : TE} {e : Ex} {tb : TS} {sb : Sms} (he : SemE K Φ G te e) (hg : SemG K g gg) (hb : SemSs K Φ G fr tb sb) : SemS K Φ G fr (tFor (iSeq K (tSz K te)) g tb) (.forR gg e sb) := fun Z μ ω H σ v S R Dd q => by
  simp only [evS] at q
  generalize hf : (fun (x : D) (v1 : Fm) (S2 : Store) => match gg.set x v1 with
      | some v2 => evSs Φ G sb v2 S2
      | none => .stuck) = f at q
  show te σ H _
  refine he.bind (P := fun r => PostS K Z fr μ ω H r Dd) R q id (fun _ _ _ h => h) fun x H1 μ1 d1 S1 s1 R1 x1 q1 hz => ?_
  cases x1 with
  | @ref n a hn =>
    dsimp only at q1
    cases hS : S1[n]? with
    | none => rw [hS] at q1; exact q1.elim
    | some ob =>
      rw [hS] at q1
      cases ob with
      | lst xs =>
        dsimp only at q1
        obtain ⟨a', e1, vs, e2, d⟩ := R1.sto n _ hS
        rw [hn] at e1; cases e1
        refine ⟨a, rfl, .inl ⟨⟨vs, .of e2⟩, ?_⟩⟩
        have q := PostS.re q1 (SStep.of (ω := ω) s1 R1)
        -- what stands at a, where the walk goes on
        have at_ : ∀ {μ' : List Addr} {ω' : List (Option Addr)} {H' : Hp} {σ' : L2.St} {v' : Fm} {S' : Store} {ys : List D}, SStep μ1 ω H1 μ' ω' H' → Rel K Z μ' ω' H' σ' v' S' → PostS K Z fr μ' ω' H' (forLC f n xs ys v' S') Dd → S'[n]? = some (.lst xs) ∧ ∃ vs', H' a = some (.lst vs') ∧ VDs K (NN Z μ' ω') μ' H' vs' xs := by
          intro μ' ω' H' σ' v' S' ys s' R' q'
          have hs : S'[n]? = some (.lst xs) := by
            cases ys with
            | nil =>
              unfold forLC at q'
              split at q'
              · assumption
              · exact q'.elim
            | cons y ys =>
              unfold forLC at q'
              split at q'
              · assumption
              · exact q'.elim
          obtain ⟨a', e1, vs', e2, d'⟩ := R'.sto n _ hs
          obtain ⟨more, e3, _⟩ := s'.pre
          rw [e3, List.getElem?_append_left (List.getElem?_eq_some_iff.mp hn).1, hn] at e1
          cases e1
          exact ⟨hs, vs', e2, d'⟩
        refine for_it (walk_listG (n := xs.length)) (fun i σ' H' => ∃ μ' ω' v' S', SStep μ1 ω H1 μ' ω' H' ∧ Rel K Z μ' ω' H' σ' v' S' ∧ PostS K Z fr μ' ω' H' (forLC f n xs (xs.drop i) v' S') Dd) ⟨μ1, ω, v, S1, .refl, R1, q⟩ ?_ ?_ ?_
        · rintro i σ' H' _ ⟨μ', ω', v', S', s', R', q'⟩
          obtain ⟨_, vs', e2, d'⟩ := at_ s' R' q'
          exact ⟨vs', .of e2, d'.length⟩
        · rintro i x σ' H' H2 hlt ⟨μ', ω', v', S', s', R', q'⟩ ⟨eH, hy⟩
          obtain rfl : H' = H2 := eH.symm
          obtain ⟨hs, vs', e2, d'⟩ := at_ s' R' q'
          obtain ⟨dd, hd, xd⟩ := d'.getV (hy vs' (.of e2))
          have hi := (List.getElem?_eq_some_iff.mp hd).1
          have hx := (List.getElem?_eq_some_iff.mp hd).2
          rw [List.drop_eq_getElem_cons hi, hx] at q'
          rw [forLC, if_pos hs, ← hf] at q'
          dsimp only at q'
          cases e4 : gg.set dd v' with
          | none => rw [e4] at q'; exact q'.elim
          | some v2 =>
            rw [e4, hf] at q'
            dsimp only at q'
            refine hg Z μ' ω' H' σ' v' S' x dd v2 R' xd e4 _ fun σ2 R3 _ => ?_
            refine hb Z μ' ω' H' σ2 v2 S' R3 _ ?_
            cases e3 : evSs Φ G sb v2 S' with
            | exc => rw [e3] at q'; exact q'.elim
            | stuck => rw [e3] at q'; exact q'.elim
            | ok r S3 =>
              rw [e3] at q'
              simp only [Rs.bind_ok] at q'
              cases r with
              | nx v3 => exact fun σ3 H3 μ3 ω3 s3 R4 => ⟨μ3, ω3, v3, S3, s'.trans s3, R4, PostS.re q' s3⟩
              | ct v3 => exact fun σ3 H3 μ3 ω3 s3 R4 => ⟨μ3, ω3, v3, S3, s'.trans s3, R4, PostS.re q' s3⟩
              | br v3 => exact q'
              | rt d => exact q'
        · rintro σ' H' ⟨μ', ω', v', S', s', R', q'⟩
          obtain ⟨hs, _⟩ := at_ s' R' q'
          rw [List.drop_length, forLC, if_pos hs] at q'
          exact q' σ' H' μ' ω' .refl R'
  | _ => exact q1.elim
theorem sem_while {tt : TT} {tb : TS} {sb : Sms} (hc : SemT K Φ G tt c) (hb : SemSs K Φ G fr tb sb) : SemS K Φ G fr (tWhile tt tb) (.while_ c sb) := fun Z μ ω H σ v S R Dd q => by
  simp only [evS] at q
  unfold whileR at q
  split at q
  case isFalse => exact q.elim
  rename_i hex
  generalize Classical.choose hex = n0 at q
  generalize hr : whileN (fun v1 S1 => evE Φ G c v1 S1) (fun v1 S1 => evSs Φ G sb v1 S1) n0 v S = r at q
  refine ⟨fun n σ' H' => ∃ μ' ω' v' S', SStep μ ω H μ' ω' H' ∧ Rel K Z μ' ω' H' σ' v' S' ∧ whileN (fun v1 S1 => evE Φ G c v1 S1) (fun v1 S1 => evSs Φ G sb v1 S1) n v' S' = r, ⟨n0, μ, ω, v, S, .refl, R, hr⟩, ?_⟩
  rintro n σ' H' ⟨μ', ω', v', S', s', R', ew⟩
  cases n with
  | zero => rw [← ew] at q; exact q.elim
  | succ n =>
    rw [whileN] at ew
    have q1 : PostS K Z fr μ' ω' H' r Dd := PostS.re q s'
    rw [← ew] at q1
    refine hc.bind (P := fun r' => PostS K Z fr μ' ω' H' r' Dd ∧ r' = r) (a := fun S1 => (evSs Φ G sb v' S1).bind fun r S2 => match r with
        | .nx v1 => whileN (fun v1 S1 => evE Φ G c v1 S1) (fun v1 S1 => evSs Φ G sb v1 S1) n v1 S2
        | .ct v1 => whileN (fun v1 S1 => evE Φ G c v1 S1) (fun v1 S1 => evSs Φ G sb v1 S1) n v1 S2
        | .br v1 => .ok (.nx v1) S2
        | .rt d => .ok (.rt d) S2) (b := fun S1 => .ok (.nx v') S1) R' ⟨q1, ew⟩ (fun h => h.1) (fun _ _ _ h => h.1) fun k H1 μ1 S1 s1 R1 q2 => ?_
    obtain ⟨q2, e2⟩ := q2
    have q2 := PostS.re q2 (SStep.of s1 R1)
    cases k with
    | false => exact q2 σ' H1 μ1 ω' .refl R1
    | true =>
      rw [if_pos rfl] at e2
      show ∃ N : L2.St → Hp → Prop, _
      refine ⟨fun σ2 H2 => ∃ μ2 ω2 v2 S2, SStep μ ω H μ2 ω2 H2 ∧ Rel K Z μ2 ω2 H2 σ2 v2 S2 ∧ whileN (fun v1 S1 => evE Φ G c v1 S1) (fun v1 S1 => evSs Φ G sb v1 S1) n v2 S2 = r, fun σ2 H2 h => ⟨n, Nat.lt_succ_self n, h⟩, ?_⟩
      replace q2 : PostS K Z fr μ1 ω' H1 ((evSs Φ G sb v' S1).bind fun r S2 => match r with
        | .nx v1 => whileN (fun v1 S1 => evE Φ G c v1 S1) (fun v1 S1 => evSs Φ G sb v1 S1) n v1 S2
        | .ct v1 => whileN (fun v1 S1 => evE Φ G c v1 S1) (fun v1 S1 => evSs Φ G sb v1 S1) n v1 S2
        | .br v1 => .ok (.nx v1) S2
        | .rt d => .ok (.rt d) S2) Dd := q2
      refine hb Z μ1 ω' H1 σ' v' S1 R1 _ ?_
      cases e3 : evSs Φ G sb v' S1 with
      | exc => rw [e3] at q2; exact q2.elim
      | stuck => rw [e3] at q2; exact q2.elim
      | ok f S3 =>
        rw [e3] at q2 e2
        simp only [Rs.bind_ok] at q2 e2
        cases f with
        | nx v3 => exact fun σ3 H3 μ3 ω3 s3 R4 => ⟨μ3, ω3, v3, S3, (s'.trans (.of s1 R1)).trans s3, R4, e2⟩
        | ct v3 => exact fun σ3 H3 μ3 ω3 s3 R4 => ⟨μ3, ω3, v3, S3, (s'.trans (.of s1 R1)).trans s3, R4, e2⟩
        | br v3 => exact q2
        | rt d => exact q2
end
end Q
/-! QC: more: zips, sorted(set(..)), list(range(..)), a pair of names at once. -/
namespace Q
open PySem L2 PySem.Spec PyProof.Rows

/-! ### sorted, each one once -/
theorem insU_mem {x y : Int} : ∀ {ys : List Int}, y ∈ insU x ys ↔ y = x ∨ y ∈ ys
  | [] => by simp [insU]
  | z :: zs => by
    unfold insU
    split
    · simp
    · split
      · rename_i h1 h2
        subst h2
        simp
      · simp only [List.mem_cons, insU_mem (ys := zs)]
        constructor
        · rintro (h | h | h) <;> simp [h]
        · rintro (h | h | h) <;> simp [h]
theorem insU_up {x : Int} : ∀ {ys : List Int}, ys.Pairwise (· < ·) → (insU x ys).Pairwise (· < ·)
  | [], _ => by simp [insU]
  | z :: zs, h => by
    unfold insU
    obtain ⟨h1, h2⟩ := List.pairwise_cons.mp h
    split
    · rename_i hx
      refine List.pairwise_cons.mpr ⟨fun y hy => ?_, h⟩
      rcases List.mem_cons.mp hy with rfl | hy
      · exact hx
      · exact Int.lt_trans hx (h1 y hy)
    · split
      · exact h
      · rename_i hx hne
        refine List.pairwise_cons.mpr ⟨fun y hy => ?_, insU_up h2⟩
        rcases insU_mem.mp hy with rfl | hy
        · omega
        · exact h1 y hy
theorem sortU_up (xs : List Int) : (sortU xs).Pairwise (· < ·) := by
  unfold sortU
  induction xs with
  | nil => exact .nil
  | cons x xs ih => exact insU_up ih
theorem sortU_mem {y : Int} (xs : List Int) : y ∈ sortU xs ↔ y ∈ xs := by
  unfold sortU
  induction xs with
  | nil => simp
  | cons x xs ih => rw [List.foldr_cons, insU_mem, ih, List.mem_cons]
theorem up_unique : ∀ {xs ys : List Int}, xs.Pairwise (· < ·) → ys.Pairwise (· < ·) → (∀ k, k ∈ xs ↔ k ∈ ys) → xs = ys
  | [], [], _, _, _ => rfl
  | [], y :: ys, _, _, h => absurd ((h y).mpr List.mem_cons_self) (by simp)
  | x :: xs, [], _, _, h => absurd ((h x).mp List.mem_cons_self) (by simp)
  | x :: xs, y :: ys, hx, hy, h => by
    obtain ⟨a1, a2⟩ := List.pairwise_cons.mp hx
    obtain ⟨b1, b2⟩ := List.pairwise_cons.mp hy
    have e : x = y := by
      have p := (h x).mp List.mem_cons_self
      have q := (h y).mpr List.mem_cons_self
      rcases List.mem_cons.mp p with p | p
      · exact p
      · rcases List.mem_cons.mp q with q | q
        · exact q.symm
        · have := a1 y q; have := b1 x p; omega
    subst e
    rw [up_unique a2 b2 fun k => ?_]
    constructor
    · intro hk
      rcases List.mem_cons.mp ((h k).mp (List.mem_cons_of_mem _ hk)) with z | z
      · have := a1 k hk; omega
      · exact z
    · intro hk
      rcases List.mem_cons.mp ((h k).mpr (List.mem_cons_of_mem _ hk)) with z | z
      · have := b1 k hk; omega
      · exact z
variable [TC]
section
variable {K : Fg}
def rSset (K : Fg) : V → Hp → VK → Prop := fun x H1 Q => ∃ (k : Bool) (l : Addr) (ns : List Int), x = .ref l ∧ SqB k K H1 l (ns.map V.int) ∧ ns.length < 64 ∧
  ∀ (ms : List Int) (p : Addr), ms.Pairwise (· < ·) → (∀ k : Int, k ∈ ms ↔ k ∈ ns) → H1 p = none → Q (.ref p) (upd H1 p (.lst (ms.map V.int)))
theorem sset_f : UnF K (rSset K) .sset := by
  intro Z μ ω H σ v S x a Q rr hx q
  change PostF K Z μ ω H σ v (Rs.of (((seqOf S a).bind intL).bind fun ns => if ns.length < 64 then some (.lst ((sortU ns).map .int)) else none) S) Q at q
  cases e : seqOf S a with
  | none => rw [e] at q; exact q.elim
  | some xs =>
    rw [e] at q
    obtain ⟨l, vs, rfl, h, d⟩ := hx.seq rr e
    simp only [Option.bind_some] at q
    cases e2 : intL xs with
    | none => rw [e2] at q; exact q.elim
    | some ns =>
      rw [e2] at q
      simp only [Option.bind_some] at q
      have hv := d.ints e2
      subst hv
      split at q
      · rename_i hl
        have hB : ∃ k, SqB k K H l (ns.map V.int) := h.elim (fun h => ⟨true, h⟩) fun h => ⟨false, h⟩
        obtain ⟨k, hB⟩ := hB
        refine ⟨k, l, ns, rfl, hB, hl, fun ms p h1 h2 hp => ?_⟩
        have em : ms = sortU ns := up_unique h1 (sortU_up ns) fun k => by rw [h2 k, sortU_mem]
        subst em
        exact q.lst rr (VDs.of_ints _) p hp
      · exact q.elim
end
section
variable {K : Fg} {Φ : Cal} {G : Nat → Option D} {ta tb tc : TE} {a b c : Ex}
/-! ### list(range(..)) -/
theorem rg_ok {i j : Int} (hi : okRange i = true) (hj : okRange j = true) : RgOk i j := by
  have h1 := of_decide_eq_true hi
  have h2 := of_decide_eq_true hj
  refine ⟨by omega, by omega, by omega, by omega, by omega⟩
theorem rg_vds {N : Addr → Prop} {μ : List Addr} {H : Hp} (i j : Int) : VDs K N μ H (rgV i j) (rangeD i (j - i).toNat) := by
  unfold rgV rangeD
  generalize (List.range (j - i).toNat) = l
  induction l with
  | nil => exact .nil
  | cons k l ih => exact .cons (.int _) ih
theorem sem_rng1 (ha : SemE K Φ G ta a) : SemF K Φ G (tLstRg (tRg1 ta)) (.op .rng1 (.cons a .nil)) := fun Z μ ω H σ v S R Q q => by
  rw [ev_op1] at q
  show ta σ H _
  refine ha.bind (P := fun r => PostF K Z μ ω H σ v r Q) R q id (fun _ _ _ h => h) fun x H1 μ1 d1 S1 s1 R1 x1 q1 => ?_
  have q1 := q1.re s1 R1
  cases x1 with
  | int i =>
    change PostF K Z μ1 ω H1 σ v (Rs.of (if okRange i = true then some (D.lst (rangeD 0 i.toNat)) else none) S1) Q at q1
    split at q1
    · rename_i hi
      have e : (i - 0).toNat = i.toNat := by rw [Int.sub_zero]
      rw [← e] at q1
      exact ⟨i, rfl, rg_ok (by decide) hi, q1.lst R1 (rg_vds 0 i)⟩
    · exact q1.elim
  | _ => exact q1.elim
theorem sem_rng2 (ha : SemE K Φ G ta a) (hb : SemE K Φ G tb b) : SemF K Φ G (tLstRg (tRg2 ta tb)) (.op .rng2 (.cons a (.cons b .nil))) := fun Z μ ω H σ v S R Q q => by
  rw [ev_op2] at q
  show ta σ H _
  refine ha.bind (P := fun r => PostF K Z μ ω H σ v r Q) R q id (fun _ _ _ h => h) fun x H1 μ1 d1 S1 s1 R1 x1 q1 => ?_
  show tb σ H1 _
  refine hb.bind (P := fun r => PostF K Z μ1 ω H1 σ v r Q) R1 (q1.re s1 R1) id (fun _ _ _ h => h) fun y H2 μ2 d2 S2 s2 R2 x2 q2 => ?_
  have q2 := q2.re s2 R2
  cases x1 with
  | int i =>
    cases x2 with
    | int j =>
      change PostF K Z μ2 ω H2 σ v (Rs.of (if okRange i = true ∧ okRange j = true then some (D.lst (rangeD i (j - i).toNat)) else none) S2) Q at q2
      split at q2
      · rename_i hi
        exact ⟨i, j, rfl, rfl, rg_ok hi.1 hi.2, q2.lst R2 (rg_vds i j)⟩
      · exact q2.elim
    | _ => exact q2.elim
  | _ => cases x2 <;> exact q2.elim

/-! ### zips -/
theorem walk_zip2 {k1 k2 : Bool} {a b : Addr} {xs ys : List V} {n : Nat} (hn : n = min xs.length ys.length) : Walk (Itz2 K k1 k2 a b) n (fun H => SqB k1 K H a xs ∧ SqB k2 K H b ys) (YPair (fun i => xs[i]?) (fun i => ys[i]?)) := by
  subst hn
  refine ⟨fun i _ hi q => ?_, fun _ q => ⟨xs, ys, q.1, q.2, rfl⟩, fun i H v H' _ q y => ?_⟩
  · have h1 : i < xs.length := by omega
    have h2 : i < ys.length := by omega
    exact ⟨xs, ys, xs[i], ys[i], q.1, q.2, by simp [h1], by simp [h2]⟩
  · obtain ⟨T, x, z, h1, h2, h3, h4, h5⟩ := y
    exact ⟨T, x, z, h1, h2, h3, h4 xs q.1, h5 ys q.2⟩
section
variable {N N2 : Addr → Prop} {μ μ2 : List Addr} {H H2 : Hp}
/-- a sequence that nobody changes -/
def FrB (k : Bool) (K : Fg) (N : Addr → Prop) (H : Hp) (a : Addr) (vs : List V) : Prop := match k with
  | true => FrL K N H a vs
  | false => SqT K H a vs
theorem FrB.mono {k : Bool} {a : Addr} {vs : List V} (e : Xt K N N2 μ μ2 H H2) (h : FrB k K N H a vs) : FrB k K N2 H2 a vs := by
  cases k
  · exact e.t _ _ h
  · exact e.l _ _ h
theorem FrB.sq {k : Bool} {a : Addr} {vs : List V} (h : FrB k K N H a vs) : SqB k K H a vs := by
  cases k
  · exact h
  · exact FrL.sq h
theorem VD.fr {y : V} {d : D} {xs : List D} (h : VD K N μ H y d) (e : seqD d = some xs) : ∃ k a vs, y = .ref a ∧ FrB k K N H a vs ∧ VDs K N μ H vs xs := by
  cases h with
  | tup h hs => cases e; exact ⟨false, _, _, rfl, h, hs⟩
  | lst h hs => cases e; exact ⟨true, _, _, rfl, h, hs⟩
  | _ => cases e
theorem itok_zip2 {k1 k2 : Bool} {a b : Addr} {vs ws : List V} {xs ys : List D} (h : FrB k1 K N H a vs) (h2 : FrB k2 K N H b ws) (d : VDs K N μ H vs xs) (d2 : VDs K N μ H ws ys) (hz : vs.length ≤ sizeLine) : ItOk K N μ H (Itz2 K k1 k2 a b) (List.zipWith (fun a b => .tup [a, b]) xs ys) :=
  itok_pair (walk_zip2 (by rw [List.length_zipWith, d.length, d2.length])) (fun N2 μ2 H2 e => ⟨(h.mono e).sq, (h2.mono e).sq⟩) (fun i x y _ hx hy => zip_pair d d2 i x y hx hy) (by rw [List.length_zipWith, ← d.length]; omega)
theorem itok_zip3 {k1 k2 k3 : Bool} {a b c : Addr} {vs ws us : List V} {xs ys zs : List D} (h : FrB k1 K N H a vs) (h2 : FrB k2 K N H b ws) (h3 : FrB k3 K N H c us) (d : VDs K N μ H vs xs) (d2 : VDs K N μ H ws ys) (d3 : VDs K N μ H us zs) (hz : vs.length ≤ sizeLine) :
    ItOk K N μ H (Itz3 K k1 k2 k3 a b c) (List.zipWith (fun p c => .tup (p ++ [c])) (List.zipWith (fun a b => [a, b]) xs ys) zs) := by
  have hl : (List.zipWith (fun p c => D.tup (p ++ [c])) (List.zipWith (fun a b => [a, b]) xs ys) zs).length = min (min vs.length ws.length) us.length := by
    rw [List.length_zipWith, List.length_zipWith, d.length, d2.length, d3.length]
  refine ⟨by rw [hl]; omega, fun H => SqB k1 K H a vs ∧ SqB k2 K H b ws ∧ SqB k3 K H c us, fun i H v H' => ∃ T x y z, v = .ref T ∧ H T = none ∧ H' = upd H T (.tup [x, y, z]) ∧ vs[i]? = some x ∧ ws[i]? = some y ∧ us[i]? = some z, ?_, fun N2 μ2 H2 e => ⟨(h.mono e).sq, (h2.mono e).sq, (h3.mono e).sq⟩, ?_⟩
  · refine ⟨fun i _ hi q => ?_, fun _ q => ⟨vs, ws, us, q.1, q.2.1, q.2.2, hl⟩, fun i H v H' _ q y => ?_⟩
    · rw [hl] at hi
      have h1 : i < vs.length := by omega
      have h2 : i < ws.length := by omega
      have h3 : i < us.length := by omega
      exact ⟨vs, ws, us, vs[i], ws[i], us[i], q.1, q.2.1, q.2.2, by simp [h1], by simp [h2], by simp [h3]⟩
    · obtain ⟨T, x, y, z, h1, h2, h3, h4, h5, h6⟩ := y
      exact ⟨T, x, y, z, h1, h2, h3, h4 vs q.1, h5 ws q.2.1, h6 us q.2.2⟩
  · rintro i N2 μ2 H2 v H3 hi e ⟨T, x, y, z, rfl, hT, rfl, hx, hy, hz'⟩
    obtain ⟨x', e1, q1⟩ := d.getV hx
    obtain ⟨y', e2, q2⟩ := d2.getV hy
    obtain ⟨z', e3, q3⟩ := d3.getV hz'
    have kp : ∀ a u, H2 a = some u → upd H2 T (.tup [x, y, z]) a = some u := fun a u e => by rw [upd_ne (ne_of_none e hT)]; exact e
    have e' : Xt K N N2 μ μ2 H (upd H2 T (.tup [x, y, z])) := e.trans (Xt.grow kp)
    refine ⟨kp, .tup [x', y', z'], ?_, .tup (.of upd_same) (.cons (q1.mono e') (.cons (q2.mono e') (.cons (q3.mono e') .nil)))⟩
    rw [List.getElem?_zipWith, List.getElem?_zipWith, e1, e2, e3]
    rfl
end
theorem sem_izip (ha : SemE K Φ G ta a) (hb : SemE K Φ G tb b) : SemI K Φ G (iZ2 K (tCons (tSz K ta) (tCons tb tNil))) (.zip a b) := fun Z μ ω H σ v S R Q q => by
  simp only [evI] at q
  show ta σ H _
  refine ha.bind (P := fun r => PostI K Z μ ω H σ v r Q) R q id (fun _ _ _ h => h) fun x H1 μ1 d1 S1 s1 R1 x1 q1 hz => ?_
  show tb σ H1 _
  refine hb.bind (P := fun r => PostI K Z μ1 ω H1 σ v r Q) R1 (PostI.re q1 s1 R1) id (fun _ _ _ h => h) fun y H2 μ2 d2 S2 s2 R2 x2 q2 => ?_
  have xt := R1.xt s2
  cases e1 : seqD d1 with
  | none => rw [e1] at q2; exact q2.elim
  | some xs =>
    cases e2 : seqD d2 with
    | none => rw [e1, e2] at q2; exact q2.elim
    | some ys =>
      rw [e1, e2] at q2
      obtain ⟨k1, p1, vs, rfl, f1, g1⟩ := x1.fr e1
      obtain ⟨k2, p2, ws, rfl, f2, g2⟩ := x2.fr e2
      have hz : vs.length ≤ sizeLine := hz _ _ rfl (by cases k1 <;> first | exact .inr f1 | exact .inl f1.sq)
      exact ⟨k1, k2, p1, p2, vs, ws, rfl, (f1.mono xt).sq, f2.sq, q2 _ H2 μ2 s2 R2 (itok_zip2 (f1.mono xt) f2 (g1.mono xt) g2 hz)⟩
theorem sem_izip3 (ha : SemE K Φ G ta a) (hb : SemE K Φ G tb b) (hc : SemE K Φ G tc c) : SemI K Φ G (iZ3 K (tCons (tSz K ta) (tCons tb (tCons tc tNil)))) (.zip3 a b c) := fun Z μ ω H σ v S R Q q => by
  simp only [evI] at q
  show ta σ H _
  refine ha.bind (P := fun r => PostI K Z μ ω H σ v r Q) R q id (fun _ _ _ h => h) fun x H1 μ1 d1 S1 s1 R1 x1 q1 hz => ?_
  show tb σ H1 _
  refine hb.bind (P := fun r => PostI K Z μ1 ω H1 σ v r Q) R1 (PostI.re q1 s1 R1) id (fun _ _ _ h => h) fun y H2 μ2 d2 S2 s2 R2 x2 q2 => ?_
  show tc σ H2 _
  refine hc.bind (P := fun r => PostI K Z μ2 ω H2 σ v r Q) R2 (PostI.re q2 s2 R2) id (fun _ _ _ h => h) fun z H3 μ3 d3 S3 s3 R3 x3 q3 => ?_
  have xt := R1.xt s2
  have xt2 := R2.xt s3
  cases e1 : seqD d1 with
  | none => rw [e1] at q3; exact q3.elim
  | some xs =>
    cases e2 : seqD d2 with
    | none => rw [e1, e2] at q3; exact q3.elim
    | some ys =>
      cases e3 : seqD d3 with
      | none => rw [e1, e2, e3] at q3; exact q3.elim
      | some zs =>
        rw [e1, e2, e3] at q3
        obtain ⟨k1, p1, vs, rfl, f1, g1⟩ := x1.fr e1
        obtain ⟨k2, p2, ws, rfl, f2, g2⟩ := x2.fr e2
        obtain ⟨k3, p3, us, rfl, f3, g3⟩ := x3.fr e3
        have hz : vs.length ≤ sizeLine := hz _ _ rfl (by cases k1 <;> first | exact .inr f1 | exact .inl f1.sq)
        have f1' := (f1.mono xt).mono xt2
        have f2' := f2.mono xt2
        exact ⟨k1, k2, k3, p1, p2, p3, vs, ws, us, rfl, f1'.sq, f2'.sq, f3.sq, q3 _ H3 μ3 s3 R3 (itok_zip3 f1' f2' f3 ((g1.mono xt).mono xt2) (g2.mono xt2) g3 hz)⟩

/-! ### a, b = x, y with plain names -/
variable {fr : Bool}
theorem sem_par2 {i j : Nat} {t : TA} {es : Exs} (hs : SemA K Φ G t es) (hl : es.len = 2) : SemS K Φ G fr (tPar i j t) (.asg (.tup (.cons (.name i) (.cons (.name j) .nil))) (.tup es)) := fun Z μ ω H σ v S R Dd q => by
  simp only [evS, evE] at q
  cases e : evEs Φ G es v S with
  | exc => rw [e] at q; exact q.elim
  | stuck => rw [e] at q; exact q.elim
  | ok ds S1 =>
    refine hs Z μ ω H σ v S R _ ?_
    rw [e] at q ⊢
    intro ys H1 μ1 s1 R1 x1
    simp only [Rs.bind_ok] at q
    have hd := evEs_len es v S ds S1 e
    rw [hl] at hd
    match ds, hd, x1 with
    | [d1, d2], _, .cons (v := v1) h1 (.cons (v := v2) h2 .nil) =>
      simp only [Tg.set, Tgs.set] at q
      exact ⟨v1, v2, rfl, q _ H1 μ1 ω (.of s1 R1) ((R1.set h1 i).set h2 j)⟩
theorem sem_par3 {i j l : Nat} {t : TA} {es : Exs} (hs : SemA K Φ G t es) (hl : es.len = 3) : SemS K Φ G fr (tPar3 i j l t) (.asg (.tup (.cons (.name i) (.cons (.name j) (.cons (.name l) .nil)))) (.tup es)) := fun Z μ ω H σ v S R Dd q => by
  simp only [evS, evE] at q
  cases e : evEs Φ G es v S with
  | exc => rw [e] at q; exact q.elim
  | stuck => rw [e] at q; exact q.elim
  | ok ds S1 =>
    refine hs Z μ ω H σ v S R _ ?_
    rw [e] at q ⊢
    intro ys H1 μ1 s1 R1 x1
    simp only [Rs.bind_ok] at q
    have hd := evEs_len es v S ds S1 e
    rw [hl] at hd
    match ds, hd, x1 with
    | [d1, d2, d3], _, .cons (v := v1) h1 (.cons (v := v2) h2 (.cons (v := v3) h3 .nil)) =>
      simp only [Tg.set, Tgs.set] at q
      exact ⟨v1, v2, v3, rfl, q _ H1 μ1 ω (.of s1 R1) (((R1.set h1 i).set h2 j).set h3 l)⟩
end
end Q
/-! Q8: the check that a small-language expression is what a syntax tree says. -/
namespace Q
open PySem L2 PySem.Spec PyProof.Rows
variable [TC]

/-! ### what is known of a context -/
structure Pr where
  K : Fg
  Φ : Cal
  G : Nat → Option D
  gv : Nat → V
structure Cn where
  N : List Str
  sc : Scope
  own : List Str
  F : List (Str × (Nat × Nat × Bool))
  gl : List (Str × Nat)
  bl : List Str
  lam : Bool
structure FnAt (X : Cx) (x : Str) (sp : Sp) : Prop where
  at_ : ∃ k f fd ps, FnG X.prog X.w X.K X.mg X.base CX0 k f fd ps sp ∧ Room k X.A ∧ X.mg x = some (.ref f) ∧ PySem.W.keepIn X.K (.ref f) = true ∧ Binds X.K fd ps []
structure CtxOk (p : Pr) (c : Cn) (X : Cx) : Prop where
  hN : X.N = c.N
  hsc : X.env.scope = c.sc
  kind : c.sc.kind = .function
  nd : c.N.Nodup
  calm : X.calm = true
  hK : X.K = p.K
  un : X.A.units + 128 < cLine
  gu : X.A.guards = some []
  dp : X.A.depth < recursionLimit
  lam : c.lam = true → ∃ cd P, LamX.TabB X.base X.mg cd P ∧ X.env.code = .ref cd ∧ (P, X.env.qual ++ "<lambda>") ∈ TC.T ∧ ∀ q ∈ TC.T, q.1 = P → q.2 = X.env.qual ++ "<lambda>"
  fn : ∀ x ∈ c.own, X.fn x = true
  blt : ∀ x ∈ c.bl, X.mg x = none
  fs : ∀ x f n fr, c.F.lookup x = some (f, n, fr) → FnAt X x (spOf p.K p.Φ f n fr)
  gs : ∀ x k, c.gl.lookup x = some k → ∃ u d, X.mg x = some u ∧ RelV (p.gv k) u ∧ p.G k = some d ∧ ∀ N μ H, VD p.K N μ H (p.gv k) d
def Cn.blk (c : Cn) (scope : Scope) : Cn := { c with lam := false, sc := relS scope c.sc, own := (scope.names.filter fun y => y.2 == .cell).map (·.1) }
theorem CtxOk.blk {p : Pr} {c : Cn} {X : Cx} (ok : CtxOk p c X) {scope : Scope} {own : List (Str × Nat)} (b : BlkOk c.N c.sc scope own) (s : Shared) (H : Hp) (C : Addr) (cl : List (Str × Addr)) (fp : List Addr) :
    CtxOk p (c.blk scope) (X.blk s H scope (compEnvC scope cl C X.env) fp) := by
  refine ⟨ok.hN, ?_, ?_, ok.nd, ok.calm, ok.hK, ok.un, ok.gu, ok.dp, (fun e => nomatch e), fun x hx => ?_, ok.blt, ?_, ok.gs⟩
  · show relS scope X.env.scope = relS scope c.sc
    rw [ok.hsc]
  · exact b.kind
  · obtain ⟨y, hy, rfl⟩ := List.mem_map.mp hx
    obtain ⟨h1, h2⟩ := List.mem_filter.mp hy
    show (scope.names.lookup y.1 == some .cell) = true
    rw [b.uniq y h1]
    obtain ⟨y1, y2⟩ := y
    cases y2 <;> first | rfl | (exact absurd (show false = true from h2) (by decide))
  · intro x f n fr h
    obtain ⟨k, f', fd, ps, h⟩ := (ok.fs x f n fr h).at_
    exact ⟨k, f', fd, ps, h⟩

/-! ### small checks -/
def isG (c : Cn) (x : Str) : Bool := match c.sc.names.lookup x with
  | some .globalImplicit => !(x == ("__debug__" : Str)) && !(x == ("__name__" : Str))
  | _ => false
def isB (c : Cn) (x : Str) : Bool := decide (x ∈ c.bl) && isG c x
def vis (c : Cn) (x : Str) : Bool := match c.sc.names.lookup x with
  | some .local => true
  | some .cell => true
  | some .free => true
  | _ => false
def stor (c : Cn) (x : Str) : Bool := match c.sc.names.lookup x with
  | some .local => true
  | some .cell => decide (x ∈ c.own)
  | _ => false
def slot (c : Cn) (i : Nat) (x : Str) : Bool := decide (c.N[i]? = some x) && vis c x && !(x == ("__debug__" : Str)) && !(x == ("__classdict__" : Str))
def varOk (c : Cn) (e : Expr) (i : Nat) : Bool := match e with
  | .Name x _ => slot c i x
  | _ => false
def globOk (c : Cn) (e : Expr) (k : Nat) : Bool := match e with
  | .Name x _ => isG c x && decide (c.gl.lookup x = some k)
  | _ => false
def cstOk (e : Expr) (d : D) : Bool := match e, d with
  | .Constant (.int i) _ _, .int j => decide (i = j)
  | .Constant (.bool i) _ _, .bl j => i == j
  | .Constant (.str i) _ _, .str j => decide (i = j) && PyData.strOk j
  | .Constant .none _ _, .non => true
  | _, _ => false
section
variable {p : Pr} {c : Cn} {X : Cx} {x : Str}
theorem CtxOk.gl (ok : CtxOk p c X) (h : isG c x = true) : Gl X x ∧ (x == ("__debug__" : Str)) = false ∧ x ≠ "__name__" := by
  unfold isG at h
  split at h
  · rename_i e
    simp only [Bool.and_eq_true, Bool.not_eq_true'] at h
    refine ⟨?_, h.1, fun z => ?_⟩
    · show X.env.scope.names.lookup x = _
      rw [ok.hsc]; exact e
    · have := h.2
      rw [z] at this
      exact absurd this (by decide)
  · cases h
theorem CtxOk.isB (ok : CtxOk p c X) (h : isB c x = true) : Gl X x ∧ X.mg x = none ∧ (x == ("__debug__" : Str)) = false ∧ x ≠ "__name__" := by
  unfold Q.isB at h
  simp only [Bool.and_eq_true, decide_eq_true_eq] at h
  obtain ⟨h1, h2, h3⟩ := ok.gl h.2
  exact ⟨h1, ok.blt x h.1, h2, h3⟩
theorem CtxOk.vis (ok : CtxOk p c X) (h : vis c x = true) : Vis X.env.scope x := by
  unfold Q.vis at h
  unfold Vis
  rw [ok.hsc]
  split at h <;> first | (rename_i e; first | exact .inl e | exact .inr (.inl e) | exact .inr (.inr e)) | cases h
theorem CtxOk.slot {i : Nat} (ok : CtxOk p c X) (h : slot c i x = true) : X.N[i]? = some x ∧ Vis X.env.scope x ∧ (x == ("__debug__" : Str)) = false ∧ (x == ("__classdict__" : Str)) = false := by
  unfold Q.slot at h
  simp only [Bool.and_eq_true, Bool.not_eq_true', decide_eq_true_eq] at h
  obtain ⟨⟨⟨h1, h2⟩, h3⟩, h4⟩ := h
  exact ⟨by rw [ok.hN]; exact h1, ok.vis h2, h3, h4⟩
theorem CtxOk.stor (ok : CtxOk p c X) (h : stor c x = true) : L2.Loc X.env.scope x ∧ (X.fn x = true ∨ X.env.scope.names.lookup x = some .local) := by
  unfold Q.stor at h
  unfold L2.Loc
  rw [ok.hsc]
  split at h
  · rename_i e; exact ⟨.inl e, .inr e⟩
  · rename_i e; exact ⟨.inr e, .inl (ok.fn x (of_decide_eq_true h))⟩
  · cases h
end

/-! ### what a sound expression is -/
def nonO : Ex → Bool
  | .ovar _ => false
  | _ => true
def opF : Op → Bool
  | .ix => false
  | _ => true
def notL : D → Bool
  | .lst _ => false
  | .ref _ => false
  | _ => true
def isF (c : Cn) : Ex → Bool
  | .cst d => notL d
  | .op o _ => opF o
  | .chain .. => true
  | .srtL .. => true
  | .tup _ => true
  | .lst _ => true
  | .lc .. => true
  | .lc2 .. => true
  | .call f _ => c.F.any fun y => y.2.1 == f && y.2.2.2
  | _ => false
def isBo : Ex → Bool
  | .and _ _ => true
  | .or _ _ => true
  | _ => false
def isAnd : Ex → Bool
  | .and _ _ => true
  | _ => false
def isOr : Ex → Bool
  | .or _ _ => true
  | _ => false
def tst : Ex → Bool
  | .ovar _ => false
  | .ife _ _ _ => false
  | .mk _ => false
  | .pure a => tst a
  | _ => true
def star : Expr → Bool
  | .Starred _ _ => true
  | _ => false
def plainT : Expr → Bool
  | .UnaryOp .Not _ _ => false
  | .BoolOp _ _ _ => false
  | .IfExp _ _ _ _ => false
  | .Compare _ _ _ _ => false
  | _ => true
def noComp : Expr → Bool
  | .ListComp _ _ _ _ => false
  | .SetComp _ _ _ _ => false
  | .DictComp _ _ _ _ _ => false
  | _ => true
theorem star_each {e : Expr} {es : List Expr} {env : Env} (h : star e = false) : starEach (e :: es) env = (false, eval e env) :: starEach es env := by
  cases e <;> first | rfl | cases h
theorem star_none {es : List Expr} {env : Env} (pos : Pos) (h : es.all (fun e => !star e) = true) : (backTo pos (starEach es env)).any (·.1) = false := by
  induction es with
  | nil => rfl
  | cons e es ih =>
    simp only [List.all_cons, Bool.and_eq_true, Bool.not_eq_true'] at h
    rw [star_each h.1]
    unfold backTo at ih ⊢
    simp only [List.map_cons, List.any_cons, Bool.false_or]
    exact ih h.2
theorem isT_plain {e : Expr} (h : plainT e = true) (env : Env) : ∀ whole, isTrue e env whole = (do let v ← whole; standAt e.pos; holding [v] (truthy v)) := by
  intro whole
  cases e with
  | UnaryOp op x pos => cases op <;> first | rfl | cases h
  | _ => first | rfl | cases h
theorem sw_none {e : Expr} (h : noComp e = true) (t : Option Expr) (l : Nat) (env : Env) : swapsWith e t l env = pure false := by
  cases e <;> first | rfl | cases h

structure SA (p : Pr) (c : Cn) (e : Expr) (ir : Ex) (t : TE) : Prop where
  pe : ∀ X, CtxOk p c X → PE X e t
  asg : ∀ X, CtxOk p c X → ∀ i y py spos, c.N[i]? = some y → stor c y = true → PS X (.Assign [.Name y py] e spos) (tAsg t (gName i))
  sb : SemB p.K p.Φ p.G t ir
  se : nonO ir = true → SemE p.K p.Φ p.G t ir
  sf : isF c ir = true → SemF p.K p.Φ p.G t ir
  pt : tst ir = true → ∃ tt : TT, (∀ X, CtxOk p c X → PT X e tt) ∧ SemT p.K p.Φ p.G tt ir
  pw : isBo ir = true → ∃ tt : TT, (∀ X, CtxOk p c X → PW X e tt) ∧ SemT p.K p.Φ p.G tt ir
section
variable {p : Pr} {c : Cn} {e : Expr} {ir : Ex} {t : TE}
theorem asg_of (pe : ∀ X, CtxOk p c X → PE X e t) (hn : noComp e = true) : ∀ X, CtxOk p c X → ∀ i y py spos, c.N[i]? = some y → stor c y = true → PS X (.Assign [.Name y py] e spos) (tAsg t (gName i)) := by
  intro X ok i y py spos hi hs
  obtain ⟨h1, h2⟩ := ok.stor hs
  exact ps_set (by rw [ok.hN]; exact ok.nd) (by rw [ok.hN]; exact hi) h1 (pe X ok) (sw_none hn _ _ _) h2
/-- a plain expression with an answer that may be a new list -/
theorem SA.ofF (pe : ∀ X, CtxOk p c X → PE X e t) (sf : SemF p.K p.Φ p.G t ir) (hc : noComp e = true) (hp : plainT e = true) (hb : isBo ir = false) : SA p c e ir t :=
  ⟨pe, asg_of pe hc, sf.toE.toB, fun _ => sf.toE, fun _ => sf, fun _ => ⟨tB t, fun X ok => pt_val (pe X ok) (isT_plain hp _), sem_test sf.toE⟩, fun h => by rw [hb] at h; cases h⟩
theorem SA.ofE (pe : ∀ X, CtxOk p c X → PE X e t) (se : SemE p.K p.Φ p.G t ir) (hc : noComp e = true) (hp : plainT e = true) (hb : isBo ir = false) (hf : isF c ir = false) : SA p c e ir t :=
  ⟨pe, asg_of pe hc, se.toB, fun _ => se, fun h => by (rw [hf] at h; cases h), fun _ => ⟨tB t, fun X ok => pt_val (pe X ok) (isT_plain hp _), sem_test se⟩, fun h => by rw [hb] at h; cases h⟩
/-- .. with a test of its own -/
theorem SA.ofC {tt : TT} (pe : ∀ X, CtxOk p c X → PE X e t) (pt : ∀ X, CtxOk p c X → PT X e tt) (st : SemT p.K p.Φ p.G tt ir) (sf : SemF p.K p.Φ p.G t ir) (hc : noComp e = true) (hb : isBo ir = false) : SA p c e ir t :=
  ⟨pe, asg_of pe hc, sf.toE.toB, fun _ => sf.toE, fun _ => sf, fun _ => ⟨tt, pt, st⟩, fun h => by rw [hb] at h; cases h⟩
theorem SemE.toF {K : Fg} {Φ : Cal} {G : Nat → Option D} (h : SemE K Φ G t ir) (hn : ∀ v S d S', evE Φ G ir v S = .ok d S' → ∀ xs, d ≠ .lst xs) : SemF K Φ G t ir := fun Z μ ω H σ v S r Q q => h Z μ ω H σ v S r Q (by
  cases z : evE Φ G ir v S with
  | ok d S' =>
    rw [z] at q
    exact fun y H' μ' s' r' x => q.2 (hn v S d S' z) y H' μ' s' r' x
  | exc c fs S' => rw [z] at q; exact q
  | stuck => rw [z] at q; exact q)
end

/-! ### operators -/
def binOp : Operator → Op → Bool
  | .Add, .add => true
  | .Sub, .sub => true
  | .Mult, .mul => true
  | .FloorDiv, .fdiv => true
  | .Mod, .mod => true
  | .Pow, .pow => true
  | _, _ => false
theorem bin_r {K : Fg} {a : Operator} {o : Op} (h : binOp a o = true) : opF o = true ∧ ∃ r : R2, (∀ X : Cx, X.K = K → OpR X (binaryOp a) r) ∧ BinF K r o := by
  unfold binOp at h
  split at h
  · exact ⟨rfl, _, fun X e => by subst e; exact op_addA, add_f⟩
  · exact ⟨rfl, _, fun X e => op_subA, sub_f⟩
  · exact ⟨rfl, _, fun X e => by subst e; exact op_mulA, mul_f⟩
  · exact ⟨rfl, _, fun X e => op_fdivW, fdiv_f⟩
  · exact ⟨rfl, _, fun X e => op_mod, mod_f⟩
  · exact ⟨rfl, _, fun X e => op_pow, pow_f⟩
  · cases h
def cmpOp : CmpOp → Op → Bool
  | .Lt, .lt => true
  | .In, .inn => true
  | .NotIn, .nin => true
  | .LtE, .le => true
  | .Gt, .gt => true
  | .GtE, .ge => true
  | .Eq, .eq => true
  | .NotEq, .ne => true
  | .Is, .isB => true
  | .IsNot, .notB => true
  | _, _ => false
theorem cmp_r {K : Fg} {a : CmpOp} {o : Op} (h : cmpOp a o = true) : opF o = true ∧ ∃ r : R2, (∀ X : Cx, X.K = K → X.A.units + 128 < cLine → OpR X (compareOp a) r) ∧ BinF K r o := by
  unfold cmpOp at h
  split at h
  · exact ⟨rfl, _, fun X e _ => op_lt, lt_f⟩
  · exact ⟨rfl, _, fun X e u => by subst e; exact op_inA u, inn_f⟩
  · exact ⟨rfl, _, fun X e u => by subst e; exact op_ninA u, nin_f⟩
  · exact ⟨rfl, _, fun X e _ => op_leA, le_f⟩
  · exact ⟨rfl, _, fun X e _ => op_gt, gt_f⟩
  · exact ⟨rfl, _, fun X e _ => op_ge, ge_f⟩
  · exact ⟨rfl, _, fun X e u => by subst e; exact op_eqD (by omega), eq_f⟩
  · exact ⟨rfl, _, fun X e u => by subst e; exact op_neD (by omega), ne_f⟩
  · exact ⟨rfl, _, fun X e _ => op_isBl, isB_f⟩
  · exact ⟨rfl, _, fun X e _ => op_notBl, notB_f⟩
  · cases h
def isNoneE : Expr → Bool
  | .Constant .none _ _ => true
  | _ => false
def nonOp : CmpOp → Op → Bool
  | .Is, .isN => true
  | .IsNot, .notN => true
  | _, _ => false
def isSl : Expr → Bool
  | .Slice _ _ _ _ => true
  | _ => false
theorem plain_ix {b : Expr} (h : isSl b = false) : PlainIx b := fun o i => by
  cases b <;> first | rfl | cases h
/-! ### built-ins by name -/
def call1 (x : Str) (o : Op) : Bool := match o with
  | .len => x == ("len" : Str)
  | .all => x == ("all" : Str)
  | .any => x == ("any" : Str)
  | .sum => x == ("sum" : Str)
  | .max1 => x == ("max" : Str)
  | .min1 => x == ("min" : Str)
  | .toLst => x == ("list" : Str)
  | .toTup => x == ("tuple" : Str)
  | .toInt => x == ("int" : Str)
  | .srt => x == ("sorted" : Str)
  | .strO => x == ("str" : Str)
  | _ => false
def call2 (x : Str) (o : Op) : Bool := match o with
  | .max2 => x == ("max" : Str)
  | .min2 => x == ("min" : Str)
  | _ => false
theorem UnF.imp {K : Fg} {r r' : V → Hp → VK → Prop} {o : Op} (h : UnF K r o) (i : ∀ x H Q, r x H Q → r' x H Q) : UnF K r' o := fun Z μ ω H σ v S x a Q R hx q => i _ _ _ (h Z μ ω H σ v S x a Q R hx q)
structure Bi (K : Fg) (x : Str) (r : List V → Hp → VK → Prop) : Prop where
  run : ∀ (X : Cx) (p pos : Pos) (e : Expr) (es : List Expr) (t : TA), X.K = K → X.calm = true → X.A.units + 128 < cLine → X.A.guards = some [] → Gl X x → X.mg x = none → PA X (e :: es) t → (e :: es).all (fun e => !star e) = true → PE X (.Call (.Name x p) (e :: es) [] pos) (tCB r t)
theorem Bi.fn {K : Fg} {x : Str} {id : String} {r : List V → Hp → VK → Prop} (hc : ∀ X : Cx, X.K = K → X.calm = true → X.A.units + 128 < cLine → X.A.guards = some [] → CallR X (.builtin id) r) (hv : bootBuiltins x = some (.builtin id)) (hn : x ≠ "__name__") (hd : (x == ("__debug__" : Str)) = false) : Bi K x r :=
  ⟨fun X p pos e es t k c u gd g m ha hs => by
    simp only [List.all_cons, Bool.and_eq_true, Bool.not_eq_true'] at hs
    exact pe_callB (hc X k c u gd) g m hv ha hn hd (star_each hs.1) (star_none pos hs.2)⟩
theorem Bi.ty {K : Fg} {x : Str} {id : String} {r : List V → Hp → VK → Prop} (hc : ∀ X : Cx, X.K = K → X.calm = true → X.A.units + 128 < cLine → X.A.guards = some [] → CallR X (.type id) r) (hv : bootBuiltins x = some (.type id)) (hn : x ≠ "__name__") (hd : (x == ("__debug__" : Str)) = false) : Bi K x r :=
  ⟨fun X p pos e es t k c u gd g m ha hs => by
    simp only [List.all_cons, Bool.and_eq_true, Bool.not_eq_true'] at hs
    exact pe_callTy (hc X k c u gd) g m hv ha hn hd (star_each hs.1) (star_none pos hs.2)⟩
theorem call1_r {K : Fg} {x : Str} {o : Op} (h : call1 x o = true) : opF o = true ∧ ∃ r, Bi K x r ∧ UnF K (fun x H Q => r [x] H Q) o := by
  unfold call1 at h
  split at h
  · obtain rfl : x = ("len" : Str) := by simpa using h
    exact ⟨rfl, fun xs H Q => ∃ x n, xs = [x] ∧ LenV K x H n ∧ Q (.int n) H, .fn (fun X e _ _ _ => by subst e; exact call_len) (by decide +kernel) (by decide) (by decide), len_f.imp fun x H Q ⟨n, h, q⟩ => ⟨x, n, rfl, h, q⟩⟩
  · obtain rfl : x = ("all" : Str) := by simpa using h
    exact ⟨rfl, _, .fn (fun X e c u gd => by subst e; exact cr_all c) (by decide +kernel) (by decide) (by decide), all_f⟩
  · obtain rfl : x = ("any" : Str) := by simpa using h
    exact ⟨rfl, _, .fn (fun X e c u gd => by subst e; exact cr_any c) (by decide +kernel) (by decide) (by decide), any_f⟩
  · obtain rfl : x = ("sum" : Str) := by simpa using h
    exact ⟨rfl, _, .fn (fun X e c u gd => by subst e; exact cr_sum c) (by decide +kernel) (by decide) (by decide), sum_f⟩
  · obtain rfl : x = ("max" : Str) := by simpa using h
    exact ⟨rfl, fun vs H Q => rMax K vs H Q ∨ rBestD maxP K vs H Q, .fn (id := "max") (fun X e c u gd => by subst e; exact (cr_max c).or (cr_maxD c u)) (by decide +kernel) (by decide) (by decide), max1_f⟩
  · obtain rfl : x = ("min" : Str) := by simpa using h
    exact ⟨rfl, fun vs H Q => rMin K vs H Q ∨ rBestD minP K vs H Q, .fn (id := "min") (fun X e c u gd => by subst e; exact (cr_min c).or (cr_minD c u)) (by decide +kernel) (by decide) (by decide), min1_f⟩
  · obtain rfl : x = ("list" : Str) := by simpa using h
    exact ⟨rfl, fun xs H Q => ∃ p ys, xs = [.ref p] ∧ (SqL K H p ys ∨ SqT K H p ys) ∧ ∀ l, H l = none → Q (.ref l) (upd H l (.lst ys)), .ty (fun X e c u gd => by subst e; exact call_list_of) (by decide +kernel) (by decide) (by decide), toLst_f.imp fun x H Q ⟨p, ys, e, h, q⟩ => ⟨p, ys, by rw [e], h, q⟩⟩
  · obtain rfl : x = ("tuple" : Str) := by simpa using h
    exact ⟨rfl, fun xs H Q => ∃ p ys, xs = [.ref p] ∧ ((SqL K H p ys ∧ ∀ l, H l = none → Q (.ref l) (upd H l (.tup ys))) ∨ (SqT K H p ys ∧ Q (.ref p) H)), .ty (fun X e c u gd => by subst e; exact call_tuple_of) (by decide +kernel) (by decide) (by decide), toTup_f.imp fun x H Q ⟨p, ys, e, q⟩ => ⟨p, ys, by rw [e], q⟩⟩
  · obtain rfl : x = ("int" : Str) := by simpa using h
    exact ⟨rfl, _, .ty (fun X e c u gd => call_int1) (by decide +kernel) (by decide) (by decide), toInt_f⟩
  · obtain rfl : x = ("sorted" : Str) := by simpa using h
    exact ⟨rfl, _, .fn (fun X e c u gd => by subst e; exact cr_sortedD u) (by decide +kernel) (by decide) (by decide), srt_f⟩
  · obtain rfl : x = ("str" : Str) := by simpa using h
    exact ⟨rfl, _, .ty (fun X e c u gd => by subst e; exact call_strD gd u) (by decide +kernel) (by decide) (by decide), strO_f⟩
  · cases h
theorem call2_r {K : Fg} {x : Str} {o : Op} (h : call2 x o = true) : opF o = true ∧ ∃ r, Bi K x r ∧ BinF K (fun x y H Q => r [x, y] H Q) o := by
  unfold call2 at h
  split at h
  · obtain rfl : x = ("max" : Str) := by simpa using h
    exact ⟨rfl, _, .fn (fun X e c u gd => call_max2 c) (by decide +kernel) (by decide) (by decide), max2_f⟩
  · obtain rfl : x = ("min" : Str) := by simpa using h
    exact ⟨rfl, _, .fn (fun X e c u gd => call_min2 c) (by decide +kernel) (by decide) (by decide), min2_f⟩
  · cases h
/-! isinstance -/
def tyName (c : Cn) (e : Expr) (t : Ty) : Bool := match e with
  | .Name x _ => x == (Str.ofString t.name) && isB c x
  | _ => false
def tyNames (c : Cn) : List Expr → List Ty → Bool
  | [], [] => true
  | e :: es, t :: ts => tyName c e t && tyNames c es ts
  | _, _ => false
def tyArg (c : Cn) (e : Expr) (ts : List Ty) : Bool := match e with
  | .Tuple es _ _ => tyNames c es ts && decide (ts.length ≤ 100)
  | e => match ts with
    | [t] => tyName c e t
    | _ => false
theorem boot_tyN (t : Ty) : bootBuiltins (Str.ofString t.name) = some (.type t.name) := by cases t <;> decide +kernel
theorem ty_pe {p : Pr} {c : Cn} {e : Expr} {t : Ty} (h : tyName c e t = true) : ∀ X, CtxOk p c X → PE X e (tC (.ty t.name)) := by
  intro X ok
  unfold tyName at h
  split at h
  · simp only [Bool.and_eq_true] at h
    obtain rfl := eq_of_beq h.1
    obtain ⟨g, m, hd, hn⟩ := ok.isB h.2
    exact pe_bltn g m (boot_tyN t) rfl hn hd
  · cases h
theorem tyName_star {c : Cn} {e : Expr} {t : Ty} (h : tyName c e t = true) : star e = false := by
  unfold tyName at h
  split at h
  · rfl
  · cases h
def tTys : List Ty → TA
  | [] => tNil
  | t :: ts => tCons (tC (.ty t.name)) (tTys ts)
theorem tys_pa {p : Pr} {c : Cn} : ∀ {es : List Expr} {ts : List Ty}, tyNames c es ts = true → ∀ X, CtxOk p c X → PA X es (tTys ts)
  | [], [], _, X, _ => pa_nil
  | e :: es, t :: ts, h, X, ok => by
    unfold tyNames at h
    simp only [Bool.and_eq_true] at h
    exact pa_cons (ty_pe h.1 X ok) (tys_pa h.2 X ok) (star_each (tyName_star h.1))
  | [], _ :: _, h, _, _ => by cases h
  | _ :: _, [], h, _, _ => by cases h
theorem tys_run {σ : L2.St} {H : Hp} : ∀ {ts : List Ty} {Q : List V → Hp → Prop}, Q (ts.map fun t => V.ty t.name) H → tTys ts σ H Q
  | [], _, q => q
  | t :: ts, Q, q => tys_run (ts := ts) q
theorem tys_cls : ∀ ts : List Ty, Paired ClsV (ts.map fun t => V.ty t.name) (ts.map fun t => Value.type t.name)
  | [] => .nil
  | t :: ts => .cons (.ty _) (tys_cls ts)
theorem kit_any {K : Fg} {n : String} : ∀ {ts : List Ty} {bs : List Bool}, ts.map (fun t => kitB n t.name) = bs.map some → PySem.W.kitAny K (.type n) (ts.map fun t => Value.type t.name) = some (bs.any id)
  | [], [], _ => kitAny_nil
  | t :: ts, b :: bs, h => by
    simp only [List.map_cons, List.cons.injEq] at h
    have ih := kit_any (K := K) (n := n) h.2
    refine kitAny_cons (kit_ty h.1) (fun e => ?_) (fun e => ?_)
    · rw [ih, e]; rfl
    · rw [e]; rfl
  | [], _ :: _, h => by cases h
  | _ :: _, [], h => by cases h
/-- isinstance(x, T), isinstance(x, (T, ..)) -/
def tIsi (K : Fg) (te : TE) (one : Bool) (ts : List Ty) : TE := if one = true then tCB (L2.rIsi K) (tCons te (tCons (tC (.ty ((ts.map Ty.name).headD ""))) tNil)) else tCB (L2.rIsiT K) (tCons te (tCons (tTup (tTys ts)) tNil))
def oneTy : Expr → Bool
  | .Tuple _ _ _ => false
  | _ => true
theorem isi_snd {p : Pr} {c : Cn} {e f : Expr} {ts : List Ty} {te : TE} {a : Ex} {x : Str} {px pos : Pos} (h : tyArg c f ts = true) (hx : x = "isinstance") (hb : isB c x = true) (hs : star e = false) (pe : ∀ X, CtxOk p c X → PE X e te) (sb : SemB p.K p.Φ p.G te a) :
    (∀ X, CtxOk p c X → PE X (.Call (.Name x px) [e, f] [] pos) (tIsi p.K te (oneTy f) ts)) ∧ SemF p.K p.Φ p.G (tIsi p.K te (oneTy f) ts) (.op (.isi ts) (.cons a .nil)) := by
  subst hx
  have b1 : Bi p.K "isinstance" (L2.rIsi p.K) := .fn (fun X e _ _ _ => e ▸ call_isi) boot_isinstance (by decide) (by decide)
  have b2 : Bi p.K "isinstance" (L2.rIsiT p.K) := .fn (fun X e _ _ _ => e ▸ call_isiT) boot_isinstance (by decide) (by decide)
  have u := isi_f (K := p.K) ts
  unfold tyArg at h
  split at h
  · rename_i es k tp
    simp only [Bool.and_eq_true, decide_eq_true_eq] at h
    refine ⟨fun X ok => ?_, ?_⟩
    · obtain ⟨g, m, _, _⟩ := ok.isB hb
      exact b2.run X px pos e [.Tuple es k tp] _ ok.hK ok.calm ok.un ok.gu g m (pa_cons (pe X ok) (pa_cons (pe_tup (tys_pa h.1 X ok)) pa_nil (star_each rfl)) (star_each hs)) (by rw [List.all_cons, List.all_cons, hs]; rfl)
    · intro Z μ ω H σ v S R Q q
      rw [ev_op1] at q
      refine sb.bind (P := fun r => PostF p.K Z μ ω H σ v r Q) R q id (fun _ _ _ h => h) fun x H1 μ1 d1 S1 s1 R1 x1 q1 => ?_
      refine tys_run ⟨by rw [List.length_map]; exact Nat.le_trans h.2 (by rw [sizeLine_eq]; decide), fun tpa hp => ?_⟩
      have s2 : Step μ1 H1 μ1 (upd H1 tpa (.tup (ts.map fun t => V.ty t.name))) := .new hp
      have R2 := R1.new (o := .tup (ts.map fun t => V.ty t.name)) hp
      obtain ⟨n, h1, bs, h2, q2⟩ := u Z μ1 ω _ σ v S1 x d1 Q R2 (x1.mono R1 s2) ((q1.re s1 R1).re s2 R2)
      exact ⟨x, tpa, _, .type n, _, bs.any id, rfl, upd_same, tys_cls ts, h1, kit_any h2, q2⟩
  · split at h
    · have ho : oneTy f = true := by
        unfold tyName at h
        split at h
        · rfl
        · cases h
      rw [ho]
      refine ⟨fun X ok => ?_, ?_⟩
      · obtain ⟨g, m, _, _⟩ := ok.isB hb
        exact b1.run X px pos e [f] _ ok.hK ok.calm ok.un ok.gu g m (pa_cons (pe X ok) (pa_cons (ty_pe h X ok) pa_nil (star_each (tyName_star h))) (star_each hs)) (by rw [List.all_cons, List.all_cons, hs, tyName_star h]; rfl)
      · intro Z μ ω H σ v S R Q q
        rw [ev_op1] at q
        refine sb.bind (P := fun r => PostF p.K Z μ ω H σ v r Q) R q id (fun _ _ _ h => h) fun x H1 μ1 d1 S1 s1 R1 x1 q1 => ?_
        obtain ⟨n, h1, bs, h2, q2⟩ := u Z μ1 ω _ σ v S1 x d1 Q R1 x1 (q1.re s1 R1)
        refine ⟨x, _, .type n, _, bs.any id, rfl, .ty _, h1, ?_, q2⟩
        have h3 := kit_any (K := p.K) h2
        cases bs with
        | nil => cases h2
        | cons b bs =>
          simp only [List.map_cons, List.map_nil, List.cons.injEq] at h2
          cases bs with
          | nil =>
            simp only [List.any_cons, List.any_nil, id, Bool.or_false]
            exact kit_ty h2.1
          | cons => cases h2.2
    · cases h
end Q
/-! Q9: the check of expressions. -/
namespace Q
open PySem L2 PySem.Spec PyProof.Rows
variable [TC]

/-! ### lists of operands -/
def SL (p : Pr) (c : Cn) : List Expr → Exs → Prop
  | [], .nil => True
  | e :: l, .cons ir es => (∃ t, SA p c e ir t) ∧ star e = false ∧ SL p c l es
  | _, _ => False
def allO : Exs → Bool
  | .nil => true
  | .cons e es => nonO e && allO es
theorem SL.all {p : Pr} {c : Cn} : ∀ {l : List Expr} {es : Exs}, SL p c l es → allO es = true → (∃ ta, (∀ X, CtxOk p c X → PA X l ta) ∧ SemA p.K p.Φ p.G ta es) ∧ l.all (fun e => !star e) = true ∧ l.length = es.len
  | [], .nil, _, _ => ⟨⟨_, fun X _ => pa_nil, sem_nil⟩, rfl, rfl⟩
  | e :: l, .cons ir es, ⟨⟨t, h⟩, hs, hl⟩, ho => by
    unfold allO at ho
    simp only [Bool.and_eq_true] at ho
    obtain ⟨⟨ta, h1, h2⟩, h3, h4⟩ := SL.all hl ho.2
    refine ⟨⟨_, fun X ok => pa_cons (h.pe X ok) (h1 X ok) (star_each hs), sem_cons (h.se ho.1) h2⟩, ?_, ?_⟩
    · rw [List.all_cons, hs, h3]; rfl
    · rw [List.length_cons, h4]; rfl
  | [], .cons _ _, h, _ => h.elim
  | _ :: _, .nil, h, _ => h.elim

/-! ### operations by their trees -/
def opArgs : Op → Exs → Bool
  | .slLH, .cons _ es => allO es
  | .cnt, .cons _ es => allO es
  | .slL, .cons _ es => allO es
  | .slH, .cons _ es => allO es
  | .rng1, es => allO es
  | .rng2, es => allO es
  | _, _ => true
/-- the receiver of a method: nothing that is looked at by its name -/
def nameE : Expr → Bool
  | .Name _ _ => true
  | _ => false
def view (c : Cn) (o : Op) : Expr → Option (List Expr)
  | .BinOp a q b _ => if binOp q o = true then some [a, b] else none
  | .UnaryOp .USub a _ => if o = .neg then some [a] else none
  | .Compare a [q] [b] _ => if (cmpOp q o && !behindInMarks q b) = true then some [a, b] else if (nonOp q o && isNoneE b) = true then some [a] else none
  | .Subscript a (.Slice (some l) (some h) none _) _ => if o = .slLH then some [a, l, h] else none
  | .Subscript a (.Slice (some l) none none _) _ => if o = .slL then some [a, l] else none
  | .Subscript a (.Slice none (some h) none _) _ => if o = .slH then some [a, h] else none
  | .Subscript a (.Slice none none (some (.UnaryOp .USub (.Constant (.int 1) _ _) _)) _) _ => if o = .rev then some [a] else none
  | .Subscript a b _ => if o = .ix ∧ isSl b = false then some [a, b] else none
  | .Call (.Name x _) [a] [] _ => if (call1 x o && isB c x) = true then some [a] else match o, a with
    | .sset, .Call (.Name y _) [b] [] _ => if (x == ("sorted" : Str) && isB c x && y == ("set" : Str) && isB c y) = true then some [b] else none
    | .lset, .Call (.Name y _) [b] [] _ => if (x == ("len" : Str) && isB c x && y == ("set" : Str) && isB c y) = true then some [b] else none
    | .ssetS, .Call (.Name y _) [b] [] _ => if (x == ("sorted" : Str) && isB c x && y == ("set" : Str) && isB c y) = true then some [b] else none
    | .rng1, .Call (.Name y _) [b] [] _ => if (x == ("list" : Str) && isB c x && y == ("range" : Str) && isB c y) = true then some [b] else none
    | .rng2, .Call (.Name y _) [b, d] [] _ => if (x == ("list" : Str) && isB c x && y == ("range" : Str) && isB c y) = true then some [b, d] else none
    | _, _ => none
  | .Call (.Name x _) [a, b] [] _ => if (call2 x o && isB c x) = true then some [a, b] else match o with
    | .isi ts => if (x == ("isinstance" : Str) && isB c x && tyArg c b ts) = true then some [a] else none
    | _ => none
  | .Call (.Attribute o' n ap) [a] [] cp => if o = .cnt ∧ n = "count" ∧ ap.endLine = cp.line ∧ nameE o' = true then some [o', a] else none
  | _ => none
section
variable {p : Pr} {c : Cn}
theorem SL.one {a : Expr} {es : Exs} (h : SL p c [a] es) : ∃ x, es = .cons x .nil ∧ (∃ t, SA p c a x t) ∧ star a = false := by
  cases es with
  | nil => exact h.elim
  | cons x es =>
    cases es with
    | nil => exact ⟨x, rfl, h.1, h.2.1⟩
    | cons => exact h.2.2.elim
theorem SL.two {a b : Expr} {es : Exs} (h : SL p c [a, b] es) : ∃ x y, es = .cons x (.cons y .nil) ∧ (∃ t, SA p c a x t) ∧ (∃ t, SA p c b y t) ∧ star a = false ∧ star b = false := by
  cases es with
  | nil => exact h.elim
  | cons x es =>
    obtain ⟨y, rfl, h2, h3⟩ := SL.one h.2.2
    exact ⟨x, y, rfl, h.1, h2, h.2.1, h3⟩
theorem SL.three {a b d : Expr} {es : Exs} (h : SL p c [a, b, d] es) : ∃ x y z, es = .cons x (.cons y (.cons z .nil)) ∧ (∃ t, SA p c a x t) ∧ (∃ t, SA p c b y t) ∧ (∃ t, SA p c d z t) := by
  cases es with
  | nil => exact h.elim
  | cons x es =>
    obtain ⟨y, z, rfl, h2, h3, _⟩ := SL.two h.2.2
    exact ⟨x, y, z, rfl, h.1, h2, h3⟩
theorem op_snd {o : Op} {e : Expr} {l : List Expr} {es : Exs} (hv : view c o e = some l) (h : SL p c l es) (hO : opArgs o es = true) : ∃ t, SA p c e (.op o es) t := by
  unfold view at hv
  split at hv
  · split at hv
    · rename_i a q b pos hb
      cases hv
      obtain ⟨x, y, rfl, ⟨ta, ha⟩, ⟨tb, hb'⟩, _, _⟩ := h.two
      obtain ⟨_, r, h1, h2⟩ := bin_r (K := p.K) hb
      exact ⟨_, .ofF (fun X ok => pe_op (h1 X ok.hK) (ha.pe X ok) (hb'.pe X ok)) (sem_bin ha.sb hb'.sb h2) rfl rfl rfl⟩
    · cases hv
  · split at hv
    · rename_i a pos hb
      cases hv
      subst hb
      obtain ⟨x, rfl, ⟨ta, ha⟩, _⟩ := h.one
      exact ⟨_, .ofF (fun X ok => pe_un un_neg (ha.pe X ok)) (sem_un ha.sb neg_f) rfl rfl rfl⟩
    · cases hv
  · split at hv
    · rename_i a q b pos hb
      cases hv
      obtain ⟨x, y, rfl, ⟨ta, ha⟩, ⟨tb, hb'⟩, _, _⟩ := h.two
      simp only [Bool.and_eq_true, Bool.not_eq_true'] at hb
      obtain ⟨_, r, h1, h2⟩ := cmp_r (K := p.K) hb.1
      have sf := sem_bin ha.sb hb'.sb h2
      exact ⟨_, .ofC (fun X ok => pe_cmpR (h1 X ok.hK ok.un) (ha.pe X ok) (hb'.pe X ok) hb.2) (fun X ok => pt_cmpR (h1 X ok.hK ok.un) (ha.pe X ok) (hb'.pe X ok) hb.2) (sem_test sf.toE) sf rfl rfl⟩
    · split at hv
      · rename_i a q b pos hb hn
        cases hv
        simp only [Bool.and_eq_true] at hn
        obtain ⟨x, rfl, ⟨ta, ha⟩, _⟩ := h.one
        obtain ⟨hq, hb⟩ := hn
        unfold isNoneE at hb
        split at hb
        · unfold nonOp at hq
          split at hq
          · have sf : SemF p.K p.Φ p.G (tIsN ta) (.op .isN (.cons x .nil)) := sem_un ha.sb isN_f
            exact ⟨_, .ofC (fun X ok => pe_cmp (pc_isN (ha.pe X ok)) (nomark _)) (fun X ok => pt_cmp (pc_isN (ha.pe X ok)) (nomark _)) (sem_test sf.toE) sf rfl rfl⟩
          · have sf : SemF p.K p.Φ p.G (tNotN ta) (.op .notN (.cons x .nil)) := sem_un ha.sb notN_f
            exact ⟨_, .ofC (fun X ok => pe_cmp (pc_notN (ha.pe X ok)) (nomark _)) (fun X ok => pt_cmp (pc_notN (ha.pe X ok)) (nomark _)) (sem_test sf.toE) sf rfl rfl⟩
          · cases hq
        · cases hb
      · cases hv
  · split at hv
    · rename_i a l u p2 pos hb
      cases hv
      subst hb
      obtain ⟨x, y, z, rfl, ⟨ta, ha⟩, ⟨tb, hb'⟩, ⟨td, hd⟩⟩ := h.three
      unfold opArgs allO allO at hO
      simp only [Bool.and_eq_true] at hO
      have sf := sem_slLH ha.sb (hb'.se hO.1) (hd.se hO.2.1)
      exact ⟨_, .ofF (fun X ok => by rw [← ok.hK]; exact pe_slice sl_m (ha.pe X ok) (po_some (hb'.pe X ok)) (po_some (hd.pe X ok))) sf rfl rfl rfl⟩
    · cases hv
  · split at hv
    · rename_i a l p2 pos hb
      cases hv
      subst hb
      obtain ⟨x, y, rfl, ⟨ta, ha⟩, ⟨tb, hb'⟩, _, _⟩ := h.two
      unfold opArgs allO at hO
      simp only [Bool.and_eq_true] at hO
      have sf := sem_slL ha.sb (hb'.se hO.1)
      exact ⟨_, .ofF (fun X ok => by rw [← ok.hK]; exact pe_slice sl_m (ha.pe X ok) (po_some (hb'.pe X ok)) po_none) sf rfl rfl rfl⟩
    · cases hv
  · split at hv
    · rename_i a l p2 pos hb
      cases hv
      subst hb
      obtain ⟨x, y, rfl, ⟨ta, ha⟩, ⟨tb, hb'⟩, _, _⟩ := h.two
      unfold opArgs allO at hO
      simp only [Bool.and_eq_true] at hO
      have sf := sem_slH ha.sb (hb'.se hO.1)
      exact ⟨_, .ofF (fun X ok => by rw [← ok.hK]; exact pe_slice sl_m (ha.pe X ok) po_none (po_some (hb'.pe X ok))) sf rfl rfl rfl⟩
    · cases hv
  · split at hv
    · rename_i hb
      cases hv
      subst hb
      obtain ⟨x, rfl, ⟨ta, ha⟩, _⟩ := h.one
      exact ⟨_, .ofF (fun X ok => by rw [← ok.hK]; exact pe_revA (ha.pe X ok)) (show SemF p.K p.Φ p.G (tRevA p.K ta) _ from sem_un ha.sb rev_f) rfl rfl rfl⟩
    · cases hv
  · split at hv
    · rename_i hb
      cases hv
      obtain ⟨rfl, hs⟩ := hb
      obtain ⟨x, y, rfl, ⟨ta, ha⟩, ⟨tb, hb'⟩, _, _⟩ := h.two
      exact ⟨_, .ofE (fun X ok => by
        have k := ok.hK
        have q := pe_ix (pos := ‹Pos›) (ix_seq (X := X)) (ha.pe X ok) (hb'.pe X ok) (plain_ix hs)
        rw [k] at q
        exact q) (sem_binE ha.sb hb'.sb ix_e) rfl rfl rfl rfl⟩
    · cases hv
  · split at hv
    · rename_i x p1 a pos hb
      cases hv
      simp only [Bool.and_eq_true] at hb
      obtain ⟨y, rfl, ⟨ta, ha⟩, hs⟩ := h.one
      obtain ⟨_, r, h1, h2⟩ := call1_r (K := p.K) hb.1
      exact ⟨_, .ofF (fun X ok => by
        obtain ⟨g, m, _, _⟩ := ok.isB hb.2
        exact h1.run X p1 pos a [] _ ok.hK ok.calm ok.un ok.gu g m (pa_cons (ha.pe X ok) pa_nil (star_each hs)) (by rw [List.all_cons, hs]; rfl)) (sem_cb1 ha.sb h2) rfl rfl rfl⟩
    · rename_i x p1 a pos hb
      split at hv
      · split at hv
        · rename_i o ea y p2 b q hq
          cases hv
          simp only [Bool.and_eq_true] at hq
          obtain ⟨⟨⟨q1, q2⟩, q3⟩, q4⟩ := hq
          obtain rfl := eq_of_beq q1
          obtain rfl := eq_of_beq q3
          obtain ⟨z, rfl, ⟨ta, ha⟩, hs⟩ := h.one
          exact ⟨_, .ofF (fun X ok => by
            obtain ⟨g, m, _, _⟩ := ok.isB q2
            obtain ⟨g2, m2, _, _⟩ := ok.isB q4
            have r := pe_sset (p := p1) (p2 := p2) (q := q) (pos := pos) g m g2 m2 (ha.pe X ok) ok.calm (star_each hs)
            rw [ok.hK] at r
            exact r) (show SemF p.K p.Φ p.G (tSset p.K ta) _ from sem_un ha.sb sset_f) rfl rfl rfl⟩
        · cases hv
      · split at hv
        · rename_i o ea y p2 b q hq
          cases hv
          simp only [Bool.and_eq_true] at hq
          obtain ⟨⟨⟨q1, q2⟩, q3⟩, q4⟩ := hq
          obtain rfl := eq_of_beq q1
          obtain rfl := eq_of_beq q3
          obtain ⟨z, rfl, ⟨ta, ha⟩, hs⟩ := h.one
          exact ⟨_, .ofF (fun X ok => by
            obtain ⟨g, m, _, _⟩ := ok.isB q2
            obtain ⟨g2, m2, _, _⟩ := ok.isB q4
            have r := pe_lenSetT (p := p1) (p2 := p2) (q := q) (pos := pos) g m g2 m2 (ha.pe X ok) ok.calm (star_each hs)
            rw [ok.hK] at r
            exact r) (show SemF p.K p.Φ p.G (tLenSetT p.K ta) _ from sem_un ha.sb lset_f) rfl rfl rfl⟩
        · cases hv
      · split at hv
        · rename_i o ea y p2 b q hq
          cases hv
          simp only [Bool.and_eq_true] at hq
          obtain ⟨⟨⟨q1, q2⟩, q3⟩, q4⟩ := hq
          obtain rfl := eq_of_beq q1
          obtain rfl := eq_of_beq q3
          obtain ⟨z, rfl, ⟨ta, ha⟩, hs⟩ := h.one
          exact ⟨_, .ofF (fun X ok => by
            obtain ⟨g, m, _, _⟩ := ok.isB q2
            obtain ⟨g2, m2, _, _⟩ := ok.isB q4
            have r := pe_ssetT (p := p1) (p2 := p2) (q := q) (pos := pos) g m g2 m2 (ha.pe X ok) ok.calm (by have := ok.un; omega) (star_each hs)
            rw [ok.hK] at r
            exact r) (show SemF p.K p.Φ p.G (tSsetT p.K ta) _ from sem_un ha.sb ssetS_f) rfl rfl rfl⟩
        · cases hv
      · split at hv
        · rename_i o ea y p2 b q hq
          cases hv
          simp only [Bool.and_eq_true] at hq
          obtain ⟨⟨⟨q1, q2⟩, q3⟩, q4⟩ := hq
          obtain rfl := eq_of_beq q1
          obtain rfl := eq_of_beq q3
          obtain ⟨z, rfl, ⟨ta, ha⟩, hs⟩ := h.one
          unfold opArgs allO at hO
          simp only [Bool.and_eq_true] at hO
          exact ⟨_, .ofF (fun X ok => by
            obtain ⟨g, m, _, _⟩ := ok.isB q2
            obtain ⟨g2, m2, _, _⟩ := ok.isB q4
            exact pe_listRg ok.calm g m (prg_1 g2 m2 (ha.pe X ok) (star_each hs)) (star_each rfl)) (sem_rng1 (ha.se hO.1)) rfl rfl rfl⟩
        · cases hv
      · split at hv
        · rename_i o ea y p2 b d q hq
          cases hv
          simp only [Bool.and_eq_true] at hq
          obtain ⟨⟨⟨q1, q2⟩, q3⟩, q4⟩ := hq
          obtain rfl := eq_of_beq q1
          obtain rfl := eq_of_beq q3
          obtain ⟨z, u, rfl, ⟨ta, ha⟩, ⟨tb, hb'⟩, hs, hs2⟩ := h.two
          unfold opArgs allO allO at hO
          simp only [Bool.and_eq_true] at hO
          exact ⟨_, .ofF (fun X ok => by
            obtain ⟨g, m, _, _⟩ := ok.isB q2
            obtain ⟨g2, m2, _, _⟩ := ok.isB q4
            exact pe_listRg ok.calm g m (prg_2 g2 m2 (ha.pe X ok) (hb'.pe X ok) (star_each hs) (star_each hs2) (star_none (es := [d]) _ (by rw [List.all_cons, hs2]; rfl))) (star_each rfl)) (sem_rng2 (ha.se hO.1) (hb'.se hO.2.1)) rfl rfl rfl⟩
        · cases hv
      · cases hv
  · split at hv
    · rename_i x p1 a b pos hb
      cases hv
      simp only [Bool.and_eq_true] at hb
      obtain ⟨y, z, rfl, ⟨ta, ha⟩, ⟨tb, hb'⟩, hs, hs2⟩ := h.two
      obtain ⟨_, r, h1, h2⟩ := call2_r (K := p.K) hb.1
      exact ⟨_, .ofF (fun X ok => by
        obtain ⟨g, m, _, _⟩ := ok.isB hb.2
        exact h1.run X p1 pos a [b] _ ok.hK ok.calm ok.un ok.gu g m (pa_cons (ha.pe X ok) (pa_cons (hb'.pe X ok) pa_nil (star_each hs2)) (star_each hs)) (by rw [List.all_cons, List.all_cons, hs, hs2]; rfl)) (sem_cb2 ha.sb hb'.sb h2) rfl rfl rfl⟩
    · split at hv
      · split at hv
        · rename_i x p1 a b pos hb o ts hq
          cases hv
          simp only [Bool.and_eq_true] at hq
          obtain ⟨y, rfl, ⟨ta, ha⟩, hs⟩ := h.one
          obtain ⟨h1, h2⟩ := isi_snd (px := p1) (pos := pos) hq.2 (eq_of_beq hq.1.1) hq.1.2 hs ha.pe ha.sb
          exact ⟨_, .ofF h1 h2 rfl rfl rfl⟩
        · cases hv
      · cases hv
  · split at hv
    · rename_i o' n ap a cp hb
      cases hv
      obtain ⟨rfl, hn, hl, hbo⟩ := hb
      subst hn
      obtain ⟨x, y, rfl, ⟨ta, ha⟩, ⟨tb, hb'⟩, hs, hs2⟩ := h.two
      unfold opArgs allO at hO
      simp only [Bool.and_eq_true] at hO
      refine ⟨_, .ofF (fun X ok => ?_) (sem_cnt ha.sb (hb'.se hO.1)) rfl rfl rfl⟩
      have q := pe_bm (X := X) (apos := ap) (cpos := cp) PySem.F.plainAttrs_list PySem.F.slot_list_count PySem.F.type_list_count mt_lcount (ha.pe X ok) (pa_cons (hb'.pe X ok) pa_nil (star_each hs2))
        (by unfold nameE at hbo; split at hbo <;> first | rfl | cases hbo) (by rw [star_each hs2]; rfl) (by rw [hl]; exact beq_self_eq_true _) (star_each hs2) (by rfl)
      rw [ok.hK] at q
      exact q
    · cases hv
  · cases hv
end

/-! ### the check -/
def notSet : Expr → Bool
  | .Set _ _ _ => false
  | _ => true
def isTupE : Expr → Bool
  | .Tuple _ _ _ => true
  | _ => false
def asCmp2 : Expr → Option (Expr × CmpOp × CmpOp × Expr × Expr)
  | .Compare a [q, r] [b, d] _ => some (a, q, r, b, d)
  | _ => none
def asBool : Expr → Option (BoolOp × List Expr × Pos)
  | .BoolOp q l pos => some (q, l, pos)
  | _ => none
def asNot : Expr → Option Expr
  | .UnaryOp .Not a _ => some a
  | _ => none
def asIfE : Expr → Option (Expr × Expr × Expr)
  | .IfExp t a b _ => some (t, a, b)
  | _ => none
def asTupE : Expr → Option (List Expr)
  | .Tuple es _ _ => some es
  | _ => none
def asLstE : Expr → Option (List Expr)
  | .List es _ => some es
  | _ => none
def asCall : Expr → Option (Str × List Expr)
  | .Call (.Name x _) es [] _ => some (x, es)
  | _ => none
def asLc1 : Expr → Option (Expr × Expr × Expr × List Expr × Scope)
  | .ListComp elt [⟨tg, it, ifs, 0⟩] sc _ => some (elt, tg, it, ifs, sc)
  | _ => none
def asLc2 : Expr → Option (Expr × (Expr × Expr × List Expr) × (Expr × Expr × List Expr) × Scope)
  | .ListComp elt [⟨tg, it, ifs, 0⟩, ⟨tg1, it1, ifs1, 0⟩] sc _ => some (elt, (tg, it, ifs), (tg1, it1, ifs1), sc)
  | _ => none
def isLamArgs : Arguments → Bool
  | ⟨[], [⟨x, none, _⟩], none, [], [], none, []⟩ => x == ("place" : Str)
  | _ => false
def isLamSc : Scope → Bool
  | ⟨.function, [(x, .local), (y, .free)], false, false, []⟩ => x == ("place" : Str) && y == ("left" : Str)
  | _ => false
def isLamBody : Expr → Bool
  | .Tuple [.UnaryOp .USub (.Subscript (.Name a _) (.Name b _) _) _, .Name d _] _ _ => a == ("left" : Str) && b == ("place" : Str) && d == ("place" : Str)
  | _ => false
/-- sorted(x, key=lambda place: (-left[place], place)) -/
def asSortLam : Expr → Option Expr
  | .Call (.Name f _) [x] [⟨some k, .Lambda ar bd sc _, _⟩] _ => if (f == ("sorted" : Str) && k == ("key" : Str) && isLamArgs ar && isLamBody bd && isLamSc sc) = true then some x else none
  | _ => none
def ownOf (c : Cn) (w : List Nat) : List (Str × Nat) := w.map fun i => ((c.N[i]?).getD Str.empty, i)
theorem ownOf_snd (c : Cn) (w : List Nat) : (ownOf c w).map (·.2) = w := by
  unfold ownOf
  rw [List.map_map]
  exact List.map_id w
mutual
def chkG (c : Cn) : Tg → Expr → Bool
  | .name i, e => match e with
    | .Name x _ => decide (c.N[i]? = some x) && stor c x
    | _ => false
  | .tup gs, e => match e with
    | .Tuple es _ _ => chkGs c gs es
    | _ => false
def chkGs (c : Cn) : Tgs → List Expr → Bool
  | .nil, es => es.isEmpty
  | .cons g gs, es => match es with
    | e :: es => chkG c g e && !star e && chkGs c gs es
    | [] => false
end
mutual
def chkE : Ex → Cn → Expr → Bool
  | .cst d, c, e => cstOk e d
  | .var i, c, e => varOk c e i
  | .ovar i, c, e => varOk c e i
  | .glob k, c, e => globOk c e k
  | .op o es, c, e => match view c o e with
    | some l => chkEs es c l && opArgs o es
    | none => false
  | .chain o o' a b d, c, e => match asCmp2 e with
    | some (x, q, q', y, z) => cmpOp q o && cmpOp q' o' && !behindInMarks q' z && chkE a c x && chkE b c y && chkE d c z && nonO a && nonO b && nonO d
    | none => false
  | .and a b, c, e => match asBool e with
    | some (.And, x :: y :: rest, pos) => chkE a c x && nonO a && tst a && nonO b && tst b && (match rest with
      | [] => chkE b c y
      | _ :: _ => chkE b c (.BoolOp .And (y :: rest) pos) && isAnd b)
    | _ => false
  | .or a b, c, e => match asBool e with
    | some (.Or, x :: y :: rest, pos) => chkE a c x && nonO a && tst a && nonO b && tst b && (match rest with
      | [] => chkE b c y
      | _ :: _ => chkE b c (.BoolOp .Or (y :: rest) pos) && isOr b)
    | _ => false
  | .not a, c, e => match asNot e with
    | some x => chkE a c x && nonO a && tst a
    | none => false
  | .ife t a b, c, e => match asIfE e with
    | some (x, y, z) => chkE t c x && tst t && chkE a c y && nonO a && chkE b c z && nonO b
    | none => false
  | .tup es, c, e => match asTupE e with
    | some l => chkEs es c l && allO es && decide (es.len ≤ lim)
    | none => false
  | .lst es, c, e => match asLstE e with
    | some l => chkEs es c l && allO es && decide (es.len ≤ lim)
    | none => false
  | .call f es, c, e => match asCall e with
    | some (x, l) => chkEs es c l && allO es && isG c x && (match c.F.lookup x with
      | some (f', n, fr) => f' == f && n == es.len && fr == isF c (.call f .nil)
      | none => false)
    | none => false
  | .lc w g it t e1, c, e => match asLc1 e with
    | some (elt, tg, iter, ifs, sc) => chkI it c tg iter && notSet iter && blkC c.N c.sc sc (ownOf c w) && chkG (c.blk sc) g tg && decide (∀ i ∈ g.slots, i ∈ w) && nonO t && tst t &&
        (match ifs with
          | [] => (match t with | .cst (.bl true) => true | _ => false)
          | [x] => chkE t (c.blk sc) x
          | _ => false) && chkE e1 (c.blk sc) elt && nonO e1
    | none => false
  | .lc2 w w1 g it t g1 it1 t1 e1, c, e => match asLc2 e with
    | some (elt, (tg, iter, ifs), (tg1, iter1, ifs1), sc) => chkI it c tg iter && notSet iter && notSet iter1 && blkC c.N c.sc sc (ownOf c w) && chkG (c.blk sc) g tg && decide (∀ i ∈ g.slots, i ∈ w) && nonO t && tst t &&
        (match ifs with
          | [] => (match t with | .cst (.bl true) => true | _ => false)
          | [x] => chkE t (c.blk sc) x
          | _ => false) && chkI it1 (c.blk sc) tg1 iter1 && chkG (c.blk sc) g1 tg1 && decide (∀ i ∈ g1.slots, i ∈ w1) && decide (∀ i ∈ w1, i ∈ w) && nonO t1 && tst t1 &&
        (match ifs1 with
          | [] => (match t1 with | .cst (.bl true) => true | _ => false)
          | [x] => chkE t1 (c.blk sc) x
          | _ => false) && chkE e1 (c.blk sc) elt && nonO e1
    | none => false
  | .mk a, c, e => chkE a c e && isF c a
  | .pure a, c, e => chkE a c e && nonO a
  | .srtL i a, c, e => match asSortLam e with
    | some x => chkE a c x && !star x && c.lam && isB c "sorted" && decide (c.N[i]? = some ("left" : Str)) && decide (c.sc.names.lookup ("left" : Str) = some .cell)
    | none => false
def chkEs : Exs → Cn → List Expr → Bool
  | .nil, c, l => l.isEmpty
  | .cons ir es, c, l => match l with
    | e :: l => chkE ir c e && !star e && chkEs es c l
    | [] => false
def chkI : Itr → Cn → Expr → Expr → Bool
  | .seq a, c, tg, e => chkE a c e && nonO a
  | .range1 a, c, tg, e => match asCall e with
    | some (x, [y]) => x == ("range" : Str) && isB c x && chkE a c y && nonO a && !star y
    | _ => false
  | .range2 a b, c, tg, e => match asCall e with
    | some (x, [y, z]) => x == ("range" : Str) && isB c x && chkE a c y && nonO a && !star y && chkE b c z && nonO b && !star z
    | _ => false
  | .enum a, c, tg, e => match asCall e with
    | some (x, [y]) => x == ("enumerate" : Str) && isB c x && chkE a c y && nonO a && !star y && isTupE tg
    | _ => false
  | .zip a b, c, tg, e => match asCall e with
    | some (x, [y, z]) => x == ("zip" : Str) && isB c x && chkE a c y && nonO a && !star y && chkE b c z && nonO b && !star z && isTupE tg
    | _ => false
  | .zip3 a b d, c, tg, e => match asCall e with
    | some (x, [y, z, u]) => x == ("zip" : Str) && isB c x && chkE a c y && nonO a && !star y && chkE b c z && nonO b && !star z && chkE d c u && nonO d && !star u && isTupE tg
    | _ => false
  | .chars a, c, tg, e => chkE a c e && nonO a
end
end Q
/-! Q10: the check of expressions is sound. -/
namespace Q
open PySem L2 PySem.Spec PyProof.Rows
variable [TC]

theorem assign_each {e : Expr} {es : List Expr} {env : Env} (h : star e = false) : assignEach (e :: es) env = (false, assign e env) :: assignEach es env := by
  cases e <;> first | rfl | cases h
mutual
theorem chkG_snd (p : Pr) (c : Cn) : ∀ (g : Tg) (e : Expr), chkG c g e = true → ∃ tg, (∀ X, CtxOk p c X → PG X e tg) ∧ SemG p.K tg g
  | .name i, e, h => by
    unfold chkG at h
    split at h
    · simp only [Bool.and_eq_true, decide_eq_true_eq] at h
      refine ⟨_, fun X ok => ?_, sem_gname i⟩
      obtain ⟨h1, h2⟩ := ok.stor h.2
      exact pg_name (by rw [ok.hN]; exact ok.nd) (by rw [ok.hN]; exact h.1) h1 h2
    · cases h
  | .tup gs, e, h => by
    unfold chkG at h
    split at h
    · rename_i es k pos
      obtain ⟨⟨tg, h1, h2⟩, h3⟩ := chkGs_snd p c gs es h
      refine ⟨_, fun X ok => ?_, sem_gtup h2⟩
      have q := pg_tup (k := k) (pos := pos) ok.calm (h1 X ok) (h3 X.env).1 (h3 X.env).2
      rw [ok.hK] at q
      exact q
    · cases h
theorem chkGs_snd (p : Pr) (c : Cn) : ∀ (gs : Tgs) (es : List Expr), chkGs c gs es = true → (∃ tg, (∀ X, CtxOk p c X → PGs X es tg) ∧ SemGs p.K tg gs) ∧ ∀ env, (assignEach es env).length = gs.len ∧ (assignEach es env).findIdx? (·.1) = none
  | .nil, es, h => by
    unfold chkGs at h
    cases es with
    | nil => exact ⟨⟨_, fun X _ => pgs_nil, sem_gnil⟩, fun env => ⟨rfl, rfl⟩⟩
    | cons => cases h
  | .cons g gs, es, h => by
    unfold chkGs at h
    cases es with
    | nil => cases h
    | cons e es =>
      simp only [Bool.and_eq_true, Bool.not_eq_true'] at h
      obtain ⟨t1, a1, a2⟩ := chkG_snd p c g e h.1.1
      obtain ⟨⟨t2, b1, b2⟩, b3⟩ := chkGs_snd p c gs es h.2
      refine ⟨⟨_, fun X ok => pgs_cons (a1 X ok) (b1 X ok) (by rw [assign_each h.1.2]; rfl), sem_gcons a2 b2⟩, fun env => ?_⟩
      rw [assign_each h.1.2]
      obtain ⟨c1, c2⟩ := b3 env
      refine ⟨by rw [List.length_cons, c1]; rfl, ?_⟩
      rw [List.findIdx?_cons, c2]
      rfl
end
theorem fold_plain {e : Expr} (h : notSet e = true) (env : Env) : ∀ x, foldedSetIterable e env x = pure x := by
  intro x
  cases e <;> first | rfl | cases h
theorem tests_snd {p : Pr} {c : Cn} {ifs : List Expr} {t : Ex} (h : (match ifs with
          | [] => (match t with | .cst (.bl true) => true | _ => false)
          | [x] => chkE t c x
          | _ => false) = true) (ht : tst t = true) (ih : ∀ x, chkE t c x = true → ∃ tx, SA p c x t tx) : ∃ tt, (∀ X, CtxOk p c X → PTs X ifs tt) ∧ SemT p.K p.Φ p.G tt t := by
  split at h
  · split at h
    · exact ⟨tYes, fun X _ => pts_nil, fun Z μ ω H σ v S R Q q => by simp only [evE] at q; exact q H μ .refl R⟩
    · cases h
  · obtain ⟨tx, s⟩ := ih _ h
    obtain ⟨tt, h1, h2⟩ := s.pt ht
    exact ⟨tt, fun X ok => pts_one (h1 X ok), h2⟩
  · cases h
theorem sw_lc (elt : Expr) (gs : List Comprehension) (scope : Scope) (pos py : Pos) (y : Str) (l : Nat) (env : Env) :
    swapsWith (.ListComp elt gs scope pos) (some (.Name y py)) l env = pure (env.blockKind == .function && env.kindOf y == some .local && py.line == pos.line && !(scope.names.any fun (n, k) => n == y && (k == .local || k == .cell))) := rfl
section
variable {p : Pr} {c : Cn}
theorem lc_sa {elt tg iter : Expr} {ifs : List Expr} {sc : Scope} {pos : Pos} {w : List Nat} {ir : Ex} {wi : TI} {g : TG} {tt : TT} {te : TE} (hi : ∀ X, CtxOk p c X → PI X tg iter wi) (hns : notSet iter = true) (hb : blkC c.N c.sc sc (ownOf c w) = true)
    (hg : ∀ X, CtxOk p (c.blk sc) X → PG X tg g) (ht : ∀ X, CtxOk p (c.blk sc) X → PTs X ifs tt) (he : ∀ X, CtxOk p (c.blk sc) X → PE X elt te) (sf : SemF p.K p.Φ p.G (tLc wi g tt te w) ir) (hbo : isBo ir = false) :
    SA p c (.ListComp elt [⟨tg, iter, ifs, 0⟩] sc pos) ir (tLc wi g tt te w) := by
  have bo := blkOk_by hb
  have pe : ∀ X, CtxOk p c X → PE X (.ListComp elt [⟨tg, iter, ifs, 0⟩] sc pos) (tLc wi g tt te w) := fun X ok => by
    have q := pe_lc (X := X) (elt := elt) (tg := tg) (iter := iter) (ifs := ifs) (scope := sc) (own := ownOf c w) (pos := pos) (wi := wi) (g := g) (tt := tt) (te := te) ok.calm (by rw [ok.hN]; exact ok.nd) (hi X ok) (by rw [ok.hN, ok.hsc]; exact bo)
      (fun s H C cl fp => hg _ (ok.blk bo s H C cl fp)) (fun s H C cl fp => ht _ (ok.blk bo s H C cl fp)) (fun s H C cl fp => he _ (ok.blk bo s H C cl fp)) (fold_plain hns _)
    rw [ownOf_snd] at q
    exact q
  refine ⟨pe, fun X ok i y py spos hy hs => ?_, sf.toE.toB, fun _ => sf.toE, fun _ => sf, fun _ => ⟨_, fun X ok => pt_val (pe X ok), sem_test sf.toE⟩, fun h => by rw [hbo] at h; cases h⟩
  obtain ⟨h1, h2⟩ := ok.stor hs
  have hy' : X.N[i]? = some y := by rw [ok.hN]; exact hy
  have hN : X.N.Nodup := by rw [ok.hN]; exact ok.nd
  have sw := sw_lc elt [⟨tg, iter, ifs, 0⟩] sc pos py y spos.line X.env
  generalize hbb : (X.env.blockKind == ScopeKind.function && X.env.kindOf y == some .local && py.line == pos.line && !(sc.names.any fun (n, k) => n == y && (k == .local || k == .cell))) = b at sw
  cases b with
  | false => exact ps_set hN hy' h1 (pe X ok) sw h2
  | true =>
    simp only [Bool.and_eq_true] at hbb
    have hyl : X.env.scope.names.lookup y = some .local := eq_of_beq hbb.1.1.2
    have q := ps_setLc (X := X) (i := i) (y := y) (py := py) (elt := elt) (tg := tg) (iter := iter) (ifs := ifs) (scope := sc) (own := ownOf c w) (pos := pos) (spos := spos) (wi := wi) (g := g) (tt := tt) (te := te) ok.calm hN hy' hyl sw (hi X ok) (by rw [ok.hN, ok.hsc]; exact bo)
      (fun s H C cl fp => hg _ (ok.blk bo s H C cl fp)) (fun s H C cl fp => ht _ (ok.blk bo s H C cl fp)) (fun s H C cl fp => he _ (ok.blk bo s H C cl fp)) (fold_plain hns _)
    rw [ownOf_snd] at q
    exact q
theorem lc2_sa {elt tg iter tg1 iter1 : Expr} {ifs ifs1 : List Expr} {sc : Scope} {pos : Pos} {w w1 : List Nat} {ir : Ex} {wi wi1 : TI} {g g1 : TG} {tt tt1 : TT} {te : TE} (hi : ∀ X, CtxOk p c X → PI X tg iter wi) (hns : notSet iter = true) (hns1 : notSet iter1 = true) (hb : blkC c.N c.sc sc (ownOf c w) = true)
    (hw : ∀ i ∈ w1, i ∈ w) (hg : ∀ X, CtxOk p (c.blk sc) X → PG X tg g) (ht : ∀ X, CtxOk p (c.blk sc) X → PTs X ifs tt) (hi1 : ∀ X, CtxOk p (c.blk sc) X → PI X tg1 iter1 wi1) (hg1 : ∀ X, CtxOk p (c.blk sc) X → PG X tg1 g1) (ht1 : ∀ X, CtxOk p (c.blk sc) X → PTs X ifs1 tt1)
    (he : ∀ X, CtxOk p (c.blk sc) X → PE X elt te) (sf : SemF p.K p.Φ p.G (tLc2 wi g tt wi1 g1 tt1 te w w1) ir) (hbo : isBo ir = false) :
    SA p c (.ListComp elt [⟨tg, iter, ifs, 0⟩, ⟨tg1, iter1, ifs1, 0⟩] sc pos) ir (tLc2 wi g tt wi1 g1 tt1 te w w1) := by
  have bo := blkOk_by hb
  have hw' : ∀ i ∈ w1, i ∈ (ownOf c w).map (·.2) := by rw [ownOf_snd]; exact hw
  have pe : ∀ X, CtxOk p c X → PE X (.ListComp elt [⟨tg, iter, ifs, 0⟩, ⟨tg1, iter1, ifs1, 0⟩] sc pos) (tLc2 wi g tt wi1 g1 tt1 te w w1) := fun X ok => by
    have q := pe_lc2 (X := X) (elt := elt) (tg := tg) (iter := iter) (tg1 := tg1) (iter1 := iter1) (ifs := ifs) (ifs1 := ifs1) (scope := sc) (own := ownOf c w) (vs1 := w1) (pos := pos) (wi := wi) (wi1 := wi1) (g := g) (g1 := g1) (tt := tt) (tt1 := tt1) (te := te) ok.calm (by rw [ok.hN]; exact ok.nd) (hi X ok) (by rw [ok.hN, ok.hsc]; exact bo) hw'
      (fun s H C cl fp => hg _ (ok.blk bo s H C cl fp)) (fun s H C cl fp => ht _ (ok.blk bo s H C cl fp)) (fun s H C cl fp => hi1 _ (ok.blk bo s H C cl fp)) (fun s H C cl fp => hg1 _ (ok.blk bo s H C cl fp)) (fun s H C cl fp => ht1 _ (ok.blk bo s H C cl fp)) (fun s H C cl fp => he _ (ok.blk bo s H C cl fp)) (fold_plain hns _) (fun env => fold_plain hns1 env)
    rw [ownOf_snd] at q
    exact q
  refine ⟨pe, fun X ok i y py spos hy hs => ?_, sf.toE.toB, fun _ => sf.toE, fun _ => sf, fun _ => ⟨_, fun X ok => pt_val (pe X ok), sem_test sf.toE⟩, fun h => by rw [hbo] at h; cases h⟩
  obtain ⟨h1, h2⟩ := ok.stor hs
  have hy' : X.N[i]? = some y := by rw [ok.hN]; exact hy
  have hN : X.N.Nodup := by rw [ok.hN]; exact ok.nd
  have sw := sw_lc elt [⟨tg, iter, ifs, 0⟩, ⟨tg1, iter1, ifs1, 0⟩] sc pos py y spos.line X.env
  generalize hbb : (X.env.blockKind == ScopeKind.function && X.env.kindOf y == some .local && py.line == pos.line && !(sc.names.any fun (n, k) => n == y && (k == .local || k == .cell))) = b at sw
  cases b with
  | false => exact ps_set hN hy' h1 (pe X ok) sw h2
  | true =>
    simp only [Bool.and_eq_true] at hbb
    have hyl : X.env.scope.names.lookup y = some .local := eq_of_beq hbb.1.1.2
    have q := ps_setLc2 (X := X) (i := i) (y := y) (py := py) (elt := elt) (tg := tg) (iter := iter) (tg1 := tg1) (iter1 := iter1) (ifs := ifs) (ifs1 := ifs1) (scope := sc) (own := ownOf c w) (vs1 := w1) (pos := pos) (spos := spos) (wi := wi) (wi1 := wi1) (g := g) (g1 := g1) (tt := tt) (tt1 := tt1) (te := te) ok.calm hN hy' hyl sw (hi X ok) (by rw [ok.hN, ok.hsc]; exact bo) hw'
      (fun s H C cl fp => hg _ (ok.blk bo s H C cl fp)) (fun s H C cl fp => ht _ (ok.blk bo s H C cl fp)) (fun s H C cl fp => hi1 _ (ok.blk bo s H C cl fp)) (fun s H C cl fp => hg1 _ (ok.blk bo s H C cl fp)) (fun s H C cl fp => ht1 _ (ok.blk bo s H C cl fp)) (fun s H C cl fp => he _ (ok.blk bo s H C cl fp)) (fold_plain hns _) (fun env => fold_plain hns1 env)
    rw [ownOf_snd] at q
    exact q
theorem asCall_eq {e : Expr} {x : Str} {l : List Expr} (h : asCall e = some (x, l)) : ∃ px pos, e = .Call (.Name x px) l [] pos := by
  unfold asCall at h
  split at h
  · cases h; exact ⟨_, _, rfl⟩
  · cases h
/-- a call of a def of the text -/
theorem call_sa {e : Expr} {x : Str} {l : List Expr} {f n : Nat} {fr : Bool} {es : Exs} (he : asCall e = some (x, l)) (hl : SL p c l es) (ho : allO es = true) (hg : isG c x = true) (hf : c.F.lookup x = some (f, n, fr)) (hn : n = es.len) (hfr : fr = isF c (.call f es)) :
    ∃ t, SA p c e (.call f es) t := by
  obtain ⟨⟨ta, h1, h2⟩, h3, h4⟩ := hl.all ho
  obtain ⟨px, pos, rfl⟩ := asCall_eq he
  cases l with
  | nil =>
    cases es with
    | cons => exact hl.elim
    | nil =>
      have pe : ∀ X, CtxOk p c X → PE X (.Call (.Name x px) [] [] pos) (tCall (spOf p.K p.Φ f n fr) [] E0 tNil) := fun X ok => by
        obtain ⟨k, fa, fd, ps, F, R, m, kp, hb⟩ := (ok.fs x f n fr hf).at_
        obtain ⟨g, hd, _⟩ := ok.gl hg
        exact pe_call0G F R ok.gu g m kp hb (pass0 (X := X)) hd
      cases fr with
      | true => exact ⟨_, .ofF pe (sem_callF sem_nil hn.symm) rfl rfl rfl⟩
      | false => exact ⟨_, .ofE pe (sem_call sem_nil hn.symm) rfl rfl rfl hfr.symm⟩
  | cons a l =>
    have pe : ∀ X, CtxOk p c X → PE X (.Call (.Name x px) (a :: l) [] pos) (tCall (spOf p.K p.Φ f n fr) [] E0 ta) := fun X ok => by
      obtain ⟨k, fa, fd, ps, F, R, m, kp, hb⟩ := (ok.fs x f n fr hf).at_
      obtain ⟨g, hd, _⟩ := ok.gl hg
      simp only [List.all_cons, Bool.and_eq_true, Bool.not_eq_true'] at h3
      exact pe_callG F R ok.gu g m kp hb (pass0 (X := X)) (h1 X ok) hd (star_each h3.1) (star_none _ h3.2)
    cases fr with
    | true => exact ⟨_, .ofF pe (sem_callF h2 hn.symm) rfl rfl rfl⟩
    | false => exact ⟨_, .ofE pe (sem_call h2 hn.symm) rfl rfl rfl hfr.symm⟩
theorem and_sa {e : Expr} {x y : Expr} {rest : List Expr} {pos : Pos} {a b : Ex} {ta tb : TE} (ha : SA p c x a ta) (hb : SA p c (match rest with | [] => y | _ :: _ => .BoolOp .And (y :: rest) pos) b tb) (h1 : nonO a = true) (h2 : tst a = true) (h3 : nonO b = true) (h4 : tst b = true)
    (h5 : rest ≠ [] → isBo b = true) : SA p c (.BoolOp .And (x :: y :: rest) pos) (.and a b) (tAndV ta tb) := by
  obtain ⟨tt, p1, p2⟩ := ha.pt h2
  have se := sem_and (ha.se h1) (hb.se h3)
  have pe : ∀ X, CtxOk p c X → PE X (.BoolOp .And (x :: y :: rest) pos) (tAndV ta tb) := fun X ok => by
    cases rest with
    | nil => exact pe_and (ha.pe X ok) (pe_one (hb.pe X ok))
    | cons z zs => exact pe_and (ha.pe X ok) (hb.pe X ok)
  have pw : ∃ tt : TT, (∀ X, CtxOk p c X → PW X (.BoolOp .And (x :: y :: rest) pos) tt) ∧ SemT p.K p.Φ p.G tt (.and a b) := by
    cases rest with
    | nil =>
      obtain ⟨tu, q1, q2⟩ := hb.pt h4
      exact ⟨_, fun X ok => pw_and (p1 X ok) (pw_and1 (q1 X ok)), sem_andT p2 q2⟩
    | cons z zs =>
      obtain ⟨tu, q1, q2⟩ := hb.pw (h5 (by simp))
      exact ⟨_, fun X ok => pw_and (p1 X ok) (q1 X ok), sem_andT p2 q2⟩
  obtain ⟨tu, q1, q2⟩ := pw
  exact ⟨pe, asg_of pe rfl, se.toB, fun _ => se, (fun h => nomatch h), fun _ => ⟨tu, fun X ok => (q1 X ok).pt, q2⟩, fun _ => ⟨tu, q1, q2⟩⟩
theorem or_sa {e : Expr} {x y : Expr} {rest : List Expr} {pos : Pos} {a b : Ex} {ta tb : TE} (ha : SA p c x a ta) (hb : SA p c (match rest with | [] => y | _ :: _ => .BoolOp .Or (y :: rest) pos) b tb) (h1 : nonO a = true) (h2 : tst a = true) (h3 : nonO b = true) (h4 : tst b = true)
    (h5 : rest ≠ [] → isBo b = true) : SA p c (.BoolOp .Or (x :: y :: rest) pos) (.or a b) (tOrV ta tb) := by
  obtain ⟨tt, p1, p2⟩ := ha.pt h2
  have se := sem_or (ha.se h1) (hb.se h3)
  have pe : ∀ X, CtxOk p c X → PE X (.BoolOp .Or (x :: y :: rest) pos) (tOrV ta tb) := fun X ok => by
    cases rest with
    | nil => exact pe_or (ha.pe X ok) (pe_one (hb.pe X ok))
    | cons z zs => exact pe_or (ha.pe X ok) (hb.pe X ok)
  have pw : ∃ tt : TT, (∀ X, CtxOk p c X → PW X (.BoolOp .Or (x :: y :: rest) pos) tt) ∧ SemT p.K p.Φ p.G tt (.or a b) := by
    cases rest with
    | nil =>
      obtain ⟨tu, q1, q2⟩ := hb.pt h4
      exact ⟨_, fun X ok => pw_or (p1 X ok) (pw_or1 (q1 X ok)), sem_orT p2 q2⟩
    | cons z zs =>
      obtain ⟨tu, q1, q2⟩ := hb.pw (h5 (by simp))
      exact ⟨_, fun X ok => pw_or (p1 X ok) (q1 X ok), sem_orT p2 q2⟩
  obtain ⟨tu, q1, q2⟩ := pw
  exact ⟨pe, asg_of pe rfl, se.toB, fun _ => se, (fun h => nomatch h), fun _ => ⟨tu, fun X ok => (q1 X ok).pt, q2⟩, fun _ => ⟨tu, q1, q2⟩⟩
theorem isAnd_bo {b : Ex} (h : isAnd b = true) : isBo b = true := by cases b <;> first | rfl | cases h
theorem isOr_bo {b : Ex} (h : isOr b = true) : isBo b = true := by cases b <;> first | rfl | cases h
end

theorem cst_sa {p : Pr} {c : Cn} {e : Expr} {y : V} {d : D} (pe : ∀ X, PE X e (tC y)) (h : ∀ N μ H, VD p.K N μ H y d) (hn : notL d = true) (hc : noComp e = true) (hp : plainT e = true) : ∃ t, SA p c e (.cst d) t := by
  have se : SemE p.K p.Φ p.G (tC y) (.cst d) := sem_cst h
  refine ⟨_, .ofF (fun X _ => pe X) (se.toF fun v S d' S' z xs => ?_) hc hp rfl⟩
  simp only [evE] at z
  cases z
  intro e
  rw [e] at hn
  cases hn

theorem asSortLam_eq {e x : Expr} (h : asSortLam e = some x) : ∃ p pos kpos lpos pa p1 p2 p3 p4 p5 p6 k, e = .Call (.Name "sorted" p) [x] [{ arg := some "key", value := .Lambda (lamArgs pa) (lamBody p1 p2 p3 p4 p5 p6 k) lamSc lpos, pos := kpos }] pos := by
  unfold asSortLam at h
  split at h
  · split at h
    · rename_i f p0 x k ar bd sc lpos kpos pos hb
      cases h
      simp only [Bool.and_eq_true] at hb
      obtain ⟨⟨⟨⟨h1, h2⟩, h3⟩, h4⟩, h5⟩ := hb
      obtain rfl := eq_of_beq h1
      obtain rfl := eq_of_beq h2
      unfold isLamArgs at h3
      split at h3
      case h_2 => cases h3
      obtain rfl := eq_of_beq h3
      unfold isLamSc at h5
      split at h5
      case h_2 => cases h5
      simp only [Bool.and_eq_true] at h5
      obtain rfl := eq_of_beq h5.1
      obtain rfl := eq_of_beq h5.2
      unfold isLamBody at h4
      split at h4
      case h_2 => cases h4
      simp only [Bool.and_eq_true] at h4
      obtain rfl := eq_of_beq h4.1.1
      obtain rfl := eq_of_beq h4.1.2
      obtain rfl := eq_of_beq h4.2
      exact ⟨_, _, _, _, _, _, _, _, _, _, _, _, rfl⟩
    · cases h
  · cases h
/-! ### the check is sound -/
mutual
theorem sndE (p : Pr) : ∀ (ir : Ex) (c : Cn) (e : Expr), chkE ir c e = true → ∃ t, SA p c e ir t
  | .cst d, c, e, h => by
    unfold chkE cstOk at h
    split at h
    · obtain rfl := of_decide_eq_true h
      exact cst_sa (fun _ => pe_int) (fun _ _ _ => .int _) rfl rfl rfl
    · obtain rfl := eq_of_beq h
      exact cst_sa (fun _ => pe_bl) (fun _ _ _ => .bl _) rfl rfl rfl
    · simp only [Bool.and_eq_true, decide_eq_true_eq] at h
      obtain ⟨rfl, h⟩ := h
      exact cst_sa (fun _ => pe_str) (fun _ _ _ => .str _ h) rfl rfl rfl
    · exact cst_sa (fun _ => pe_non) (fun _ _ _ => .non) rfl rfl rfl
    · cases h
  | .var i, c, e, h => by
    unfold chkE varOk at h
    split at h
    · exact ⟨_, .ofE (fun X ok => by obtain ⟨h1, h2, h3, h4⟩ := ok.slot h; exact pe_var h1 h2 h3 h4) sem_var rfl rfl rfl rfl⟩
    · cases h
  | .ovar i, c, e, h => by
    unfold chkE varOk at h
    split at h
    · have pe : ∀ X, CtxOk p c X → PE X _ (tVar i) := fun X ok => by obtain ⟨h1, h2, h3, h4⟩ := ok.slot h; exact pe_var (pos := ‹Pos›) h1 h2 h3 h4
      exact ⟨_, pe, asg_of pe rfl, sem_ovar, (fun h => nomatch h), (fun h => nomatch h), (fun h => nomatch h), (fun h => nomatch h)⟩
    · cases h
  | .glob k, c, e, h => by
    unfold chkE globOk at h
    split at h
    · rename_i x pos
      simp only [Bool.and_eq_true, decide_eq_true_eq] at h
      have pe : ∀ X, CtxOk p c X → PE X (.Name x pos) (tC (p.gv k)) := fun X ok => by
        obtain ⟨u, d, h1, h2, h3, h4⟩ := ok.gs x k h.2
        obtain ⟨g, hd, _⟩ := ok.gl h.1
        exact pe_glob g h1 h2 hd
      by_cases hg : ∃ d, p.G k = some d ∧ ∀ N μ H, VD p.K N μ H (p.gv k) d
      · obtain ⟨d, h3, h4⟩ := hg
        exact ⟨_, .ofE pe (sem_glob h3 h4) rfl rfl rfl rfl⟩
      · refine ⟨_, .ofE (t := fun _ _ _ => True) (fun X ok => ?_) (fun Z μ ω H σ v S R Q q => trivial) rfl rfl rfl rfl⟩
        obtain ⟨u, d, h1, h2, h3, h4⟩ := ok.gs x k h.2
        exact absurd ⟨d, h3, h4⟩ hg
    · cases h
  | .op o es, c, e, h => by
    unfold chkE at h
    split at h
    · rename_i l hv
      simp only [Bool.and_eq_true] at h
      exact op_snd hv (sndEs p es c l h.1) h.2
    · cases h
  | .chain o o' a b d, c, e, h => by
    unfold chkE at h
    split at h
    · rename_i x q q' y z hv
      simp only [Bool.and_eq_true] at h
      obtain ⟨⟨⟨⟨⟨⟨⟨⟨k1, k2⟩, k3⟩, h1⟩, h2⟩, h3⟩, n1⟩, n2⟩, n3⟩ := h
      obtain ⟨ta, sa⟩ := sndE p a c x h1
      obtain ⟨tb, sb⟩ := sndE p b c y h2
      obtain ⟨td, sd⟩ := sndE p d c z h3
      unfold asCmp2 at hv
      split at hv
      case h_2 => cases hv
      cases hv
      obtain ⟨_, r, r1, r2⟩ := cmp_r (K := p.K) k1
      obtain ⟨_, r', r1', r2'⟩ := cmp_r (K := p.K) k2
      have lm : lastMarks [q, q'] [y, z] = false := by
        simp only [Bool.not_eq_true'] at k3
        exact k3
      have sf := sem_chain (sa.se n1) (sb.se n2) (sd.se n3) r2 r2'
      exact ⟨_, .ofC (fun X ok => pe_chain (r1 X ok.hK ok.un) (r1' X ok.hK ok.un) (sa.pe X ok) (sb.pe X ok) (sd.pe X ok) lm) (fun X ok => pt_chain (r1 X ok.hK ok.un) (r1' X ok.hK ok.un) (sa.pe X ok) (sb.pe X ok) (sd.pe X ok) lm) (sem_test sf.toE) sf rfl rfl⟩
    · cases h
  | .and a b, c, e, h => by
    unfold chkE at h
    split at h
    · rename_i x y rest pos hv
      unfold asBool at hv
      split at hv
      case h_2 => cases hv
      cases hv
      simp only [Bool.and_eq_true] at h
      obtain ⟨⟨⟨⟨⟨h1, n1⟩, t1⟩, n2⟩, t2⟩, h2⟩ := h
      obtain ⟨ta, sa⟩ := sndE p a c x h1
      cases rest with
      | nil =>
        obtain ⟨tb, sb⟩ := sndE p b c y h2
        exact ⟨_, and_sa (e := x) sa sb n1 t1 n2 t2 fun h => absurd rfl h⟩
      | cons z zs =>
        simp only [Bool.and_eq_true] at h2
        obtain ⟨tb, sb⟩ := sndE p b c _ h2.1
        exact ⟨_, and_sa (e := x) sa sb n1 t1 n2 t2 fun _ => isAnd_bo h2.2⟩
    · cases h
  | .or a b, c, e, h => by
    unfold chkE at h
    split at h
    · rename_i x y rest pos hv
      unfold asBool at hv
      split at hv
      case h_2 => cases hv
      cases hv
      simp only [Bool.and_eq_true] at h
      obtain ⟨⟨⟨⟨⟨h1, n1⟩, t1⟩, n2⟩, t2⟩, h2⟩ := h
      obtain ⟨ta, sa⟩ := sndE p a c x h1
      cases rest with
      | nil =>
        obtain ⟨tb, sb⟩ := sndE p b c y h2
        exact ⟨_, or_sa (e := x) sa sb n1 t1 n2 t2 fun h => absurd rfl h⟩
      | cons z zs =>
        simp only [Bool.and_eq_true] at h2
        obtain ⟨tb, sb⟩ := sndE p b c _ h2.1
        exact ⟨_, or_sa (e := x) sa sb n1 t1 n2 t2 fun _ => isOr_bo h2.2⟩
    · cases h
  | .not a, c, e, h => by
    unfold chkE at h
    split at h
    · rename_i x hv
      unfold asNot at hv
      split at hv
      case h_2 => cases hv
      cases hv
      simp only [Bool.and_eq_true] at h
      obtain ⟨ta, sa⟩ := sndE p a c x h.1.1
      obtain ⟨tt, p1, p2⟩ := sa.pt h.2
      have se := sem_not (sa.se h.1.2)
      have pe : ∀ X, CtxOk p c X → PE X _ (tNotV ta) := fun X ok => pe_not (pos := ‹Pos›) (sa.pe X ok)
      exact ⟨_, pe, asg_of pe rfl, se.toB, fun _ => se, (fun h => nomatch h), fun _ => ⟨_, fun X ok => pt_not (p1 X ok), sem_notT p2⟩, (fun h => nomatch h)⟩
    · cases h
  | .ife t a b, c, e, h => by
    unfold chkE at h
    split at h
    · rename_i x y z hv
      unfold asIfE at hv
      split at hv
      case h_2 => cases hv
      cases hv
      simp only [Bool.and_eq_true] at h
      obtain ⟨⟨⟨⟨⟨h1, t1⟩, h2⟩, n2⟩, h3⟩, n3⟩ := h
      obtain ⟨tx, sx⟩ := sndE p t c x h1
      obtain ⟨ta, sa⟩ := sndE p a c y h2
      obtain ⟨tb, sb⟩ := sndE p b c z h3
      obtain ⟨tt, p1, p2⟩ := sx.pt t1
      have se := sem_ife p2 (sa.se n2) (sb.se n3)
      have pe : ∀ X, CtxOk p c X → PE X _ (tIf tt ta tb) := fun X ok => pe_ifExp (pos := ‹Pos›) (p1 X ok) (sa.pe X ok) (sb.pe X ok)
      exact ⟨_, pe, asg_of pe rfl, se.toB, fun _ => se, (fun h => nomatch h), (fun h => nomatch h), (fun h => nomatch h)⟩
    · cases h
  | .tup es, c, e, h => by
    unfold chkE at h
    split at h
    · rename_i l hv
      simp only [Bool.and_eq_true, decide_eq_true_eq] at h
      obtain ⟨⟨ta, h1, h2⟩, _, _⟩ := (sndEs p es c l h.1.1).all h.1.2
      unfold asTupE at hv
      split at hv
      case h_2 => cases hv
      cases hv
      exact ⟨_, .ofF (fun X ok => pe_tup (h1 X ok)) ((sem_tup h2 h.2).toF fun v S d S' z xs => by
        simp only [evE] at z
        cases q : evEs p.Φ p.G es v S with
        | ok ys S1 => rw [q] at z; cases z; exact fun e => nomatch e
        | exc => rw [q] at z; cases z
        | stuck => rw [q] at z; cases z) rfl rfl rfl⟩
    · cases h
  | .lst es, c, e, h => by
    unfold chkE at h
    split at h
    · rename_i l hv
      simp only [Bool.and_eq_true, decide_eq_true_eq] at h
      obtain ⟨⟨ta, h1, h2⟩, _, _⟩ := (sndEs p es c l h.1.1).all h.1.2
      unfold asLstE at hv
      split at hv
      case h_2 => cases hv
      cases hv
      exact ⟨_, .ofF (fun X ok => pe_lst (h1 X ok)) (sem_lst h2 h.2) rfl rfl rfl⟩
    · cases h
  | .call f es, c, e, h => by
    unfold chkE at h
    split at h
    · rename_i x l hv
      simp only [Bool.and_eq_true] at h
      obtain ⟨⟨⟨h1, h2⟩, h3⟩, h4⟩ := h
      split at h4
      · rename_i f' n fr hf
        simp only [Bool.and_eq_true] at h4
        obtain ⟨⟨q1, q2⟩, q3⟩ := h4
        obtain rfl := eq_of_beq q1
        exact call_sa hv (sndEs p es c l h1) h2 h3 hf (eq_of_beq q2) (eq_of_beq q3)
      · cases h4
    · cases h
  | .lc w g it t e1, c, e, h => by
    unfold chkE at h
    split at h
    · rename_i elt tg iter ifs sc hv
      unfold asLc1 at hv
      split at hv
      case h_2 => cases hv
      cases hv
      simp only [Bool.and_eq_true, decide_eq_true_eq] at h
      obtain ⟨⟨⟨⟨⟨⟨⟨⟨⟨h1, h2⟩, h3⟩, h4⟩, h5⟩, h6⟩, h7⟩, h8⟩, h9⟩, h10⟩ := h
      obtain ⟨wi, i1, i2⟩ := sndI p it c tg iter h1
      obtain ⟨tg', g1, g2⟩ := chkG_snd p (c.blk sc) g tg h4
      obtain ⟨tt, t1, t2⟩ := tests_snd h8 h7 fun x hx => sndE p t (c.blk sc) x hx
      obtain ⟨te, se⟩ := sndE p e1 (c.blk sc) elt h9
      exact ⟨_, lc_sa i1 h2 h3 g1 t1 se.pe (sem_lc i2 g2 h5 t2 (se.se h10)) rfl⟩
    · cases h
  | .lc2 w w1 g it t g1 it1 t1 e1, c, e, h => by
    unfold chkE at h
    split at h
    · rename_i elt tg iter ifs tg1 iter1 ifs1 sc hv
      unfold asLc2 at hv
      split at hv
      case h_2 => cases hv
      cases hv
      simp only [Bool.and_eq_true, decide_eq_true_eq] at h
      obtain ⟨⟨⟨⟨⟨⟨⟨⟨⟨⟨⟨⟨⟨⟨⟨⟨⟨h1, h2⟩, h2'⟩, h3⟩, h4⟩, h5⟩, h6⟩, h7⟩, h8⟩, k1⟩, k4⟩, k5⟩, k0⟩, k6⟩, k7⟩, k8⟩, h9⟩, h10⟩ := h
      obtain ⟨wi, i1, i2⟩ := sndI p it c tg iter h1
      obtain ⟨tg', a1, a2⟩ := chkG_snd p (c.blk sc) g tg h4
      obtain ⟨tt, b1, b2⟩ := tests_snd h8 h7 fun x hx => sndE p t (c.blk sc) x hx
      obtain ⟨wi1, j1, j2⟩ := sndI p it1 (c.blk sc) tg1 iter1 k1
      obtain ⟨tg1', c1, c2⟩ := chkG_snd p (c.blk sc) g1 tg1 k4
      obtain ⟨tt1, d1, d2⟩ := tests_snd k8 k7 fun x hx => sndE p t1 (c.blk sc) x hx
      obtain ⟨te, se⟩ := sndE p e1 (c.blk sc) elt h9
      exact ⟨_, lc2_sa i1 h2 h2' h3 k0 a1 b1 j1 c1 d1 se.pe (sem_lc2 i2 a2 h5 b2 j2 c2 k5 d2 (se.se h10)) rfl⟩
    · cases h
  | .mk a, c, e, h => by
    unfold chkE at h
    simp only [Bool.and_eq_true] at h
    obtain ⟨t, sa⟩ := sndE p a c e h.1
    have se := sem_mk (sa.sf h.2)
    exact ⟨t, ⟨sa.pe, sa.asg, se.toB, fun _ => se, fun h => (by cases h), fun h => (by cases h), fun h => (by cases h)⟩⟩
  | .pure a, c, e, h => by
    unfold chkE at h
    simp only [Bool.and_eq_true] at h
    obtain ⟨t, sa⟩ := sndE p a c e h.1
    have se := sem_pure (sa.se h.2)
    exact ⟨t, ⟨sa.pe, sa.asg, se.toB, fun _ => se, fun h => (by cases h), fun h => (by
      obtain ⟨tt, h1, h2⟩ := sa.pt h
      exact ⟨tt, h1, sem_pureT h2⟩), fun h => (by cases h)⟩⟩
  | .srtL i a, c, e, h => by
    unfold chkE at h
    split at h
    · rename_i x hv
      simp only [Bool.and_eq_true, Bool.not_eq_true', decide_eq_true_eq] at h
      obtain ⟨⟨⟨⟨⟨h1, h2⟩, h3⟩, h4⟩, h5⟩, h6⟩ := h
      obtain ⟨ta, sa⟩ := sndE p a c x h1
      obtain ⟨p0, pos, kpos, lpos, pa, p1, p2, p3, p4, p5, p6, k, rfl⟩ := asSortLam_eq hv
      refine ⟨_, .ofF (fun X ok => ?_) (sem_srtL (i := i) sa.sb) rfl rfl rfl⟩
      obtain ⟨g, m, _, _⟩ := ok.isB h4
      obtain ⟨cd, P, TB, hcode, hmT, huT⟩ := ok.lam h3
      have q := pe_sortLam (X := X) (i := i) (p := p0) (pos := pos) (kpos := kpos) (lpos := lpos) (pa := pa) (p1 := p1) (p2 := p2) (p3 := p3) (p4 := p4) (p5 := p5) (p6 := p6) (k := k) g m ok.calm ok.dp (by have := ok.un; omega) TB hcode hmT huT (by rw [ok.hN]; exact h5) (by rw [ok.hsc]; exact h6) (sa.pe X ok) (star_each h2)
      rw [ok.hK] at q
      exact q
    · cases h
theorem sndEs (p : Pr) : ∀ (es : Exs) (c : Cn) (l : List Expr), chkEs es c l = true → SL p c l es
  | .nil, c, l, h => by
    unfold chkEs at h
    cases l with
    | nil => exact trivial
    | cons => cases h
  | .cons ir es, c, l, h => by
    unfold chkEs at h
    cases l with
    | nil => cases h
    | cons e l =>
      simp only [Bool.and_eq_true, Bool.not_eq_true'] at h
      exact ⟨sndE p ir c e h.1.1, h.1.2, sndEs p es c l h.2⟩
theorem sndI (p : Pr) : ∀ (it : Itr) (c : Cn) (tg e : Expr), chkI it c tg e = true → ∃ wi, (∀ X, CtxOk p c X → PI X tg e wi) ∧ SemI p.K p.Φ p.G wi it
  | .seq a, c, tg, e, h => by
    unfold chkI at h
    simp only [Bool.and_eq_true] at h
    obtain ⟨ta, sa⟩ := sndE p a c e h.1
    exact ⟨_, fun X ok => by
      have k := ok.hK
      have q := pi_seq (tg := tg) (pe_sz (sa.pe X ok))
      rw [k] at q
      exact q, sem_iseq (sa.se h.2)⟩
  | .range1 a, c, tg, e, h => by
    unfold chkI at h
    split at h
    · rename_i x y hv
      simp only [Bool.and_eq_true, Bool.not_eq_true'] at h
      obtain ⟨⟨⟨⟨h1, h2⟩, h3⟩, h4⟩, h5⟩ := h
      obtain rfl := eq_of_beq h1
      obtain ⟨ta, sa⟩ := sndE p a c y h3
      obtain ⟨px, pos, rfl⟩ := asCall_eq hv
      exact ⟨_, fun X ok => by
        obtain ⟨g, m, _, _⟩ := ok.isB h2
        exact pi_range1 g m (pa_cons (sa.pe X ok) pa_nil (star_each h5)) (star_each h5), sem_irange1 (sa.se h4)⟩
    · cases h
  | .range2 a b, c, tg, e, h => by
    unfold chkI at h
    split at h
    · rename_i x y z hv
      simp only [Bool.and_eq_true, Bool.not_eq_true'] at h
      obtain ⟨⟨⟨⟨⟨⟨⟨h1, h2⟩, h3⟩, h4⟩, h5⟩, h6⟩, h7⟩, h8⟩ := h
      obtain rfl := eq_of_beq h1
      obtain ⟨ta, sa⟩ := sndE p a c y h3
      obtain ⟨tb, sb⟩ := sndE p b c z h6
      obtain ⟨px, pos, rfl⟩ := asCall_eq hv
      exact ⟨_, fun X ok => by
        obtain ⟨g, m, _, _⟩ := ok.isB h2
        have e2 : starEach [z] X.env = [(false, eval z X.env)] := star_each h8
        exact pi_range2 g m (pa_cons (sa.pe X ok) (pa_cons (sb.pe X ok) pa_nil (star_each h8)) (star_each h5)) (by rw [star_each h5, e2]) e2, sem_irange2 (sa.se h4) (sb.se h7)⟩
    · cases h
  | .enum a, c, tg, e, h => by
    unfold chkI at h
    split at h
    · rename_i x y hv
      simp only [Bool.and_eq_true, Bool.not_eq_true'] at h
      obtain ⟨⟨⟨⟨⟨h1, h2⟩, h3⟩, h4⟩, h5⟩, h6⟩ := h
      obtain rfl := eq_of_beq h1
      obtain ⟨ta, sa⟩ := sndE p a c y h3
      obtain ⟨px, pos, rfl⟩ := asCall_eq hv
      unfold isTupE at h6
      split at h6
      case h_2 => cases h6
      exact ⟨_, fun X ok => by
        obtain ⟨g, m, _, _⟩ := ok.isB h2
        have q := pi_enumA (p := px) (pos := pos) (tpos := ‹Pos›) (elts := ‹List Expr›) (kk := ‹Nat›) g m (pa_cons (pe_sz (sa.pe X ok)) pa_nil (star_each h5)) (star_each h5)
        rw [ok.hK] at q
        exact q, sem_ienum (sa.se h4)⟩
    · cases h
  | .zip a b, c, tg, e, h => by
    unfold chkI at h
    split at h
    · rename_i x y z hv
      simp only [Bool.and_eq_true, Bool.not_eq_true'] at h
      obtain ⟨⟨⟨⟨⟨⟨⟨⟨h1, h2⟩, h3⟩, h4⟩, h5⟩, h6⟩, h7⟩, h8⟩, h9⟩ := h
      obtain rfl := eq_of_beq h1
      obtain ⟨ta, sa⟩ := sndE p a c y h3
      obtain ⟨tb, sb⟩ := sndE p b c z h6
      obtain ⟨px, pos, rfl⟩ := asCall_eq hv
      unfold isTupE at h9
      split at h9
      case h_2 => cases h9
      exact ⟨_, fun X ok => by
        obtain ⟨g, m, _, _⟩ := ok.isB h2
        have q := pi_zip2 (p := px) (pos := pos) (tpos := ‹Pos›) (elts := ‹List Expr›) (kk := ‹Nat›) g m (pa_cons (pe_sz (sa.pe X ok)) (pa_cons (sb.pe X ok) pa_nil (star_each h8)) (star_each h5)) (star_each h5) (star_none (es := [z]) pos (by rw [List.all_cons, h8]; rfl))
        rw [ok.hK] at q
        exact q, sem_izip (sa.se h4) (sb.se h7)⟩
    · cases h
  | .zip3 a b d, c, tg, e, h => by
    unfold chkI at h
    split at h
    · rename_i x y z u hv
      simp only [Bool.and_eq_true, Bool.not_eq_true'] at h
      obtain ⟨⟨⟨⟨⟨⟨⟨⟨⟨⟨⟨h1, h2⟩, h3⟩, h4⟩, h5⟩, h6⟩, h7⟩, h8⟩, k1⟩, k2⟩, k3⟩, h9⟩ := h
      obtain rfl := eq_of_beq h1
      obtain ⟨ta, sa⟩ := sndE p a c y h3
      obtain ⟨tb, sb⟩ := sndE p b c z h6
      obtain ⟨td, sd⟩ := sndE p d c u k1
      obtain ⟨px, pos, rfl⟩ := asCall_eq hv
      unfold isTupE at h9
      split at h9
      case h_2 => cases h9
      exact ⟨_, fun X ok => by
        obtain ⟨g, m, _, _⟩ := ok.isB h2
        have q := pi_zip3 (p := px) (pos := pos) (tpos := ‹Pos›) (elts := ‹List Expr›) (kk := ‹Nat›) g m (pa_cons (pe_sz (sa.pe X ok)) (pa_cons (sb.pe X ok) (pa_cons (sd.pe X ok) pa_nil (star_each k3)) (star_each h8)) (star_each h5)) (star_each h5) (star_none (es := [z, u]) pos (by rw [List.all_cons, List.all_cons, h8, k3]; rfl))
        rw [ok.hK] at q
        exact q, sem_izip3 (sa.se h4) (sb.se h7) (sd.se k2)⟩
    · cases h
  | .chars a, c, tg, e, h => by
    unfold chkI at h
    simp only [Bool.and_eq_true] at h
    obtain ⟨ta, sa⟩ := sndE p a c e h.1
    exact ⟨_, fun X ok => pi_str (sa.pe X ok), sem_ichars (sa.se h.2)⟩
end
end Q
/-! Q11: the check of statements, and that it is sound. -/
namespace Q
open PySem L2 PySem.Spec PyProof.Rows
variable [TC]

def asAsg : Stmt → Option (Expr × Expr)
  | .Assign [t] v _ => some (t, v)
  | _ => none
def nameAt (c : Cn) (i : Nat) : Expr → Bool
  | .Name y _ => decide (c.N[i]? = some y) && stor c y
  | _ => false
def asAppend : Stmt → Option (Expr × Expr)
  | .Expr (.Call (.Attribute o n ap) [a] [] cp) _ => if n = "append" ∧ ap.endLine = cp.line ∧ star a = false then some (o, a) else none
  | _ => none
def baseOk : Expr → Bool
  | .Call _ _ _ _ => false
  | _ => true
def asSubA : Stmt → Option (Expr × Expr × Expr)
  | .Assign [.Subscript o i _] v _ => if isSl i = false then some (o, i, v) else none
  | _ => none
def asAug : Stmt → Option (Str × Operator × Expr)
  | .AugAssign (.Name x _) o e _ => some (x, o, e)
  | _ => none
def asRet : Stmt → Option (Option Expr)
  | .Return v _ => some v
  | _ => none
def asIf : Stmt → Option (Expr × List Stmt × List Stmt)
  | .If t a b _ => some (t, a, b)
  | _ => none
def asFor : Stmt → Option (Expr × Expr × List Stmt)
  | .For tg it b [] _ => some (tg, it, b)
  | _ => none
def asWhile : Stmt → Option (Expr × List Stmt)
  | .While t b [] _ => some (t, b)
  | _ => none
def isPass : Stmt → Bool
  | .Pass _ => true
  | .Expr (.Constant (.str _) _ _) _ => true
  | _ => false
def isBrk : Stmt → Bool
  | .Break _ => true
  | _ => false
def isCont : Stmt → Bool
  | .Continue _ => true
  | _ => false
def asExpr : Stmt → Option Expr
  | .Expr e _ => some e
  | _ => none
def augOp : Operator → Op → Bool
  | .Add, .add => true
  | .Sub, .sub => true
  | _, _ => false
def isNonC : Ex → Bool
  | .cst .non => true
  | _ => false
/-! a, b = x, y -/
def notLoc (sc : Scope) : Expr → Bool
  | .Name x _ => !(sc.names.lookup x == some .local)
  | _ => true
theorem sw_cells {ts vs : List Expr} {k k2 : Nat} {pt p2 : Pos} {env : Env} (h : ts.any (notLoc env.scope) = true) : swappedStores [.Tuple ts k pt] (.Tuple vs k2 p2) env = pure none := by
  unfold swappedStores
  dsimp only
  generalize hn : (ts.filterMap fun
    | .Name id pos => if env.kindOf id == some .local && pos.line == (ts.head?.map (·.pos.line)).getD 0 then some id else none
    | _ => none) = names
  have hl : names.length < ts.length := by
    rw [← hn]
    rw [List.length_filterMap_lt_length_iff_exists]
    obtain ⟨t, ht, hb⟩ := List.any_eq_true.mp h
    refine ⟨t, ht, ?_⟩
    unfold notLoc at hb
    split at hb
    · rename_i x pos
      have hb : (env.kindOf x == some NameKind.local) = false := by
        show (List.lookup x env.scope.names == some NameKind.local) = false
        simpa only [Bool.not_eq_true'] using hb
      show (if (env.kindOf x == some NameKind.local && _) = true then some x else none) = none
      rw [hb]
      rfl
    · rename_i hne
      cases t <;> first | rfl | exact absurd rfl (hne _ _)
  have h1 : (names.length != ts.length) = true := by simp; omega
  split
  · rfl
  · split
    · rfl
    · rw [if_pos (by rw [h1]; rfl)]
theorem sw_par2 {x y : Str} {a b : Expr} {px py pt p2 : Pos} {k k2 : Nat} {env : Env} (hk : env.scope.kind = .function) (hx : env.scope.names.lookup x = some .local) (hy : env.scope.names.lookup y = some .local) (hl : (px.line == py.line) = true) (hne : x ≠ y) (h1 : star a = false) (h2 : star b = false)
    (hf : (foldedForSure 8 a && foldedForSure 8 b) = false) (hc : (constantsAlone 8 a && constantsAlone 8 b) = false) : swappedStores [.Tuple [.Name x px, .Name y py] k pt] (.Tuple [a, b] k2 p2) env = pure (some [x, y]) := by
  have hb : env.blockKind = .function := by unfold Env.blockKind; rw [hk]; rfl
  have kx : env.kindOf x = some .local := hx
  have ky : env.kindOf y = some .local := hy
  have hl' : px.line = py.line := by simpa using hl
  have hne' : (y == x) = false := by simpa using fun e => hne e.symm
  unfold swappedStores
  simp only [List.length_cons, List.length_nil, hb, List.any_cons, List.any_nil, List.head?_cons, Option.map_some, Option.getD_some, Expr.pos, List.filterMap_cons, List.filterMap_nil, kx, ky, hl', beq_self_eq_true, Bool.and_self, if_true, List.eraseDups_cons, List.filter_cons, hne', List.all_cons, List.all_nil, Bool.and_true, hf, hc]
  refine (if_neg (by decide)).trans ?_
  refine (if_neg ?_).trans ?_
  · intro h
    simp only [Bool.or_eq_true] at h
    rcases h with h | h | h
    · have q : star a = true := by cases a <;> exact h
      rw [h1] at q; cases q
    · have q : star b = true := by cases b <;> exact h
      rw [h2] at q; cases q
    · cases h
  refine (if_neg Bool.false_ne_true).trans ?_
  rfl
theorem sw_par3 {x y z : Str} {a b d : Expr} {px py pz pt p2 : Pos} {k k2 : Nat} {env : Env} (hk : env.scope.kind = .function) (hx : env.scope.names.lookup x = some .local) (hy : env.scope.names.lookup y = some .local) (hz : env.scope.names.lookup z = some .local) (hl : (px.line == py.line) = true) (hl2 : (px.line == pz.line) = true) (hne : x ≠ y) (hne2 : x ≠ z) (hne3 : y ≠ z) (h1 : star a = false) (h2 : star b = false) (h3 : star d = false)
    (hf : (foldedForSure 8 a && (foldedForSure 8 b && foldedForSure 8 d)) = false) (hc : (constantsAlone 8 a && (constantsAlone 8 b && constantsAlone 8 d)) = false) : swappedStores [.Tuple [.Name x px, .Name y py, .Name z pz] k pt] (.Tuple [a, b, d] k2 p2) env = pure (some [x, y, z]) := by
  have hb : env.blockKind = .function := by unfold Env.blockKind; rw [hk]; rfl
  have kx : env.kindOf x = some .local := hx
  have ky : env.kindOf y = some .local := hy
  have kz : env.kindOf z = some .local := hz
  have hl' : py.line = px.line := (eq_of_beq hl).symm
  have hl2' : pz.line = px.line := (eq_of_beq hl2).symm
  have e1 : (y == x) = false := by simpa using fun e => hne e.symm
  have e2 : (z == x) = false := by simpa using fun e => hne2 e.symm
  have e3 : (z == y) = false := by simpa using fun e => hne3 e.symm
  unfold swappedStores
  simp only [List.length_cons, List.length_nil, hb, List.any_cons, List.any_nil, List.head?_cons, Option.map_some, Option.getD_some, Expr.pos, List.filterMap_cons, List.filterMap_nil, kx, ky, kz, hl', hl2', beq_self_eq_true, Bool.and_self, if_true, List.eraseDups_cons, List.filter_cons, List.filter_nil, e1, e2, e3, Bool.not_false, List.all_cons, List.all_nil, Bool.and_true, hf, hc]
  refine (if_neg (by decide)).trans ?_
  refine (if_neg ?_).trans ?_
  · intro h
    simp only [Bool.or_eq_true] at h
    rcases h with h | h | h | h
    · have q : star a = true := by cases a <;> exact h
      rw [h1] at q; cases q
    · have q : star b = true := by cases b <;> exact h
      rw [h2] at q; cases q
    · have q : star d = true := by cases d <;> exact h
      rw [h3] at q; cases q
    · cases h
  refine (if_neg Bool.false_ne_true).trans ?_
  rfl

def locE (c : Cn) (i : Nat) : Expr → Bool
  | .Name x _ => decide (c.N[i]? = some x) && (c.sc.names.lookup x == some .local)
  | _ => false
def lineE (a b : Expr) : Bool := a.pos.line == b.pos.line
def nmE : Expr → Str
  | .Name x _ => x
  | _ => Str.empty
def chkP2 (c : Cn) (i j : Nat) (a b : Ex) : Expr → Expr → Bool
  | .Tuple [x, y] _ _, .Tuple [u, w] _ _ => locE c i x && locE c j y && lineE x y && decide (nmE x ≠ nmE y) && !star u && !star w && !(foldedForSure 8 u && foldedForSure 8 w) && !(constantsAlone 8 u && constantsAlone 8 w) && chkE a c u && nonO a && chkE b c w && nonO b
  | _, _ => false
def chkP3 (c : Cn) (i j l : Nat) (a b d : Ex) : Expr → Expr → Bool
  | .Tuple [x, y, z] _ _, .Tuple [u, w, r] _ _ => locE c i x && locE c j y && locE c l z && lineE x y && lineE x z && decide (nmE x ≠ nmE y) && decide (nmE x ≠ nmE z) && decide (nmE y ≠ nmE z) && !star u && !star w && !star r && !(foldedForSure 8 u && (foldedForSure 8 w && foldedForSure 8 r)) && !(constantsAlone 8 u && (constantsAlone 8 w && constantsAlone 8 r)) && chkE a c u && nonO a && chkE b c w && nonO b && chkE d c r && nonO d
  | _, _ => false
/-- the tuple is made, then taken apart: some target is no plain local name -/
def chkP0 (c : Cn) : Expr → Expr → Bool
  | .Tuple ts _ _, .Tuple _ _ _ => ts.any (notLoc c.sc)
  | _, _ => false
def chkPar (c : Cn) : Tg → Ex → Expr → Expr → Bool
  | .tup (.cons (.name i) (.cons (.name j) .nil)), .tup (.cons a (.cons b .nil)), t, v => chkP2 c i j a b t v
  | .tup (.cons (.name i) (.cons (.name j) (.cons (.name l) .nil))), .tup (.cons a (.cons b (.cons d .nil))), t, v => chkP3 c i j l a b d t v
  | _, _, _, _ => false
def asgG (c : Cn) (g : Tg) (t v : Expr) : Bool := match g with
  | .name i => nameAt c i t
  | .tup gs => chkG c (.tup gs) t && (!isTupE v || chkP0 c t v)
mutual
def chkS (fr : Bool) : Sm → Cn → Stmt → Bool
  | .asg g e, c, s => match asAsg s with
    | some (t, v) => chkPar c g e t v || (chkE e c v && nonO e && asgG c g t v)
    | none => false
  | .own i e, c, s => match asAsg s with
    | some (t, v) => chkE e c v && isF c e && nameAt c i t
    | none => false
  | .alloc i e, c, s => match asAsg s with
    | some (t, v) => chkE e c v && isF c e && nameAt c i t
    | none => false
  | .frz _, c, s => false
  | .app i e, c, s => match asAppend s with
    | some (o, a) => varOk c o i && chkE e c a && nonO e
    | none => false
  | .setO i a e, c, s => match asSubA s with
    | some (o, k, v) => varOk c o i && chkE a c k && nonO a && chkE e c v && nonO e
    | none => false
  | .setR o a e, c, s => match asSubA s with
    | some (ob, k, v) => chkE o c ob && nonO o && chkE a c k && nonO a && chkE e c v && nonO e
    | none => false
  | .appR o e, c, s => match asAppend s with
    | some (ob, a) => baseOk ob && chkE o c ob && nonO o && chkE e c a && nonO e
    | none => false
  | .aug i o e, c, s => match asAug s with
    | some (x, q, v) => decide (c.N[i]? = some x) && stor c x && augOp q o && chkE e c v && nonO e
    | none => false
  | .ret e, c, s => !fr && match asRet s with
    | some (some v) => chkE e c v && nonO e
    | some none => isNonC e
    | none => false
  | .retF e, c, s => fr && match asRet s with
    | some (some v) => chkE e c v && isF c e
    | some none => isNonC e
    | none => false
  | .retO i, c, s => fr && match asRet s with
    | some (some v) => varOk c v i
    | _ => false
  | .ife t a b, c, s => match asIf s with
    | some (x, l, r) => chkE t c x && tst t && chkSs fr a c l && chkSs fr b c r
    | none => false
  | .for_ g it b, c, s => match asFor s with
    | some (tg, e, l) => chkI it c tg e && notSet e && chkG c g tg && chkSs fr b c l
    | none => false
  | .forR g e b, c, s => match asFor s with
    | some (tg, x, l) => chkE e c x && nonO e && notSet x && chkG c g tg && chkSs fr b c l
    | none => false
  | .while_ t b, c, s => match asWhile s with
    | some (x, l) => chkE t c x && tst t && chkSs fr b c l
    | none => false
  | .brk, c, s => isBrk s
  | .cont, c, s => isCont s
  | .pass, c, s => isPass s
  | .drop e, c, s => match asExpr s with
    | some v => chkE e c v && nonO e && noComp v
    | none => false
def chkSs (fr : Bool) : Sms → Cn → List Stmt → Bool
  | .nil, c, l => l.isEmpty
  | .cons s ss, c, l => match s with
    | .frz _ => chkSs fr ss c l
    | s => match l with
      | st :: l => chkS fr s c st && chkSs fr ss c l
      | [] => false
end

structure CtxS (p : Pr) (c : Cn) (X : Cx) : Prop where
  ok : CtxOk p c X
  xe : X.xe = fun _ _ => False
structure SS (p : Pr) (c : Cn) (fr : Bool) (st : Stmt) (ir : Sm) (t : TS) : Prop where
  ps : ∀ X, CtxS p c X → PS X st t
  sem : SemS p.K p.Φ p.G fr t ir
structure SSs (p : Pr) (c : Cn) (fr : Bool) (st : List Stmt) (ir : Sms) (t : TS) : Prop where
  ps : ∀ X, CtxS p c X → PSs X st t
  sem : SemSs p.K p.Φ p.G fr t ir
section
variable {p : Pr} {c : Cn} {fr : Bool}
theorem asAsg_eq {s : Stmt} {t v : Expr} (h : asAsg s = some (t, v)) : ∃ pos, s = .Assign [t] v pos := by
  unfold asAsg at h
  split at h
  · cases h; exact ⟨_, rfl⟩
  · cases h
theorem nameAt_eq {i : Nat} {t : Expr} (h : nameAt c i t = true) : ∃ y py, t = .Name y py ∧ c.N[i]? = some y ∧ stor c y = true := by
  unfold nameAt at h
  split at h
  · simp only [Bool.and_eq_true, decide_eq_true_eq] at h
    exact ⟨_, _, rfl, h.1, h.2⟩
  · cases h
theorem asAppend_eq {s : Stmt} {o a : Expr} (h : asAppend s = some (o, a)) : ∃ ap cp sp, s = .Expr (.Call (.Attribute o "append" ap) [a] [] cp) sp ∧ (ap.endLine == cp.line) = true ∧ star a = false := by
  unfold asAppend at h
  split at h
  · split at h
    · rename_i hh
      cases h
      obtain ⟨rfl, h2, h3⟩ := hh
      exact ⟨_, _, _, rfl, by rw [h2]; exact beq_self_eq_true _, h3⟩
    · cases h
  · cases h
theorem asSubA_eq {s : Stmt} {o i v : Expr} (h : asSubA s = some (o, i, v)) : ∃ p1 pos, s = .Assign [.Subscript o i p1] v pos ∧ isSl i = false := by
  unfold asSubA at h
  split at h
  · split at h
    · rename_i hh
      cases h
      exact ⟨_, _, rfl, hh⟩
    · cases h
  · cases h
theorem varOk_pe {e : Expr} {i : Nat} (h : varOk c e i = true) : ∀ X, CtxOk p c X → PE X e (tVar i) := by
  unfold varOk at h
  split at h
  · exact fun X ok => by obtain ⟨h1, h2, h3, h4⟩ := ok.slot h; exact pe_var h1 h2 h3 h4
  · cases h
theorem varOk_base {e : Expr} {i : Nat} (h : varOk c e i = true) : baseOk e = true := by
  unfold varOk at h
  split at h
  · rfl
  · cases h
theorem base_plain {o : Expr} (h : baseOk o = true) (n : Str) (env : Env) : attributeBase o n env (eval o env) = eval o env := by
  cases o <;> first | rfl | cases h
theorem sw_sub (e o i : Expr) (pos : Pos) (l : Nat) (env : Env) : swapsWith e (some (.Subscript o i pos)) l env = pure false := by
  cases e <;> rfl
theorem sw_tup (e : Expr) (es : List Expr) (k : Nat) (pos : Pos) (l : Nat) (env : Env) : swapsWith e (some (.Tuple es k pos)) l env = pure false := by
  cases e <;> rfl
theorem ps_append {X : Cx} {o a : Expr} {ap cp sp : Pos} {to ta : TE} (ho : PE X o to) (hb : baseOk o = true) (ha : PE X a ta) (hl : (ap.endLine == cp.line) = true) (hs : star a = false) : PS X (.Expr (.Call (.Attribute o "append" ap) [a] [] cp) sp) (tDrop (tBM X.K "list" rAppend to (tCons ta tNil))) := by
  refine ps_expr (pe_bm PySem.F.plainAttrs_list PySem.F.slot_list_append PySem.F.type_list_append mt_append ho (pa_cons ha pa_nil (star_each hs)) (base_plain hb _ _) ?_ hl (star_each hs) rfl) rfl
  rw [star_each hs]
  rfl
theorem sub_assign {X : Cx} {o i : Expr} {pos : Pos} (h : isSl i = false) : ∀ v, assign (.Subscript o i pos) X.env v = (do
      let ov ← holding [v] (eval o X.env)
      let iv ← holding [v, ov] (eval i X.env)
      standAt pos
      holding [v, ov, iv] (setItem ov iv v)
      release [v, ov, iv] []) := by
  intro v
  cases i <;> first | rfl | cases h
theorem ps_setI {X : Cx} {o i v : Expr} {p1 pos : Pos} {to ti tv : TE} (ho : PE X o to) (hi : PE X i ti) (hv : PE X v tv) (h : isSl i = false) : PS X (.Assign [.Subscript o i p1] v pos) (tAsg tv (gSub to ti rSetL)) :=
  ps_asg hv (pg_sub ho hi set_list (sub_assign h)) (sw_sub v o i p1 pos.line X.env) (by cases v <;> rfl) rfl
end
section
variable {p : Pr} {c : Cn} {fr : Bool}
theorem locE_eq {i : Nat} {e : Expr} (h : locE c i e = true) : ∃ x px, e = .Name x px ∧ c.N[i]? = some x ∧ c.sc.names.lookup x = some .local := by
  unfold locE at h
  split at h
  · simp only [Bool.and_eq_true, decide_eq_true_eq] at h
    exact ⟨_, _, rfl, h.1, eq_of_beq h.2⟩
  · cases h
theorem ne_at {N : List Str} {i j : Nat} {x y : Str} (h1 : N[i]? = some x) (h2 : N[j]? = some y) (h : x ≠ y) : i ≠ j := fun e => by
  subst e
  rw [h1] at h2
  exact h (Option.some.inj h2)
theorem par_snd {g : Tg} {e : Ex} {t v : Expr} (h : chkPar c g e t v = true) (pos : Pos) : ∃ ts, SS p c fr (.Assign [t] v pos) (.asg g e) ts := by
  unfold chkPar at h
  split at h
  · rename_i i j a b
    unfold chkP2 at h
    split at h
    · rename_i x y k1 p1 u w k2 p2
      simp only [Bool.and_eq_true, Bool.not_eq_true', decide_eq_true_eq] at h
      obtain ⟨⟨⟨⟨⟨⟨⟨⟨⟨⟨⟨h1, h2⟩, h3⟩, h4⟩, h5⟩, h6⟩, h7⟩, h8⟩, h9⟩, h10⟩, h11⟩, h12⟩ := h
      obtain ⟨ta, sa⟩ := sndE p a c u h9
      obtain ⟨tb, sb⟩ := sndE p b c w h11
      obtain ⟨x, px, rfl, a1, a2⟩ := locE_eq h1
      obtain ⟨y, py, rfl, b1, b2⟩ := locE_eq h2
      refine ⟨_, fun X ok => ?_, sem_par2 (sem_cons (sa.se h10) (sem_cons (sb.se h12) sem_nil)) rfl⟩
      have hk : X.env.scope.kind = .function := by rw [ok.ok.hsc]; exact ok.ok.kind
      have lx : X.env.scope.names.lookup x = some .local := by rw [ok.ok.hsc]; exact a2
      have ly : X.env.scope.names.lookup y = some .local := by rw [ok.ok.hsc]; exact b2
      exact ps_par ok.ok.calm (by rw [ok.ok.hN]; exact ok.ok.nd) (by rw [ok.ok.hN]; exact a1) (by rw [ok.ok.hN]; exact b1) (ne_at a1 b1 h4) lx ly (pa_cons (sa.pe X ok.ok) (pa_cons (sb.pe X ok.ok) pa_nil (star_each h6)) (star_each h5))
        (sw_par2 hk lx ly h3 h4 h5 h6 h7 h8) rfl
    · cases h
  · rename_i i j l a b d
    unfold chkP3 at h
    split at h
    · rename_i x y z k1 p1 u w r k2 p2
      simp only [Bool.and_eq_true, Bool.not_eq_true', decide_eq_true_eq] at h
      obtain ⟨⟨⟨⟨⟨⟨⟨⟨⟨⟨⟨⟨⟨⟨⟨⟨⟨⟨h1, h2⟩, h2'⟩, h3⟩, h3'⟩, h4⟩, h4'⟩, h4''⟩, h5⟩, h6⟩, h6'⟩, h7⟩, h8⟩, h9⟩, h10⟩, h11⟩, h12⟩, h13⟩, h14⟩ := h
      obtain ⟨ta, sa⟩ := sndE p a c u h9
      obtain ⟨tb, sb⟩ := sndE p b c w h11
      obtain ⟨td, sd⟩ := sndE p d c r h13
      obtain ⟨x, px, rfl, a1, a2⟩ := locE_eq h1
      obtain ⟨y, py, rfl, b1, b2⟩ := locE_eq h2
      obtain ⟨z, pz, rfl, c1, c2⟩ := locE_eq h2'
      refine ⟨_, fun X ok => ?_, sem_par3 (sem_cons (sa.se h10) (sem_cons (sb.se h12) (sem_cons (sd.se h14) sem_nil))) rfl⟩
      have hk : X.env.scope.kind = .function := by rw [ok.ok.hsc]; exact ok.ok.kind
      have lx : X.env.scope.names.lookup x = some .local := by rw [ok.ok.hsc]; exact a2
      have ly : X.env.scope.names.lookup y = some .local := by rw [ok.ok.hsc]; exact b2
      have lz : X.env.scope.names.lookup z = some .local := by rw [ok.ok.hsc]; exact c2
      exact ps_par3 ok.ok.calm (by rw [ok.ok.hN]; exact ok.ok.nd) (by rw [ok.ok.hN]; exact a1) (by rw [ok.ok.hN]; exact b1) (by rw [ok.ok.hN]; exact c1) (ne_at a1 b1 h4) (ne_at a1 c1 h4') (ne_at b1 c1 h4'') lx ly lz (pa_cons (sa.pe X ok.ok) (pa_cons (sb.pe X ok.ok) (pa_cons (sd.pe X ok.ok) pa_nil (star_each h6')) (star_each h6)) (star_each h5))
        (sw_par3 hk lx ly lz h3 h3' h4 h4' h4'' h5 h6 h6' h7 h8) rfl
    · cases h
  · cases h
end
mutual
theorem sndS (p : Pr) (fr : Bool) : ∀ (s : Sm) (c : Cn) (st : Stmt), chkS fr s c st = true → ∃ t, SS p c fr st s t
  | .asg g e, c, s, h => by
    unfold chkS at h
    split at h
    · rename_i t v hv
      obtain ⟨pos, rfl⟩ := asAsg_eq hv
      simp only [Bool.or_eq_true, Bool.and_eq_true] at h
      rcases h with h | h
      · exact par_snd h pos
      obtain ⟨⟨h1, h2⟩, h3⟩ := h
      obtain ⟨te, se⟩ := sndE p e c v h1
      unfold asgG at h3
      split at h3
      · obtain ⟨y, py, rfl, k1, k2⟩ := nameAt_eq h3
        exact ⟨_, fun X ok => se.asg X ok.ok _ y py pos k1 k2, sem_asg (se.se h2) (sem_gname _)⟩
      · simp only [Bool.and_eq_true, Bool.or_eq_true, Bool.not_eq_true'] at h3
        obtain ⟨tg, g1, g2⟩ := chkG_snd p c _ t h3.1
        refine ⟨_, fun X ok => ?_, sem_asg (se.se h2) g2⟩
        have h3' := h3.1
        unfold chkG at h3'
        split at h3'
        · rename_i es k tp
          refine ps_asg (se.pe X ok.ok) (g1 X ok.ok) (sw_tup v es k tp pos.line X.env) ?_ rfl
          rcases h3.2 with h4 | h4
          · cases v <;> first | rfl | exact nomatch h4
          · unfold chkP0 at h4
            split at h4
            · rename_i _ _ _ e1
              cases e1
              exact sw_cells (by rw [ok.ok.hsc]; exact h4)
            · cases h4
        · cases h3'
    · cases h
  | .own i e, c, s, h => by
    unfold chkS at h
    split at h
    · rename_i t v hv
      obtain ⟨pos, rfl⟩ := asAsg_eq hv
      simp only [Bool.and_eq_true] at h
      obtain ⟨⟨h1, h2⟩, h3⟩ := h
      obtain ⟨te, se⟩ := sndE p e c v h1
      obtain ⟨y, py, rfl, k1, k2⟩ := nameAt_eq h3
      exact ⟨_, fun X ok => se.asg X ok.ok _ y py pos k1 k2, sem_own (se.sf h2)⟩
    · cases h
  | .alloc i e, c, s, h => by
    unfold chkS at h
    split at h
    · rename_i t v hv
      obtain ⟨pos, rfl⟩ := asAsg_eq hv
      simp only [Bool.and_eq_true] at h
      obtain ⟨⟨h1, h2⟩, h3⟩ := h
      obtain ⟨te, se⟩ := sndE p e c v h1
      obtain ⟨y, py, rfl, k1, k2⟩ := nameAt_eq h3
      exact ⟨_, fun X ok => se.asg X ok.ok _ y py pos k1 k2, sem_alloc (se.sf h2)⟩
    · cases h
  | .frz i, c, s, h => by
    unfold chkS at h
    cases h
  | .app i e, c, s, h => by
    unfold chkS at h
    split at h
    · rename_i o a hv
      obtain ⟨ap, cp, sp, rfl, hl, hs⟩ := asAppend_eq hv
      simp only [Bool.and_eq_true] at h
      obtain ⟨⟨h1, h2⟩, h3⟩ := h
      obtain ⟨te, se⟩ := sndE p e c a h2
      refine ⟨_, fun X ok => ?_, sem_app (se.se h3)⟩
      have q := ps_append (sp := sp) (varOk_pe h1 X ok.ok) (varOk_base h1) (se.pe X ok.ok) hl hs
      rw [ok.ok.hK] at q
      exact q
    · cases h
  | .setO i a e, c, s, h => by
    unfold chkS at h
    split at h
    · rename_i o k v hv
      obtain ⟨p1, pos, rfl, hs⟩ := asSubA_eq hv
      simp only [Bool.and_eq_true] at h
      obtain ⟨⟨⟨⟨h1, h2⟩, h3⟩, h4⟩, h5⟩ := h
      obtain ⟨ta, sa⟩ := sndE p a c k h2
      obtain ⟨te, se⟩ := sndE p e c v h4
      exact ⟨_, fun X ok => ps_setI (varOk_pe h1 X ok.ok) (sa.pe X ok.ok) (se.pe X ok.ok) hs, sem_setO (se.se h5) (sa.se h3)⟩
    · cases h
  | .setR o a e, c, s, h => by
    unfold chkS at h
    split at h
    · rename_i ob k v hv
      obtain ⟨p1, pos, rfl, hs⟩ := asSubA_eq hv
      simp only [Bool.and_eq_true] at h
      obtain ⟨⟨⟨⟨⟨h1, h1'⟩, h2⟩, h3⟩, h4⟩, h5⟩ := h
      obtain ⟨to, so⟩ := sndE p o c ob h1
      obtain ⟨ta, sa⟩ := sndE p a c k h2
      obtain ⟨te, se⟩ := sndE p e c v h4
      exact ⟨_, fun X ok => ps_setI (so.pe X ok.ok) (sa.pe X ok.ok) (se.pe X ok.ok) hs, sem_setR (se.se h5) (so.se h1') (sa.se h3)⟩
    · cases h
  | .appR o e, c, s, h => by
    unfold chkS at h
    split at h
    · rename_i ob a hv
      obtain ⟨ap, cp, sp, rfl, hl, hs⟩ := asAppend_eq hv
      simp only [Bool.and_eq_true] at h
      obtain ⟨⟨⟨⟨h0, h1⟩, h1'⟩, h2⟩, h3⟩ := h
      obtain ⟨to, so⟩ := sndE p o c ob h1
      obtain ⟨te, se⟩ := sndE p e c a h2
      refine ⟨_, fun X ok => ?_, sem_appR (so.se h1') (se.se h3)⟩
      have q := ps_append (sp := sp) (so.pe X ok.ok) h0 (se.pe X ok.ok) hl hs
      rw [ok.ok.hK] at q
      exact q
    · cases h
  | .aug i o e, c, s, h => by
    unfold chkS at h
    split at h
    · rename_i x q v hv
      unfold asAug at hv
      split at hv
      case h_2 => cases hv
      cases hv
      simp only [Bool.and_eq_true, decide_eq_true_eq] at h
      obtain ⟨⟨⟨⟨h1, h2⟩, h3⟩, h4⟩, h5⟩ := h
      obtain ⟨te, se⟩ := sndE p e c v h4
      unfold augOp at h3
      split at h3
      · refine ⟨_, fun X ok => ?_, sem_augAdd (se.se h5)⟩
        obtain ⟨a1, a2⟩ := ok.ok.stor h2
        exact ps_aug (by rw [ok.ok.hN]; exact ok.ok.nd) (by rw [ok.ok.hN]; exact h1) a1 (se.pe X ok.ok) ip_add a2
      · refine ⟨_, fun X ok => ?_, sem_augSub (se.se h5)⟩
        obtain ⟨a1, a2⟩ := ok.ok.stor h2
        exact ps_aug (by rw [ok.ok.hN]; exact ok.ok.nd) (by rw [ok.ok.hN]; exact h1) a1 (se.pe X ok.ok) ip_sub a2
      · cases h3
    · cases h
  | .ret e, c, s, h => by
    unfold chkS at h
    simp only [Bool.and_eq_true, Bool.not_eq_true'] at h
    obtain ⟨rfl, h⟩ := h
    unfold asRet at h
    split at h
    · rename_i v hv
      split at hv
      case h_2 => cases hv
      cases hv
      simp only [Bool.and_eq_true] at h
      obtain ⟨te, se⟩ := sndE p e c v h.1
      exact ⟨_, fun X ok => ps_ret (se.pe X ok.ok), sem_ret (se.se h.2)⟩
    · rename_i hv
      split at hv
      case h_2 => cases hv
      cases hv
      unfold isNonC at h
      split at h
      case h_2 => cases h
      exact ⟨tRet (tC .non), fun X ok => ps_retN, sem_ret (sem_cst fun _ _ _ => .non)⟩
    · cases h
  | .retF e, c, s, h => by
    unfold chkS at h
    simp only [Bool.and_eq_true] at h
    obtain ⟨rfl, h⟩ := h
    unfold asRet at h
    split at h
    · rename_i v hv
      split at hv
      case h_2 => cases hv
      cases hv
      simp only [Bool.and_eq_true] at h
      obtain ⟨te, se⟩ := sndE p e c v h.1
      exact ⟨_, fun X ok => ps_ret (se.pe X ok.ok), sem_retF (se.sf h.2)⟩
    · rename_i hv
      split at hv
      case h_2 => cases hv
      cases hv
      unfold isNonC at h
      split at h
      case h_2 => cases h
      have se : SemE p.K p.Φ p.G (tC .non) (.cst .non) := sem_cst fun _ _ _ => .non
      exact ⟨tRet (tC .non), fun X ok => ps_retN, sem_retF (se.toF fun v S d' S' z xs => by simp only [evE] at z; cases z; exact fun e => nomatch e)⟩
    · cases h
  | .retO i, c, s, h => by
    unfold chkS at h
    simp only [Bool.and_eq_true] at h
    obtain ⟨rfl, h⟩ := h
    unfold asRet at h
    split at h
    · rename_i v hv
      split at hv
      case h_2 => cases hv
      cases hv
      exact ⟨_, fun X ok => ps_ret (varOk_pe h X ok.ok), sem_retO⟩
    · cases h
  | .ife t a b, c, s, h => by
    unfold chkS at h
    split at h
    · rename_i x l r hv
      unfold asIf at hv
      split at hv
      case h_2 => cases hv
      cases hv
      simp only [Bool.and_eq_true] at h
      obtain ⟨⟨⟨h1, h2⟩, h3⟩, h4⟩ := h
      obtain ⟨tx, sx⟩ := sndE p t c x h1
      obtain ⟨tt, p1, p2⟩ := sx.pt h2
      obtain ⟨ta, sa⟩ := sndSs p fr a c l h3
      obtain ⟨tb, sb⟩ := sndSs p fr b c r h4
      exact ⟨_, fun X ok => ps_if (p1 X ok.ok) (sa.ps X ok) (sb.ps X ok), sem_ifS p2 sa.sem sb.sem⟩
    · cases h
  | .for_ g it b, c, s, h => by
    unfold chkS at h
    split at h
    · rename_i tg e l hv
      unfold asFor at hv
      split at hv
      case h_2 => cases hv
      cases hv
      simp only [Bool.and_eq_true] at h
      obtain ⟨⟨⟨h1, h2⟩, h3⟩, h4⟩ := h
      obtain ⟨wi, i1, i2⟩ := sndI p it c tg e h1
      obtain ⟨tg', g1, g2⟩ := chkG_snd p c g tg h3
      obtain ⟨tb, sb⟩ := sndSs p fr b c l h4
      exact ⟨_, fun X ok => ps_for (by rw [ok.xe]; exact PassesOwn.never) ok.ok.calm (i1 X ok.ok) (g1 X ok.ok) (sb.ps X ok) (fold_plain h2 _), sem_for i2 g2 sb.sem⟩
    · cases h
  | .forR g e b, c, s, h => by
    unfold chkS at h
    split at h
    · rename_i tg x l hv
      unfold asFor at hv
      split at hv
      case h_2 => cases hv
      cases hv
      simp only [Bool.and_eq_true] at h
      obtain ⟨⟨⟨⟨h1, h1'⟩, h2⟩, h3⟩, h4⟩ := h
      obtain ⟨te, se⟩ := sndE p e c x h1
      obtain ⟨tg', g1, g2⟩ := chkG_snd p c g tg h3
      obtain ⟨tb, sb⟩ := sndSs p fr b c l h4
      exact ⟨_, fun X ok => by
        have q := ps_for (pos := ‹Pos›) (by rw [ok.xe]; exact PassesOwn.never) ok.ok.calm (pi_seq (tg := tg) (pe_sz (se.pe X ok.ok))) (g1 X ok.ok) (sb.ps X ok) (fold_plain h2 _)
        rw [ok.ok.hK] at q
        exact q, sem_forR (se.se h1') g2 sb.sem⟩
    · cases h
  | .while_ t b, c, s, h => by
    unfold chkS at h
    split at h
    · rename_i x l hv
      unfold asWhile at hv
      split at hv
      case h_2 => cases hv
      cases hv
      simp only [Bool.and_eq_true] at h
      obtain ⟨⟨h1, h2⟩, h3⟩ := h
      obtain ⟨tx, sx⟩ := sndE p t c x h1
      obtain ⟨tt, p1, p2⟩ := sx.pt h2
      obtain ⟨tb, sb⟩ := sndSs p fr b c l h3
      exact ⟨_, fun X ok => ps_while (by rw [ok.xe]; exact PassesOwn.never) (p1 X ok.ok) (sb.ps X ok), sem_while p2 sb.sem⟩
    · cases h
  | .brk, c, s, h => by
    unfold chkS isBrk at h
    split at h
    · exact ⟨_, fun X ok => ps_break, sem_brk⟩
    · cases h
  | .cont, c, s, h => by
    unfold chkS isCont at h
    split at h
    · exact ⟨_, fun X ok => ps_continue, sem_cont⟩
    · cases h
  | .pass, c, s, h => by
    unfold chkS isPass at h
    split at h
    · exact ⟨_, fun X ok => ps_pass, sem_pass⟩
    · exact ⟨_, fun X ok => ps_doc, sem_pass⟩
    · cases h
  | .drop e, c, s, h => by
    unfold chkS at h
    split at h
    · rename_i v hv
      unfold asExpr at hv
      split at hv
      case h_2 => cases hv
      cases hv
      simp only [Bool.and_eq_true] at h
      obtain ⟨⟨h1, h2⟩, h3⟩ := h
      obtain ⟨te, se⟩ := sndE p e c v h1
      exact ⟨_, fun X ok => ps_expr (se.pe X ok.ok) (sw_none h3 _ _ _), sem_drop (se.se h2)⟩
    · cases h
theorem sndSs (p : Pr) (fr : Bool) : ∀ (s : Sms) (c : Cn) (st : List Stmt), chkSs fr s c st = true → ∃ t, SSs p c fr st s t
  | .nil, c, l, h => by
    unfold chkSs at h
    cases l with
    | nil => exact ⟨_, fun X ok => pss_nil, sem_nil_s⟩
    | cons => cases h
  | .cons s ss, c, l, h => by
    unfold chkSs at h
    split at h
    · obtain ⟨t, st⟩ := sndSs p fr ss c l h
      exact ⟨t, st.ps, sem_frz st.sem⟩
    · cases l with
      | nil => cases h
      | cons st l =>
        simp only [Bool.and_eq_true] at h
        obtain ⟨t, a⟩ := sndS p fr s c st h.1
        obtain ⟨u, b⟩ := sndSs p fr ss c l h.2
        exact ⟨_, fun X ok => pss_cons (a.ps X ok) (b.ps X ok), sem_cons_s a.sem b.sem⟩
end
end Q
/-! Q12: defs: each keeps its promise, by fuel; the law's end. -/
namespace Q
open PySem L2 PySem.Spec PyProof.Rows
variable [TC]

/-! ### the store behind a call -/
section
variable {K : Fg} {N N' : Addr → Prop} {μ : List Addr} {H : Hp} {n : Nat}
mutual
theorem VD.cut (hN : ∀ a, N' a → N a) : ∀ {v : V} {d : D}, VD K N μ H v d → D.under n d = true → VD K N' (μ.take n) H v d
  | _, _, .non, _ => .non
  | _, _, .bl b, _ => .bl b
  | _, _, .int i, _ => .int i
  | _, _, .str s h, _ => .str s h
  | _, _, .tup h hs, u => .tup h (VDs.cut hN hs (by simpa only [D.under] using u))
  | _, _, .lst h hs, u => .lst (h.imp (fun z => ⟨z.1, fun w => z.2 (hN _ w)⟩) id) (VDs.cut hN hs (by simpa only [D.under] using u))
  | _, _, @VD.ref _ _ _ _ k a h, u => .ref (by
      have u : k < n := by simpa only [D.under, decide_eq_true_eq] using u
      rw [List.getElem?_take_of_lt u]; exact h)
theorem VDs.cut (hN : ∀ a, N' a → N a) : ∀ {v : List V} {d : List D}, VDs K N μ H v d → D.unders n d = true → VDs K N' (μ.take n) H v d
  | _, _, .nil, _ => .nil
  | _, _, .cons h hs, u => by
    simp only [D.unders, Bool.and_eq_true] at u
    exact .cons (VD.cut hN h u.1) (VDs.cut hN hs u.2)
end
end
section
variable {K : Fg} {Z : Addr → Prop} {μ μ' : List Addr} {H H' : Hp} {S S' : Store} {σ : L2.St} {v : Fm}
theorem nn_take {n : Nat} (a : Addr) (h : NN Z (μ.take n) [] a) : NN Z μ [] a := h.imp (fun h => List.mem_of_mem_take h) id
theorem Rel.cut (r : Rel K Z μ [] H [] [] S) {n : Nat} (hu : (S.take n).all (Ob.under n) = true) : Rel K Z (μ.take n) [] H [] [] (S.take n) := by
  refine ⟨rfl, fun i d e => by simp at e, fun i xs e => by simp at e, fun k ob e => ?_, by rw [List.length_take, List.length_take, r.mlen], r.nd.sublist (List.take_sublist _ _), fun i j a e => by simp at e, fun a e => by simp at e, fun a h => ⟨fun z => (r.zap a h).1 (List.mem_of_mem_take z), (r.zap a h).2⟩, rfl, r.tab⟩
  have hk : k < n := by
    have := (List.getElem?_eq_some_iff.mp e).1
    rw [List.length_take] at this
    omega
  have u := List.all_eq_true.mp hu ob (List.mem_of_getElem? e)
  rw [List.getElem?_take_of_lt hk] at e
  obtain ⟨a, e1, q⟩ := r.sto k ob e
  refine ⟨a, by rw [List.getElem?_take_of_lt hk]; exact e1, ?_⟩
  cases ob with
  | lst xs =>
    obtain ⟨vs, e2, q⟩ := q
    exact ⟨vs, e2, q.cut nn_take u⟩
theorem SStep.toStep {ω : List (Option Addr)} (s : SStep μ ω H μ' [] H') (hω : ∀ a, some a ∉ ω) : Step μ H μ' H' := ⟨fun a u h n e => s.keepN a u h (hω a) n e, s.pre, s.live, s.tab⟩
theorem SStep.cutStep {ω : List (Option Addr)} (s : SStep μ ω H μ' [] H') (hω : ∀ a, some a ∉ ω) : Step μ H (μ'.take μ.length) H' := by
  obtain ⟨m, e, _⟩ := s.pre
  refine ⟨fun a u h n e => s.keepN a u h (hω a) n e, ⟨[], ?_, fun _ h => by simp at h⟩, s.live, s.tab⟩
  rw [e, List.append_nil, List.take_left']
  rfl
/-- what a body's answer is worth behind the call -/
theorem ret_ok {fr : Bool} {ω : List (Option Addr)} {d : D} {Q : VK} (r0 : Rel K Z μ [] H [] [] S) (hω : ∀ a, some a ∉ ω) (h : PostC K Z μ H fr (leave S.length d S') Q) : RetP K Z fr μ ω H d S' Q := by
  unfold leave at h
  cases fr with
  | true =>
    replace h : PostF K Z μ [] H [] [] _ Q := h
    by_cases hl : S'.length = S.length
    · rw [if_pos hl] at h
      exact ⟨fun xs e p vs H' μ' s r hp h1 x => h.1 xs e p vs H' μ' (s.toStep hω) r (hp.elim (fun z => absurd z (hω p)) id) h1 x, fun ne y H' μ' s r x => h.2 ne y H' μ' (s.toStep hω) r x⟩
    · rw [if_neg hl] at h
      by_cases hu : (d.under S.length && (S'.take S.length).all (Ob.under S.length)) = true
      · rw [if_pos hu] at h
        simp only [Bool.and_eq_true] at hu
        refine ⟨fun xs e p vs H' μ' s r hp h1 x => ?_, fun ne y H' μ' s r x => ?_⟩
        · subst e
          refine h.1 xs rfl p vs H' (μ'.take S.length) (by rw [← r0.mlen]; exact s.cutStep hω) (r.cut hu.2) (hp.elim (fun z => absurd z (hω p)) id) h1 ?_
          exact x.cut nn_take (by simpa only [D.under] using hu.1)
        · exact h.2 ne y H' (μ'.take S.length) (by rw [← r0.mlen]; exact s.cutStep hω) (r.cut hu.2) (x.cut nn_take hu.1)
      · rw [if_neg hu] at h
        exact h.elim
  | false =>
    replace h : Post K Z μ [] H [] [] _ Q := h
    by_cases hl : S'.length = S.length
    · rw [if_pos hl] at h
      exact fun y H' μ' s r x => h y H' μ' (s.toStep hω) r x
    · rw [if_neg hl] at h
      by_cases hu : (d.under S.length && (S'.take S.length).all (Ob.under S.length)) = true
      · rw [if_pos hu] at h
        simp only [Bool.and_eq_true] at hu
        exact fun y H' μ' s r x => h y H' (μ'.take S.length) (by rw [← r0.mlen]; exact s.cutStep hω) (r.cut hu.2) (x.cut nn_take hu.1)
      · rw [if_neg hu] at h
        exact h.elim
theorem RetP.val {fr : Bool} {ω : List (Option Addr)} {Q : VK} (h : RetP K Z fr μ ω H .non S' Q) {H' : Hp} {μ' : List Addr} (s : SStep μ ω H μ' [] H') (r : Rel K Z μ' [] H' [] [] S') : Q .non H' := by
  unfold RetP at h
  split at h
  · exact h.2 (fun _ e => nomatch e) .non H' μ' s r .non
  · exact h .non H' μ' s r .non
/-- the frame at the entry -/
theorem Rel.entry (r : Rel K Z μ [] H [] [] S) {vs : List V} {ds : List D} (x : VDs K (NN Z μ []) μ H vs ds) {N : List Str} (hl : ds.length ≤ N.length) : Rel K Z μ (List.replicate N.length Option.none) H (start N vs) (env0 N.length ds) S := by
  have hv := x.length
  have no : ∀ a : Addr, some a ∉ List.replicate N.length (Option.none : Option Addr) := fun a h => by
    have := List.eq_of_mem_replicate h
    cases this
  have xt : Xt K (NN Z μ []) (NN Z μ (List.replicate N.length Option.none)) μ μ H H := .weak fun a h => h.imp id fun h => h.elim (fun z => absurd z (no a)) .inr
  refine ⟨?_, fun i d e => ?_, fun i xs e => ?_, fun k ob e => ?_, r.mlen, r.nd, fun i j a e => ?_, fun a e => absurd e (no a), r.zap, ?_, r.tab⟩
  · unfold L2.start env0
    simp only [List.length_append, List.length_map, List.length_replicate, hv]
  · unfold env0 at e
    by_cases hi : i < ds.length
    · rw [List.getElem?_append_left (by simpa using hi), List.getElem?_map] at e
      cases q : ds[i]? with
      | none => rw [q] at e; cases e
      | some y =>
        rw [q] at e
        cases e
        obtain ⟨w, h1, h2⟩ := x.get q
        refine ⟨w, ?_, h2.mono xt⟩
        unfold L2.start
        rw [List.getElem?_append_left (by rw [List.length_map, hv]; exact hi), List.getElem?_map, h1]
        rfl
    · rw [List.getElem?_append_right (by rw [List.length_map]; omega), List.getElem?_replicate] at e
      split at e <;> cases e
  · unfold env0 at e
    by_cases hi : i < ds.length
    · rw [List.getElem?_append_left (by simpa using hi), List.getElem?_map] at e
      cases q : ds[i]? with
      | none => rw [q] at e; cases e
      | some y => rw [q] at e; cases e
    · rw [List.getElem?_append_right (by rw [List.length_map]; omega), List.getElem?_replicate] at e
      split at e <;> cases e
  · obtain ⟨a, e1, q⟩ := r.sto k ob e
    refine ⟨a, e1, ?_⟩
    cases ob with
    | lst xs =>
      obtain ⟨ws, e2, q⟩ := q
      exact ⟨ws, e2, q.mono xt⟩
  · rw [List.getElem?_replicate] at e
    split at e <;> cases e
  · unfold env0
    simp only [List.length_append, List.length_map, List.length_replicate]
    omega
end

/-! ### the text's table -/
structure Dn where
  name : Str
  f : Nat
  ps : List Str
  N : List Str
  st : Stmt
  fd : Fd
  lam : Bool
structure Tb where
  ds : List Dn
  gl : List (Str × Nat)
  bl : List Str
def cellsOf (sc : Scope) : List Str := (sc.names.filter fun y => y.2 == .cell).map (·.1)
def fOf (ds : List Dn) : List (Str × (Nat × Nat × Bool)) := ds.map fun d => (d.name, (d.f, d.ps.length, d.fd.fresh))
def fdOf : List Dn → Nat → Option Fd
  | [], _ => none
  | d :: ds, f => if d.f = f then some d.fd else fdOf ds f
def Tb.T (t : Tb) (f : Nat) : Option Fd := fdOf t.ds f
def Tb.cn (t : Tb) (d : Dn) : Cn := ⟨d.N, defScope d.st, cellsOf (defScope d.st), fOf t.ds, t.gl, t.bl, d.lam⟩
def scOk (N ps : List Str) (sc : Scope) : Bool := (match sc.kind with | .function => true | _ => false) && !sc.isCoroutine && !sc.isGenerator && decide N.Nodup && decide (N.take ps.length = ps) &&
  ps.all (fun x => match sc.names.lookup x with | some .local => true | some .cell => true | _ => false) && sc.names.all (fun y => match y.2 with | .free => false | _ => true)
def Tb.chk (t : Tb) (d : Dn) : Bool := chkSs d.fd.fresh d.fd.body (t.cn d) (defBody d.st) && scOk d.N d.ps (defScope d.st) && d.fd.ps == d.ps.length && d.fd.ns == d.N.length && decide (d.ps.length ≤ d.N.length)
theorem scOk_fn {N ps : List Str} {sc : Scope} (h : scOk N ps sc = true) : FnScope N ps sc := by
  unfold scOk at h
  simp only [Bool.and_eq_true, Bool.not_eq_true', decide_eq_true_eq, List.all_eq_true] at h
  obtain ⟨⟨⟨⟨⟨⟨h1, h2⟩, h3⟩, h4⟩, h5⟩, h6⟩, h7⟩ := h
  refine ⟨?_, h2, h3, h4, h5, fun x hx => ?_, fun y hy e => ?_⟩
  · split at h1
    · assumption
    · cases h1
  · have q := h6 x hx
    split at q
    · rename_i e; exact .inl e
    · rename_i e; exact .inr e
    · cases q
  · have q := h7 y hy
    rw [e] at q
    cases q
theorem fOf_get : ∀ (ds : List Dn) (x : Str) (f n : Nat) (fr : Bool), (fOf ds).lookup x = some (f, n, fr) → ∃ d ∈ ds, f = d.f ∧ d.name = x ∧ n = d.ps.length ∧ fr = d.fd.fresh
  | [], _, _, _, _, h => by simp [fOf] at h
  | d :: ds, x, f, n, fr, h => by
    unfold fOf at h
    rw [List.map_cons, List.lookup_cons] at h
    split at h
    · rename_i e
      cases h
      exact ⟨d, List.mem_cons_self, rfl, (eq_of_beq e).symm, rfl, rfl⟩
    · obtain ⟨d', h1, h2⟩ := fOf_get ds x f n fr h
      exact ⟨d', List.mem_cons_of_mem _ h1, h2⟩
theorem fdOf_get : ∀ {ds : List Dn} {d : Dn}, (ds.map (·.f)).Nodup → d ∈ ds → fdOf ds d.f = some d.fd
  | [], _, _, h => by simp at h
  | e :: ds, d, nd, h => by
    rw [List.map_cons] at nd
    obtain ⟨n1, n2⟩ := List.nodup_cons.mp nd
    unfold fdOf
    rcases List.mem_cons.mp h with rfl | h
    · rw [if_pos rfl]
    · rw [if_neg fun z : e.f = d.f => n1 (by rw [z]; exact List.mem_map.mpr ⟨d, h, rfl⟩)]
      exact fdOf_get n2 h

structure DnAt (K : Fg) (mg : Str → Option Value) (d : Dn) (fa : Addr) (fd : FuncData) : Prop where
  fn : Fun K d.name d.name d.st fa fd
  mg : mg d.name = some (.ref fa)
  bd : Binds K fd d.ps []
structure TbAt (K : Fg) (mg : Str → Option Value) (t : Tb) (G : Nat → Option D) (gv : Nat → V) : Prop where
  ds : ∀ d ∈ t.ds, ∃ fa fd, DnAt K mg d fa fd
  gs : ∀ x k, t.gl.lookup x = some k → ∃ u d, mg x = some u ∧ RelV (gv k) u ∧ G k = some d ∧ ∀ N μ H, VD K N μ H (gv k) d
  bl : ∀ x ∈ t.bl, mg x = none
  ck : ∀ d ∈ t.ds, t.chk d = true
  nd : (t.ds.map (·.f)).Nodup
section
variable {P : Program} {w : World} {K : Fg} {mg : Str → Option Value} {base : Heap} {t : Tb} {G : Nat → Option D} {gv : Nat → V}
/-- the tables of the defs that make a lambda -/
def LamAt (K : Fg) (mg : Str → Option Value) (base : Heap) (t : Tb) : Prop := ∀ d ∈ t.ds, d.lam = true → ∀ fa fd, DnAt K mg d fa fd → ∃ c P, LamX.TabB base mg c P ∧ fd.code = .ref c ∧ (P, d.name ++ ".<locals>." ++ "<lambda>") ∈ TC.T ∧ ∀ q ∈ TC.T, q.1 = P → q.2 = d.name ++ ".<locals>." ++ "<lambda>"
theorem tb_fn (T : TbAt K mg t G gv) (L : LamAt K mg base t) : ∀ (n : Nat) (d : Dn) (fa : Addr) (fd : FuncData), d ∈ t.ds → DnAt K mg d fa fd → FnG P w K mg base CX0 n fa fd d.ps (spOf K (callN t.T G n) d.f d.ps.length d.fd.fresh)
  | 0, d, fa, fd, _, _ => FnG.never fun vs H Q E ⟨_, Z, μ, S, ds, r, x, h⟩ => by
    have h : PostC K Z μ H d.fd.fresh .stuck Q := h
    unfold PostC at h
    split at h <;> exact h
  | n + 1, d, fa, fd, hm, A => by
    have ck := T.ck d hm
    unfold Tb.chk at ck
    simp only [Bool.and_eq_true, decide_eq_true_eq] at ck
    obtain ⟨⟨⟨⟨c1, c2⟩, c3⟩, c4⟩, c5⟩ := ck
    have hps := eq_of_beq c3
    have hns := eq_of_beq c4
    obtain ⟨tb, sb⟩ := sndSs ⟨K, callN t.T G n, G, gv⟩ d.fd.fresh d.fd.body (t.cn d) (defBody d.st) c1
    refine fun_okG (N := d.N) A.fn (scOk_fn c2) (fun vs H Q E h => h.1) fun cdv AA outer s H vs Q E hr hgd hsp hcd => ?_
    refine ⟨tb, sb.ps _ ⟨?_, rfl⟩, ?_⟩
    · refine ⟨rfl, rfl, (scOk_fn c2).kind, (scOk_fn c2).nd, rfl, rfl, by have := hr.un; show (AA.deeper _).units + 128 < cLine; omega, guards_deeper hgd, hr.depth, fun hl => ?_, fun _ _ => rfl, T.bl, fun x f' n' fr hx => ?_, T.gs⟩
      · obtain ⟨c, P, h1, h2, h3⟩ := L d hm hl fa fd A
        exact ⟨c, P, h1, by show cdv = _; rw [hcd, h2], h3⟩
      obtain ⟨d', h1, rfl, h3, rfl, rfl⟩ := fOf_get t.ds x f' n' fr hx
      obtain ⟨fa', fd', A'⟩ := T.ds d' h1
      exact ⟨n, fa', fd', d'.ps, tb_fn T L n d' fa' fd' h1 A', hr, by rw [← h3]; exact A'.mg, A'.fn.kp, A'.bd⟩
    · obtain ⟨hl, Z, μ, S, ds, r, x, h⟩ := hsp
      have hdl : ds.length = d.fd.ps := by rw [← x.length, hl, hps]
      have hT : t.T d.f = some d.fd := fdOf_get T.nd hm
      rw [callN, hT] at h
      dsimp only at h
      rw [if_pos hdl] at h
      have no : ∀ a : Addr, some a ∉ List.replicate d.N.length (none : Option Addr) := fun a h => by
        have := List.eq_of_mem_replicate h
        cases this
      have re := r.entry (N := d.N) x (by rw [hdl, hps]; exact c5)
      refine sb.sem Z μ _ H _ _ S re _ ?_
      show PostS K Z d.fd.fresh μ _ H (evSs (callN t.T G n) G d.fd.body (env0 d.N.length ds) S) _
      rw [hns] at h
      cases q : evSs (callN t.T G n) G d.fd.body (env0 d.N.length ds) S with
      | exc c fs S1 => rw [q] at h; unfold PostC at h; split at h <;> exact h.elim
      | stuck => rw [q] at h; unfold PostC at h; split at h <;> exact h.elim
      | ok fl S1 =>
        rw [q] at h
        simp only [Rs.bind_ok] at h
        cases fl with
        | rt d1 => exact ret_ok r no h
        | nx v1 => exact fun σ' H' μ' ω' s' r' => (ret_ok r no h).val s'.bare r'.bare
        | br v1 => unfold PostC at h; split at h <;> exact h.elim
        | ct v1 => unfold PostC at h; split at h <;> exact h.elim
end

/-! ### the law's promise -/
def spLaw (K : Fg) : Sp := fun vs H Q _ => ∃ (a : Addr) (ns : List Int), vs = [.ref a] ∧ SqL K H a (ns.map V.int) ∧ ns.length ≤ 63 ∧ LamX.Tabs TC.T H ∧ ∀ H', Q (.bl true) H'
theorem law_fn {P : Program} {w : World} {K : Fg} {mg : Str → Option Value} {base : Heap} {t : Tb} {G : Nat → Option D} {gv : Nat → V} (T : TbAt K mg t G gv) (L : LamAt K mg base t) {n : Nat} {d : Dn} {fa : Addr} {fd : FuncData} (hd : d ∈ t.ds) (A : DnAt K mg d fa fd) (h1 : d.ps.length = 1)
    (law : ∀ ns : List Int, ns.length ≤ 63 → ∃ S, callN t.T G n d.f [.lst (ns.map D.int)] [] = .ok (.bl true) S) : FnG P w K mg base CX0 n fa fd d.ps (spLaw K) := by
  refine (tb_fn T L n d fa fd hd A).imp fun vs H Q E ⟨a, ns, e, hS, hl, hT, q⟩ => ?_
  subst e
  obtain ⟨S, e⟩ := law ns hl
  have hf : FrL K (NN (fun _ => False) [] []) H a (ns.map V.int) := hS.elim (fun h => .inl ⟨h, fun z => by
    rcases z with z | z | z
    · simp at z
    · simp at z
    · exact z⟩) .inr
  refine ⟨h1.symm, fun _ => False, [], [], [.lst (ns.map D.int)], ⟨rfl, fun i d e => by simp at e, fun i d e => by simp at e, fun i d e => by simp at e, rfl, .nil, fun i j a e => by simp at e, fun a e => by simp at e, fun a z => z.elim, rfl, hT⟩, .cons (.lst hf (.of_ints ns)) .nil, ?_⟩
  rw [e]
  unfold PostC
  split
  · exact ⟨(fun _ e => nomatch e), fun _ y H' μ' _ _ x => by cases x; exact q H'⟩
  · exact fun y H' μ' _ _ x => by cases x; exact q H'
end Q
namespace Q
open PySem L2 PySem.Spec PyProof.Rows
/-- where a def that makes a lambda stands: its name, its code object, its table -/
abbrev TabOf := Str × Addr × Addr
def lamName (x : Str) : Str := x ++ ".<locals>." ++ "<lambda>"
@[reducible] def tcOf (ts : List TabOf) : TC := ⟨ts.map fun q => (q.2.2, lamName q.1)⟩
/-- the law's end -/
theorem law_at {l : PySem.W.OpenLaw} {w : World} {K : Fg} {mg : Str → Option Value} {h : Heap} {t : Tb} {G : Nat → Option D} {gv : Nat → V} {ts : List TabOf} (X : K.In h) (hns : h.Ns mainGlobals mg) (T : TbAt K mg t G gv) {n : Nat} {d : Dn} {fa : Addr} {fd : FuncData} {x : Str}
    (hd : d ∈ t.ds) (A : DnAt K mg d fa fd) (h1 : d.ps = [x]) (ht : ∀ q ∈ ts, PySem.W.tabIn K q.1 = some q.2 ∧ K.lookup q.2.2 = none) (hl : ∀ d ∈ t.ds, d.lam = true → d.name ∈ ts.map (·.1)) (hnd : (ts.map (·.2.2)).Nodup) (hb : ∀ (s : Shared) (u : Value), BindsTo s fd ⟨[u], []⟩ [(x, u)])
    (law : ∀ ns : List Int, ns.length ≤ 63 → ∃ S, callN t.T G n d.f [.lst (ns.map D.int)] [] = .ok (.bl true) S) : LawAtT l w K n 63 x mg fa (ts.map (·.1)) := by
  refine ⟨fd, ts.map (·.2), @spLaw (tcOf ts) K, fun p hp => ?_, fun p hp => ?_, hb, fun H a ns hl hT hS => ?_, fun base hK hns2 TB => ?_⟩
  · obtain ⟨q, hq, rfl⟩ := List.mem_map.mp hp
    exact ⟨q.1, List.mem_map.mpr ⟨q, hq, rfl⟩, (ht q hq).1⟩
  · obtain ⟨q, hq, rfl⟩ := List.mem_map.mp hp
    exact (ht q hq).2
  · refine ⟨a, ns, rfl, hS, hl, fun p hp => ?_, fun _ => rfl⟩
    obtain ⟨q, hq, rfl⟩ := List.mem_map.mp hp
    exact .nil (hT q.2 (List.mem_map.mpr ⟨q, hq, rfl⟩))
  · rw [← h1]
    letI : TC := tcOf ts
    refine law_fn T (fun d' hd' hlam fa' fd' A' => ?_) hd A (by rw [h1]; rfl) law
    obtain ⟨q, hq, e⟩ := List.mem_map.mp (hl d' hd' hlam)
    obtain ⟨oc, od, kV, doc, pm, an, cdv, ct, osl, rfl, lk, hcd⟩ := A'.fn.ex
    have hc := PySem.W.law_code (fa := fa') X hns (by rw [← e]; exact (ht q hq).1 : PySem.W.tabIn K d'.name = some (q.2.1, q.2.2)) A'.mg (X _ _ lk) rfl
    refine ⟨q.2.1, q.2.2, TB q.2 (List.mem_map.mpr ⟨q, hq, rfl⟩), hc, ?_, fun p hp ep => ?_⟩
    · rw [← e]
      exact List.mem_map.mpr ⟨q, hq, rfl⟩
    · obtain ⟨q', hq', rfl⟩ := List.mem_map.mp hp
      obtain ⟨i, hi⟩ := List.getElem?_of_mem hq
      obtain ⟨j, hj⟩ := List.getElem?_of_mem hq'
      have : j = i := nodup_at hnd (by rw [List.getElem?_map, hj]; exact congrArg some ep) (by rw [List.getElem?_map, hi]; rfl)
      subst this
      rw [hi] at hj
      cases hj
      show lamName q.1 = _
      rw [e]; rfl
end Q
/-! Q13: the evaluator by what holds behind it. -/
namespace Q
open PySem

/-- an answer for which P holds -/
def Rs.sat {α : Type} (r : Rs α) (P : α → Store → Prop) : Prop := match r with
  | .ok a S => P a S
  | _ => False
section
variable {α β : Type} {P Q : α → Store → Prop} {S : Store}
@[simp] theorem sat_ok {a : α} : (Rs.ok a S).sat P ↔ P a S := .rfl
@[simp] theorem sat_stuck : (Rs.stuck : Rs α).sat P ↔ False := .rfl
@[simp] theorem sat_exc {c : Nat} {fs : List D} : (Rs.exc c fs S : Rs α).sat P ↔ False := .rfl
@[simp] theorem sat_bind {r : Rs β} {f : β → Store → Rs α} : (r.bind f).sat P ↔ r.sat fun b S => (f b S).sat P := by cases r <;> exact .rfl
@[simp] theorem sat_quiet {r : Rs α} : r.quiet.sat P ↔ r.sat P := by cases r <;> exact .rfl
@[simp] theorem sat_of {o : Option α} : (Rs.of o S).sat P ↔ ∃ a, o = some a ∧ P a S := by
  cases o with
  | none => exact ⟨False.elim, fun ⟨_, h, _⟩ => nomatch h⟩
  | some a => exact ⟨fun h => ⟨a, rfl, h⟩, fun ⟨_, h, q⟩ => by cases h; exact q⟩
theorem Rs.sat.mono {r : Rs α} (h : r.sat P) (i : ∀ a S, P a S → Q a S) : r.sat Q := by
  cases r with
  | ok a S => exact i a S h
  | _ => exact h
theorem Rs.sat.get {r : Rs α} (h : r.sat P) : ∃ a S, r = .ok a S ∧ P a S := by
  cases r with
  | ok a S => exact ⟨a, S, rfl, h⟩
  | _ => exact h.elim
@[simp] theorem sat_ite {c : Prop} [Decidable c] {x y : Rs α} : (if c then x else y).sat P ↔ if c then x.sat P else y.sat P := by split <;> exact .rfl
@[simp] theorem sat_ifD_bl {b : Bool} {x y : Rs α} : (ifD (.bl b) x y).sat P ↔ if b = true then x.sat P else y.sat P := by cases b <;> simp
end

/-! ### expressions -/
section
variable {Φ : Cal} {G : Nat → Option D} {v : Fm} {S : Store} {P : D → Store → Prop} {a b c e : Ex} {es : Exs} {o : Op}
@[simp] theorem st_cst {d : D} : (evE Φ G (.cst d) v S).sat P ↔ P d S := by simp only [evE, sat_ok]
@[simp] theorem st_var {i : Nat} : (evE Φ G (.var i) v S).sat P ↔ ∃ x, v[i]? = some (.d x) ∧ P x S := by
  simp only [evE]
  split
  · rename_i x h
    rw [h]
    exact ⟨fun q => ⟨x, rfl, q⟩, fun ⟨_, e, q⟩ => by cases e; exact q⟩
  · rename_i h
    exact ⟨False.elim, fun ⟨x, e, _⟩ => h x e⟩
@[simp] theorem st_ovar {i : Nat} : (evE Φ G (.ovar i) v S).sat P ↔ ∃ x, v[i]? = some (.own x) ∧ P (.lst x) S := by
  simp only [evE]
  split
  · rename_i x h
    rw [h]
    exact ⟨fun q => ⟨x, rfl, q⟩, fun ⟨_, e, q⟩ => by cases e; exact q⟩
  · rename_i h
    exact ⟨False.elim, fun ⟨x, e, _⟩ => h x e⟩
@[simp] theorem st_glob {k : Nat} : (evE Φ G (.glob k) v S).sat P ↔ ∃ d, G k = some d ∧ P d S := by simp only [evE, sat_of]
@[simp] theorem st_op1 : (evE Φ G (.op o (.cons a .nil)) v S).sat P ↔ (evE Φ G a v S).sat fun x S1 => ∃ z, prim1 S1 o x = some z ∧ P z S1 := by rw [ev_op1]; simp only [sat_bind, sat_of]
@[simp] theorem st_op2 : (evE Φ G (.op o (.cons a (.cons b .nil))) v S).sat P ↔ (evE Φ G a v S).sat fun x S1 => (evE Φ G b v S1).sat fun y S2 => ∃ z, prim2 S2 o x y = some z ∧ P z S2 := by rw [ev_op2]; simp only [sat_bind, sat_of]
@[simp] theorem st_op3 : (evE Φ G (.op o (.cons a (.cons b (.cons c .nil)))) v S).sat P ↔ (evE Φ G a v S).sat fun x S1 => (evE Φ G b v S1).sat fun y S2 => (evE Φ G c v S2).sat fun u S3 => ∃ z, prim3 S3 o x y u = some z ∧ P z S3 := by rw [ev_op3]; simp only [sat_bind, sat_of]
@[simp] theorem st_chain {o' : Op} : (evE Φ G (.chain o o' a b c) v S).sat P ↔ (evE Φ G a v S).sat fun x S1 => (evE Φ G b v S1).sat fun y S2 => ∃ r, prim2 S2 o x y = some r ∧ (ifD r ((evE Φ G c v S2).bind fun z S4 => .of (prim S4 o' [y, z]) S4) (.ok (.bl false) S2)).sat P := by
  simp only [evE, sat_bind, sat_of]; exact .rfl
@[simp] theorem st_and : (evE Φ G (.and a b) v S).sat P ↔ (evE Φ G a v S).sat fun x S1 => (ifD x (evE Φ G b v S1) (.ok (.bl false) S1)).sat P := by simp only [evE, sat_bind]
@[simp] theorem st_or : (evE Φ G (.or a b) v S).sat P ↔ (evE Φ G a v S).sat fun x S1 => (ifD x (.ok (.bl true) S1) (evE Φ G b v S1)).sat P := by simp only [evE, sat_bind]
@[simp] theorem st_not : (evE Φ G (.not a) v S).sat P ↔ (evE Φ G a v S).sat fun x S1 => (ifD x (.ok (.bl false) S1) (.ok (.bl true) S1)).sat P := by simp only [evE, sat_bind]
@[simp] theorem st_ife {t : Ex} : (evE Φ G (.ife t a b) v S).sat P ↔ (evE Φ G t v S).sat fun x S1 => (ifD x (evE Φ G a v S1) (evE Φ G b v S1)).sat P := by simp only [evE, sat_bind]
@[simp] theorem st_tup : (evE Φ G (.tup es) v S).sat P ↔ (evEs Φ G es v S).sat fun xs S1 => P (.tup xs) S1 := by simp only [evE, sat_bind, sat_ok]
@[simp] theorem st_lst : (evE Φ G (.lst es) v S).sat P ↔ (evEs Φ G es v S).sat fun xs S1 => P (.lst xs) S1 := by simp only [evE, sat_bind, sat_ok]
@[simp] theorem st_call {f : Nat} : (evE Φ G (.call f es) v S).sat P ↔ (evEs Φ G es v S).sat fun xs S1 => (Φ f xs S1).sat P := by simp only [evE, sat_bind]
theorem st_pure : (evE Φ G (.pure e) v S).sat P ↔ (evE Φ G e (v.map (snapC S)) []).sat fun d S1 => S1 = [] ∧ d.scal = true ∧ P d S := by
  simp only [evE]
  cases evE Φ G e (v.map (snapC S)) [] with
  | exc => exact .rfl
  | stuck => exact .rfl
  | ok d S1 =>
    show (quietD S (.ok d S1)).sat P ↔ _
    unfold quietD
    simp only [sat_ite, sat_ok, sat_stuck]
    cases S1 <;> cases D.scal d <;> simp
@[simp] theorem st_nil {P : List D → Store → Prop} : (evEs Φ G .nil v S).sat P ↔ P [] S := by simp only [evEs, sat_ok]
@[simp] theorem st_cons {P : List D → Store → Prop} : (evEs Φ G (.cons e es) v S).sat P ↔ (evE Φ G e v S).sat fun x S1 => (evEs Φ G es v S1).sat fun xs S2 => P (x :: xs) S2 := by simp only [evEs, sat_bind, sat_ok]
@[simp] theorem st_iseq {P : List D → Store → Prop} : (evI Φ G (.seq e) v S).sat P ↔ (evE Φ G e v S).sat fun x S1 => ∃ xs, seqD x = some xs ∧ P xs S1 := by
  simp only [evI, sat_bind]
  constructor <;> (intro h; refine h.mono fun x S1 q => ?_) <;> (cases x <;> simp_all [seqD])
@[simp] theorem st_irange1 {P : List D → Store → Prop} : (evI Φ G (.range1 a) v S).sat P ↔ (evE Φ G a v S).sat fun x S1 => ∃ i, x = .int i ∧ okRange i = true ∧ P (rangeD 0 i.toNat) S1 := by
  simp only [evI, sat_bind]
  constructor <;> (intro h; refine h.mono fun x S1 q => ?_) <;> (cases x <;> simp_all)
@[simp] theorem st_irange2 {P : List D → Store → Prop} : (evI Φ G (.range2 a b) v S).sat P ↔ (evE Φ G a v S).sat fun x S1 => (evE Φ G b v S1).sat fun y S2 => ∃ i j, x = .int i ∧ y = .int j ∧ okRange i = true ∧ okRange j = true ∧ P (rangeD i (j - i).toNat) S2 := by
  simp only [evI, sat_bind]
  constructor <;> (intro h; refine h.mono fun x S1 q => q.mono fun y S2 q => ?_) <;> (cases x <;> cases y <;> simp_all)
@[simp] theorem st_ienum {P : List D → Store → Prop} : (evI Φ G (.enum a) v S).sat P ↔ (evE Φ G a v S).sat fun x S1 => ∃ xs, seqD x = some xs ∧ P (enumD xs) S1 := by
  simp only [evI, sat_bind]
  constructor <;> (intro h; refine h.mono fun x S1 q => ?_) <;> (cases x <;> simp_all [seqD])
@[simp] theorem st_izip {P : List D → Store → Prop} : (evI Φ G (.zip a b) v S).sat P ↔ (evE Φ G a v S).sat fun x S1 => (evE Φ G b v S1).sat fun y S2 => ∃ xs ys, seqD x = some xs ∧ seqD y = some ys ∧ P (List.zipWith (fun a b => .tup [a, b]) xs ys) S2 := by
  simp only [evI, sat_bind]
  constructor <;> (intro h; refine h.mono fun x S1 q => q.mono fun y S2 q => ?_) <;> (cases h1 : seqD x <;> cases h2 : seqD y <;> simp_all)
@[simp] theorem st_izip3 {P : List D → Store → Prop} : (evI Φ G (.zip3 a b c) v S).sat P ↔ (evE Φ G a v S).sat fun x S1 => (evE Φ G b v S1).sat fun y S2 => (evE Φ G c v S2).sat fun z S3 => ∃ xs ys zs, seqD x = some xs ∧ seqD y = some ys ∧ seqD z = some zs ∧ P (List.zipWith (fun p c => .tup (p ++ [c])) (List.zipWith (fun a b => [a, b]) xs ys) zs) S3 := by
  simp only [evI, sat_bind]
  constructor <;> (intro h; refine h.mono fun x S1 q => q.mono fun y S2 q => q.mono fun z S3 q => ?_) <;> (cases h1 : seqD x <;> cases h2 : seqD y <;> cases h3 : seqD z <;> simp_all)
@[simp] theorem st_ichars {P : List D → Store → Prop} : (evI Φ G (.chars a) v S).sat P ↔ (evE Φ G a v S).sat fun x S1 => ∃ s, x = .str s ∧ s.cps.toList.length ≤ lim ∧ P (s.cps.toList.map fun c => .str ⟨#[c]⟩) S1 := by
  simp only [evI, sat_bind]
  constructor <;> (intro h; refine h.mono fun x S1 q => ?_) <;> (cases x <;> simp_all)
/-- a comprehension's turn -/
def lcF (Φ : Cal) (G : Nat → Option D) (w : List Nat) (g : Tg) (c e : Ex) (v : Fm) (x : D) (S2 : Store) : Rs (List D) := match g.set x (wipeE v w) with
  | some v' => (evE Φ G c v' S2).bind fun b S3 => ifD b ((evE Φ G e v' S3).bind fun y S4 => .ok [y] S4) (.ok [] S3)
  | none => .stuck
@[simp] theorem st_lc {w : List Nat} {g : Tg} {it : Itr} : (evE Φ G (.lc w g it c e) v S).sat P ↔ (evI Φ G it v S).sat fun xs S1 => (flat (lcF Φ G w g c e v) xs S1).sat fun ys S2 => P (.lst ys) S2 := by
  simp only [evE, sat_bind, sat_quiet, sat_ok]; exact .rfl
def lcF2 (Φ : Cal) (G : Nat → Option D) (w w1 : List Nat) (g : Tg) (c : Ex) (g1 : Tg) (it1 : Itr) (c1 e : Ex) (v : Fm) (x : D) (S2 : Store) : Rs (List D) := match g.set x (wipeE v w) with
  | some v' => (evE Φ G c v' S2).bind fun b S3 => ifD b ((evI Φ G it1 v' S3).bind fun xs1 S4 => flat (lcF Φ G w1 g1 c1 e v') xs1 S4) (.ok [] S3)
  | none => .stuck
@[simp] theorem st_lc2 {w w1 : List Nat} {g g1 : Tg} {it it1 : Itr} {c1 : Ex} : (evE Φ G (.lc2 w w1 g it c g1 it1 c1 e) v S).sat P ↔ (evI Φ G it v S).sat fun xs S1 => (flat (lcF2 Φ G w w1 g c g1 it1 c1 e v) xs S1).sat fun ys S2 => ys.length ≤ lim ∧ P (.lst ys) S2 := by
  simp only [evE, sat_bind, sat_quiet, sat_ite, sat_ok, sat_stuck]
  constructor <;> (intro h; refine h.mono fun xs S1 q => q.mono fun ys S2 q => ?_)
  · split at q
    · exact ⟨‹_›, q⟩
    · exact q.elim
  · rw [if_pos q.1]; exact q.2
theorem sat_lcF {w : List Nat} {g : Tg} {x : D} {P : List D → Store → Prop} : (lcF Φ G w g c e v x S).sat P ↔ ∃ v', g.set x (wipeE v w) = some v' ∧ (evE Φ G c v' S).sat fun b S3 => (ifD b ((evE Φ G e v' S3).bind fun y S4 => .ok [y] S4) (.ok [] S3)).sat P := by
  unfold lcF
  split
  · rename_i v' h
    rw [h]
    simp only [sat_bind]
    exact ⟨fun q => ⟨v', rfl, q⟩, fun ⟨_, e, q⟩ => by cases e; exact q⟩
  · rename_i h
    rw [h]
    exact ⟨False.elim, fun ⟨_, e, _⟩ => nomatch e⟩
theorem sat_lcF2 {w w1 : List Nat} {g g1 : Tg} {it1 : Itr} {c1 : Ex} {x : D} {P : List D → Store → Prop} : (lcF2 Φ G w w1 g c g1 it1 c1 e v x S).sat P ↔ ∃ v', g.set x (wipeE v w) = some v' ∧ (evE Φ G c v' S).sat fun b S3 => (ifD b ((evI Φ G it1 v' S3).bind fun xs1 S4 => flat (lcF Φ G w1 g1 c1 e v') xs1 S4) (.ok [] S3)).sat P := by
  unfold lcF2
  split
  · rename_i v' h
    rw [h]
    simp only [sat_bind]
    exact ⟨fun q => ⟨v', rfl, q⟩, fun ⟨_, e, q⟩ => by cases e; exact q⟩
  · rename_i h
    rw [h]
    exact ⟨False.elim, fun ⟨_, e, _⟩ => nomatch e⟩
/-- a walk that adds up: I by the items walked, what was gathered, the store -/
theorem sat_flat {f : D → Store → Rs (List D)} {P : List D → Store → Prop} (I : List D → List D → Store → Prop) : ∀ (xs done acc : List D) (S : Store), I done acc S →
    (∀ done x rest acc S, done ++ x :: rest = done ++ x :: rest → I done acc S → x ∈ xs → (f x S).sat fun ys S' => I (done ++ [x]) (acc ++ ys) S') → (∀ acc' S', I (done ++ xs) (acc ++ acc') S' → P acc' S') → (flat f xs S).sat P
  | [], done, acc, S, h, _, k => by
    unfold flat
    exact k [] S (by simpa using h)
  | x :: xs, done, acc, S, h, st, k => by
    unfold flat
    simp only [sat_bind, sat_ok]
    refine (st done x xs acc S rfl h List.mem_cons_self).mono fun ys S1 h1 => ?_
    refine sat_flat I xs (done ++ [x]) (acc ++ ys) S1 h1 (fun done x rest acc S _ h hx => st done x rest acc S rfl h (List.mem_cons_of_mem _ hx)) fun acc' S' h2 => ?_
    exact k (ys ++ acc') S' (by simpa [List.append_assoc] using h2)
/-- a plain map-and-filter -/
theorem sat_flat_map {f : D → Store → Rs (List D)} {P : List D → Store → Prop} (g : D → List D) : ∀ (xs : List D) (S : Store), (∀ x ∈ xs, ∀ R : List D → Store → Prop, R (g x) S → (f x S).sat R) → P (xs.flatMap g) S → (flat f xs S).sat P
  | [], S, _, k => by unfold flat; exact k
  | x :: xs, S, st, k => by
    unfold flat
    simp only [sat_bind, sat_ok]
    refine st x List.mem_cons_self _ ?_
    refine sat_flat_map g xs S (fun y hy => st y (List.mem_cons_of_mem _ hy)) ?_
    simpa [List.flatMap_cons] using k
end

/-! ### statements -/
section
variable {Φ : Cal} {G : Nat → Option D} {v : Fm} {S : Store} {P : Fl → Store → Prop} {a b c e : Ex}
@[simp] theorem st_asg {g : Tg} : (evS Φ G (.asg g e) v S).sat P ↔ (evE Φ G e v S).sat fun x S1 => ∃ v', g.set x v = some v' ∧ P (.nx v') S1 := by
  simp only [evS, sat_bind]
  constructor <;> (intro h; refine h.mono fun x S1 q => ?_) <;> (cases h1 : g.set x v <;> simp_all)
@[simp] theorem st_own {i : Nat} : (evS Φ G (.own i e) v S).sat P ↔ (evE Φ G e v S).sat fun x S1 => ∃ xs, x = .lst xs ∧ P (.nx (v.set i (.own xs))) S1 := by
  simp only [evS, sat_bind]
  constructor <;> (intro h; refine h.mono fun x S1 q => ?_) <;> (cases x <;> simp_all)
@[simp] theorem st_alloc {i : Nat} : (evS Φ G (.alloc i e) v S).sat P ↔ (evE Φ G e v S).sat fun x S1 => ∃ xs, x = .lst xs ∧ P (.nx (v.set i (.d (.ref S1.length)))) (S1 ++ [.lst xs]) := by
  simp only [evS, sat_bind]
  constructor <;> (intro h; refine h.mono fun x S1 q => ?_) <;> (cases x <;> simp_all)
@[simp] theorem st_frz {i : Nat} : (evS Φ G (.frz i) v S).sat P ↔ ∃ xs, v[i]? = some (.own xs) ∧ P (.nx (v.set i (.d (.lst xs)))) S := by
  simp only [evS]
  split
  · rename_i x h
    rw [h]
    exact ⟨fun q => ⟨x, rfl, q⟩, fun ⟨_, e, q⟩ => by cases e; exact q⟩
  · rename_i h
    exact ⟨False.elim, fun ⟨x, e, _⟩ => h x e⟩
@[simp] theorem st_app {i : Nat} : (evS Φ G (.app i e) v S).sat P ↔ (evE Φ G e v S).sat fun x S1 => ∃ xs, v[i]? = some (.own xs) ∧ xs.length < lim ∧ P (.nx (v.set i (.own (xs ++ [x])))) S1 := by
  simp only [evS, sat_bind]
  constructor
  · intro h; refine h.mono fun x S1 q => ?_
    split at q
    · rename_i xs hx
      simp only [sat_ite, sat_ok, sat_stuck] at q
      split at q
      · exact ⟨xs, hx, ‹_›, q⟩
      · exact q.elim
    · exact q.elim
  · intro h; refine h.mono fun x S1 ⟨xs, h1, h2, q⟩ => ?_
    rw [h1]
    simp only [h2, if_true]
    exact q
@[simp] theorem st_setO {i : Nat} : (evS Φ G (.setO i a e) v S).sat P ↔ (evE Φ G e v S).sat fun x S1 => (evE Φ G a v S1).sat fun k S2 => ∃ xs j n, v[i]? = some (.own xs) ∧ k = .int j ∧ ixAt xs.length j = some n ∧ P (.nx (v.set i (.own (xs.set n x)))) S2 := by
  simp only [evS, sat_bind]
  constructor
  · intro h; refine h.mono fun x S1 q => q.mono fun k S2 q => ?_
    split at q
    · rename_i xs j hx
      split at q
      · rename_i n hn
        exact ⟨xs, j, n, hx, rfl, hn, q⟩
      · exact q.elim
    · exact q.elim
  · intro h; refine h.mono fun x S1 q => q.mono fun k S2 ⟨xs, j, n, h1, h2, h3, q⟩ => ?_
    subst h2
    simp only [h1, h3]
    exact q
@[simp] theorem st_setR {o : Ex} : (evS Φ G (.setR o a e) v S).sat P ↔ (evE Φ G e v S).sat fun x S1 => (evE Φ G o v S1).sat fun r S2 => (evE Φ G a v S2).sat fun k S3 => ∃ m xs j n, r = .ref m ∧ S3[m]? = some (.lst xs) ∧ k = .int j ∧ ixAt xs.length j = some n ∧ P (.nx v) (S3.set m (.lst (xs.set n x))) := by
  simp only [evS, sat_bind]
  constructor
  · intro h; refine h.mono fun x S1 q1 => q1.mono fun r S2 q2 => q2.mono fun k S3 q3 => ?_
    cases r with
    | ref m =>
      cases k with
      | int j =>
        dsimp only at q3
        split at q3
        · rename_i xs hx
          split at q3
          · rename_i n hn
            exact ⟨m, xs, j, n, rfl, hx, rfl, hn, q3⟩
          · exact q3.elim
        · exact q3.elim
      | _ => exact q3.elim
    | _ => cases k <;> exact q3.elim
  · intro h; refine h.mono fun x S1 q1 => q1.mono fun r S2 q2 => q2.mono fun k S3 ⟨m, xs, j, n, h0, h1, h2, h3, q3⟩ => ?_
    subst h0 h2
    simp only [h1, h3]
    exact q3
@[simp] theorem st_appR {o : Ex} : (evS Φ G (.appR o e) v S).sat P ↔ (evE Φ G o v S).sat fun r S1 => (evE Φ G e v S1).sat fun x S2 => ∃ m xs, r = .ref m ∧ S2[m]? = some (.lst xs) ∧ xs.length < lim ∧ P (.nx v) (S2.set m (.lst (xs ++ [x]))) := by
  simp only [evS, sat_bind]
  constructor
  · intro h; refine h.mono fun r S1 q1 => q1.mono fun x S2 q2 => ?_
    cases r with
    | ref m =>
      dsimp only at q2
      split at q2
      · rename_i xs hx
        simp only [sat_ite, sat_ok, sat_stuck] at q2
        split at q2
        · exact ⟨m, xs, rfl, hx, ‹_›, q2⟩
        · exact q2.elim
      · exact q2.elim
    | _ => exact q2.elim
  · intro h; refine h.mono fun r S1 q1 => q1.mono fun x S2 ⟨m, xs, h0, h1, h2, q2⟩ => ?_
    subst h0
    simp only [h1, h2, if_true]
    exact q2
@[simp] theorem st_augAdd {i : Nat} : (evS Φ G (.aug i .add e) v S).sat P ↔ ∃ k, v[i]? = some (.d (.int k)) ∧ (evE Φ G e v S).sat fun x S1 => ∃ j, x = .int j ∧ P (.nx (v.set i (.d (.int (k + j))))) S1 := by
  simp only [evS]
  constructor
  · intro h
    split at h
    · rename_i k hk
      simp only [sat_bind] at h
      refine ⟨k, hk, h.mono fun x S1 q => ?_⟩
      cases x <;> first | exact q.elim | exact ⟨_, rfl, q⟩
    · exact h.elim
  · rintro ⟨k, hk, h⟩
    simp only [hk, sat_bind]
    refine h.mono fun x S1 ⟨j, e, q⟩ => ?_
    subst e
    exact q
@[simp] theorem st_augSub {i : Nat} : (evS Φ G (.aug i .sub e) v S).sat P ↔ ∃ k, v[i]? = some (.d (.int k)) ∧ (evE Φ G e v S).sat fun x S1 => ∃ j, x = .int j ∧ P (.nx (v.set i (.d (.int (k - j))))) S1 := by
  simp only [evS]
  constructor
  · intro h
    split at h
    · rename_i k hk
      simp only [sat_bind] at h
      refine ⟨k, hk, h.mono fun x S1 q => ?_⟩
      cases x <;> first | exact q.elim | exact ⟨_, rfl, q⟩
    · exact h.elim
  · rintro ⟨k, hk, h⟩
    simp only [hk, sat_bind]
    refine h.mono fun x S1 ⟨j, e, q⟩ => ?_
    subst e
    exact q
@[simp] theorem st_ret : (evS Φ G (.ret e) v S).sat P ↔ (evE Φ G e v S).sat fun x S1 => P (.rt x) S1 := by simp only [evS, sat_bind, sat_ok]
@[simp] theorem st_retF : (evS Φ G (.retF e) v S).sat P ↔ (evE Φ G e v S).sat fun x S1 => P (.rt x) S1 := by simp only [evS, sat_bind, sat_ok]
@[simp] theorem st_retO {i : Nat} : (evS Φ G (.retO i) v S).sat P ↔ ∃ xs, v[i]? = some (.own xs) ∧ P (.rt (.lst xs)) S := by
  simp only [evS]
  split
  · rename_i x h
    rw [h]
    exact ⟨fun q => ⟨x, rfl, q⟩, fun ⟨_, e, q⟩ => by cases e; exact q⟩
  · rename_i h
    exact ⟨False.elim, fun ⟨x, e, _⟩ => h x e⟩
@[simp] theorem st_ifS {sa sb : Sms} : (evS Φ G (.ife c sa sb) v S).sat P ↔ (evE Φ G c v S).sat fun x S1 => (ifD x (evSs Φ G sa v S1) (evSs Φ G sb v S1)).sat P := by simp only [evS, sat_bind]
noncomputable def forF (Φ : Cal) (G : Nat → Option D) (g : Tg) (b : Sms) (x : D) (v1 : Fm) (S2 : Store) : Rs Fl := match g.set x v1 with
  | some v2 => evSs Φ G b v2 S2
  | none => .stuck
@[simp] theorem st_for {g : Tg} {it : Itr} {b : Sms} : (evS Φ G (.for_ g it b) v S).sat P ↔ (evI Φ G it v S).sat fun xs S1 => (forL (forF Φ G g b) xs v S1).sat P := by simp only [evS, sat_bind]; exact .rfl
theorem sat_forF {g : Tg} {b : Sms} {x : D} : (forF Φ G g b x v S).sat P ↔ ∃ v', g.set x v = some v' ∧ (evSs Φ G b v' S).sat P := by
  unfold forF
  split
  · rename_i v' h
    rw [h]
    exact ⟨fun q => ⟨v', rfl, q⟩, fun ⟨_, e, q⟩ => by cases e; exact q⟩
  · rename_i h
    rw [h]
    exact ⟨False.elim, fun ⟨_, e, _⟩ => nomatch e⟩
@[simp] theorem st_forR {g : Tg} {b : Sms} : (evS Φ G (.forR g e b) v S).sat P ↔ (evE Φ G e v S).sat fun x S1 => ∃ n xs, x = .ref n ∧ S1[n]? = some (.lst xs) ∧ (forLC (forF Φ G g b) n xs xs v S1).sat P := by
  simp only [evS, sat_bind]
  constructor
  · intro h; refine h.mono fun x S1 q => ?_
    cases x with
    | ref n =>
      dsimp only at q
      split at q
      · rename_i xs hx
        exact ⟨n, xs, rfl, hx, q⟩
      · exact q.elim
    | _ => exact q.elim
  · intro h; refine h.mono fun x S1 ⟨n, xs, h0, h1, q⟩ => ?_
    subst h0
    simp only [h1]
    exact q
@[simp] theorem st_brk : (evS Φ G .brk v S).sat P ↔ P (.br v) S := by simp only [evS, sat_ok]
@[simp] theorem st_cont : (evS Φ G .cont v S).sat P ↔ P (.ct v) S := by simp only [evS, sat_ok]
@[simp] theorem st_pass : (evS Φ G .pass v S).sat P ↔ P (.nx v) S := by simp only [evS, sat_ok]
@[simp] theorem st_drop : (evS Φ G (.drop e) v S).sat P ↔ (evE Φ G e v S).sat fun _ S1 => P (.nx v) S1 := by simp only [evS, sat_bind, sat_ok]
@[simp] theorem st_snil : (evSs Φ G .nil v S).sat P ↔ P (.nx v) S := by simp only [evSs, sat_ok]
/-- what follows a statement -/
def After (Φ : Cal) (G : Nat → Option D) (ss : Sms) (P : Fl → Store → Prop) (r : Fl) (S1 : Store) : Prop := match r with
  | .nx v1 => (evSs Φ G ss v1 S1).sat P
  | r => P r S1
@[simp] theorem after_nx {ss : Sms} {v1 : Fm} {S1 : Store} : After Φ G ss P (.nx v1) S1 ↔ (evSs Φ G ss v1 S1).sat P := .rfl
@[simp] theorem after_rt {ss : Sms} {d : D} {S1 : Store} : After Φ G ss P (.rt d) S1 ↔ P (.rt d) S1 := .rfl
@[simp] theorem after_br {ss : Sms} {v1 : Fm} {S1 : Store} : After Φ G ss P (.br v1) S1 ↔ P (.br v1) S1 := .rfl
@[simp] theorem after_ct {ss : Sms} {v1 : Fm} {S1 : Store} : After Φ G ss P (.ct v1) S1 ↔ P (.ct v1) S1 := .rfl
@[simp] theorem st_scons {s : Sm} {ss : Sms} : (evSs Φ G (.cons s ss) v S).sat P ↔ (evS Φ G s v S).sat (After Φ G ss P) := by
  simp only [evSs, sat_bind]
  constructor <;> (intro h; refine h.mono fun r S1 q => ?_) <;> (cases r <;> exact q)
/-- what follows a turn of a loop -/
def Turn (I : Fm → Store → Prop) (P : Fl → Store → Prop) (r : Fl) (S1 : Store) : Prop := match r with
  | .nx v1 => I v1 S1
  | .ct v1 => I v1 S1
  | .br v1 => P (.nx v1) S1
  | .rt d => P (.rt d) S1
@[simp] theorem turn_nx {I : Fm → Store → Prop} {v1 : Fm} {S1 : Store} : Turn I P (.nx v1) S1 ↔ I v1 S1 := .rfl
@[simp] theorem turn_ct {I : Fm → Store → Prop} {v1 : Fm} {S1 : Store} : Turn I P (.ct v1) S1 ↔ I v1 S1 := .rfl
@[simp] theorem turn_br {I : Fm → Store → Prop} {v1 : Fm} {S1 : Store} : Turn I P (.br v1) S1 ↔ P (.nx v1) S1 := .rfl
@[simp] theorem turn_rt {I : Fm → Store → Prop} {d : D} {S1 : Store} : Turn I P (.rt d) S1 ↔ P (.rt d) S1 := .rfl
/-- a loop: I by what is walked, the frame, the store -/
theorem sat_forL {f : D → Fm → Store → Rs Fl} (I : List D → Fm → Store → Prop) : ∀ (xs done : List D) (v : Fm) (S : Store), I done v S →
    (∀ done x v S, I done v S → x ∈ xs → (f x v S).sat (Turn (I (done ++ [x])) P)) → (∀ v S, I (done ++ xs) v S → P (.nx v) S) → (forL f xs v S).sat P
  | [], done, v, S, h, _, k => by
    unfold forL
    exact k v S (by simpa using h)
  | x :: xs, done, v, S, h, st, k => by
    unfold forL
    simp only [sat_bind]
    refine (st done x v S h List.mem_cons_self).mono fun r S1 q => ?_
    have go : ∀ v1, I (done ++ [x]) v1 S1 → (forL f xs v1 S1).sat P := fun v1 h1 => sat_forL I xs (done ++ [x]) v1 S1 h1 (fun done x v S h hx => st done x v S h (List.mem_cons_of_mem _ hx)) fun v S h => k v S (by simpa [List.append_assoc] using h)
    cases r with
    | nx v1 => exact go v1 q
    | ct v1 => exact go v1 q
    | br v1 => exact q
    | rt d => exact q
/-- a loop by its places -/
theorem sat_forI {f : D → Fm → Store → Rs Fl} (I : Nat → Fm → Store → Prop) (xs : List D) (v : Fm) (S : Store) (h0 : I 0 v S)
    (st : ∀ (i : Nat) x v S, xs[i]? = some x → I i v S → (f x v S).sat (Turn (I (i + 1)) P)) (k : ∀ v S, I xs.length v S → P (.nx v) S) : (forL f xs v S).sat P := by
  suffices h : ∀ (n : Nat) (v : Fm) (S : Store), n ≤ xs.length → I n v S → (forL f (xs.drop n) v S).sat P by
    have := h 0 v S (Nat.zero_le _) h0
    simpa using this
  intro n
  generalize hm : xs.length - n = m
  induction m generalizing n with
  | zero =>
    intro v S hn hI
    have : n = xs.length := by omega
    subst this
    rw [List.drop_length]
    unfold forL
    exact k v S hI
  | succ m ih =>
    intro v S hn hI
    have hlt : n < xs.length := by omega
    rw [List.drop_eq_getElem_cons hlt]
    unfold forL
    simp only [sat_bind]
    refine (st n xs[n] v S (List.getElem?_eq_getElem hlt) hI).mono fun r S1 q => ?_
    cases r with
    | nx v1 => exact ih (n + 1) (by omega) v1 S1 hlt q
    | ct v1 => exact ih (n + 1) (by omega) v1 S1 hlt q
    | br v1 => exact q
    | rt d => exact q
/-- a walk over the store's list, by its places -/
theorem sat_forLC {f : D → Fm → Store → Rs Fl} (I : Nat → Fm → Store → Prop) (n : Nat) (xs : List D) (v : Fm) (S : Store) (h0 : I 0 v S) (hS : ∀ i v S, I i v S → S[n]? = some (.lst xs))
    (st : ∀ (i : Nat) x v S, xs[i]? = some x → I i v S → (f x v S).sat (Turn (I (i + 1)) P)) (k : ∀ v S, I xs.length v S → P (.nx v) S) : (forLC f n xs xs v S).sat P := by
  suffices h : ∀ (j : Nat) (v : Fm) (S : Store), j ≤ xs.length → I j v S → (forLC f n xs (xs.drop j) v S).sat P by
    have := h 0 v S (Nat.zero_le _) h0
    simpa using this
  intro j
  generalize hm : xs.length - j = m
  induction m generalizing j with
  | zero =>
    intro v S hn hI
    have : j = xs.length := by omega
    subst this
    rw [List.drop_length, forLC, if_pos (hS _ v S hI)]
    exact k v S hI
  | succ m ih =>
    intro v S hn hI
    have hlt : j < xs.length := by omega
    rw [List.drop_eq_getElem_cons hlt, forLC, if_pos (hS _ v S hI)]
    simp only [sat_bind]
    refine (st j xs[j] v S (List.getElem?_eq_getElem hlt) hI).mono fun r S1 q => ?_
    cases r with
    | nx v1 => exact ih (j + 1) (by omega) v1 S1 hlt q
    | ct v1 => exact ih (j + 1) (by omega) v1 S1 hlt q
    | br v1 => exact q
    | rt d => exact q
/-- while, by a measure -/
theorem whileN_mono {t : Fm → Store → Rs D} {b : Fm → Store → Rs Fl} : ∀ (n m : Nat) (v : Fm) (S : Store), n ≤ m → whileN t b n v S ≠ .stuck → whileN t b m v S = whileN t b n v S
  | 0, _, _, _, _, h => absurd rfl h
  | n + 1, 0, _, _, hl, _ => absurd hl (by omega)
  | n + 1, m + 1, v, S, hl, h => by
    unfold whileN at h ⊢
    cases h1 : t v S with
    | ok c S1 =>
      rw [h1] at h
      simp only [Rs.bind_ok] at h ⊢
      cases c with
      | bl k =>
        cases k with
        | false => rfl
        | true =>
          simp only [ifD_true] at h ⊢
          cases h2 : b v S1 with
          | ok r S2 =>
            rw [h2] at h
            simp only [Rs.bind_ok] at h ⊢
            cases r with
            | nx v1 => exact whileN_mono n m v1 S2 (by omega) h
            | ct v1 => exact whileN_mono n m v1 S2 (by omega) h
            | br v1 => rfl
            | rt d => rfl
          | exc => rfl
          | stuck => rfl
      | _ => rfl
    | exc => rfl
    | stuck => rfl
theorem sat_whileR {t : Fm → Store → Rs D} {b : Fm → Store → Rs Fl} {v : Fm} {S : Store} {n : Nat} (h : (whileN t b n v S).sat P) : (whileR t b v S).sat P := by
  have hex : ∃ n, whileN t b n v S ≠ .stuck := ⟨n, fun e => by rw [e] at h; exact h⟩
  unfold whileR
  rw [dif_pos hex]
  have h2 := Classical.choose_spec hex
  generalize Classical.choose hex = m at h2
  have hn : whileN t b n v S ≠ .stuck := fun e => by rw [e] at h; exact h
  have e : whileN t b m v S = whileN t b n v S := by
    rcases Nat.le_total m n with hl | hl
    · exact (whileN_mono m n v S hl h2).symm
    · exact whileN_mono n m v S hl hn
  rw [e]
  exact h
theorem sat_while {t : Fm → Store → Rs D} {b : Fm → Store → Rs Fl} (I : Nat → Fm → Store → Prop) : ∀ (n : Nat) (v : Fm) (S : Store), I n v S →
    (∀ n v S, I n v S → (t v S).sat fun c S1 => ∃ k, c = .bl k ∧ if k = true then (b v S1).sat (Turn (fun v2 S2 => ∃ m, m < n ∧ I m v2 S2) P) else P (.nx v) S1) → (whileR t b v S).sat P := by
  intro n v S h st
  suffices hs : ∀ (k n : Nat) (v : Fm) (S : Store), n < k → I n v S → (whileN t b k v S).sat P from sat_whileR (hs (n + 1) n v S (Nat.lt_succ_self n) h)
  intro k
  induction k with
  | zero => intro n v S hl; omega
  | succ k ih =>
    intro n v S hl hI
    unfold whileN
    simp only [sat_bind]
    refine (st n v S hI).mono fun c S1 ⟨j, e, q⟩ => ?_
    subst e
    cases j with
    | false => simpa using q
    | true =>
      simp only [ifD_true, sat_bind]
      rw [if_pos rfl] at q
      refine q.mono fun r S2 q2 => ?_
      cases r with
      | nx v1 => obtain ⟨m, hm, hI'⟩ := q2; exact ih m v1 S2 (by omega) hI'
      | ct v1 => obtain ⟨m, hm, hI'⟩ := q2; exact ih m v1 S2 (by omega) hI'
      | br v1 => exact q2
      | rt d => exact q2
@[simp] theorem st_while {c : Ex} {b : Sms} : (evS Φ G (.while_ c b) v S).sat P ↔ (whileR (fun v1 S1 => evE Φ G c v1 S1) (fun v1 S1 => evSs Φ G b v1 S1) v S).sat P := by simp only [evS]
end
/-! ### calls -/
theorem sat_call {T : Nat → Option Fd} {G : Nat → Option D} {n f : Nat} {xs : List D} {S : Store} {F : Fd} {P : D → Store → Prop} (h : T f = some F) (hl : xs.length = F.ps)
    (q : (evSs (callN T G n) G F.body (env0 F.ns xs) S).sat fun r S1 => match r with
      | .rt d => S1.length = S.length ∧ P d S1
      | .nx _ => S1.length = S.length ∧ P .non S1
      | _ => False) : (callN T G (n + 1) f xs S).sat P := by
  unfold callN
  rw [h]
  dsimp only
  rw [if_pos hl]
  simp only [sat_bind]
  refine q.mono fun r S1 q => ?_
  cases r with
  | rt d =>
    obtain ⟨h1, h2⟩ := q
    show (leave S.length d S1).sat P
    unfold leave
    rw [if_pos h1]
    exact h2
  | nx v1 =>
    obtain ⟨h1, h2⟩ := q
    show (leave S.length .non S1).sat P
    unfold leave
    rw [if_pos h1]
    exact h2
  | br => exact q.elim
  | ct => exact q.elim
/-- .. where lists were made within -/
theorem sat_callX {T : Nat → Option Fd} {G : Nat → Option D} {n f : Nat} {xs : List D} {S : Store} {F : Fd} {P : D → Store → Prop} (h : T f = some F) (hl : xs.length = F.ps)
    (q : (evSs (callN T G n) G F.body (env0 F.ns xs) S).sat fun r S1 => match r with
      | .rt d => d.under S.length = true ∧ (S1.take S.length).all (Ob.under S.length) = true ∧ S.length ≤ S1.length ∧ P d (S1.take S.length)
      | .nx _ => (S1.take S.length).all (Ob.under S.length) = true ∧ S.length ≤ S1.length ∧ P .non (S1.take S.length)
      | _ => False) : (callN T G (n + 1) f xs S).sat P := by
  unfold callN
  rw [h]
  dsimp only
  rw [if_pos hl]
  simp only [sat_bind]
  refine q.mono fun r S1 q => ?_
  have key : ∀ d : D, d.under S.length = true → (S1.take S.length).all (Ob.under S.length) = true → S.length ≤ S1.length → P d (S1.take S.length) → (leave S.length d S1).sat P := fun d h1 h2 h3 h4 => by
    unfold leave
    split
    · rename_i e
      rw [← e, List.take_length] at h4
      exact h4
    · rw [h1, h2]
      exact h4
  cases r with
  | rt d => exact key d q.1 q.2.1 q.2.2.1 q.2.2.2
  | nx v1 => exact key .non (by simp [D.under]) q.1 q.2.1 q.2.2
  | br => exact q.elim
  | ct => exact q.elim
end Q
/-! Q14: the plain operations at work. -/
namespace Q
open PySem
theorem lookup_all {α β : Type} [BEq α] [LawfulBEq α] {Q : α → β → Prop} : ∀ {l : List (α × β)} {x : α} {k : β}, (∀ p ∈ l, Q p.1 p.2) → l.lookup x = some k → Q x k
  | [], _, _, _, h => by simp at h
  | (a, b) :: l, x, k, hq, h => by
    rw [List.lookup_cons] at h
    split at h
    · rename_i e
      cases h
      rw [eq_of_beq e]
      exact hq (a, b) List.mem_cons_self
    · exact lookup_all (fun p hp => hq p (List.mem_cons_of_mem _ hp)) h
section
variable {S : Store} {i j : Int} {x y : D} {xs ys : List D} {s t : Str} {a b : Bool}
@[simp] theorem p_neg : prim1 S .neg (.int i) = some (.int (-i)) := rfl
@[simp] theorem p_isN : prim1 S .isN x = some (.bl (isNon x)) := rfl
@[simp] theorem p_notN : prim1 S .notN x = some (.bl (!isNon x)) := rfl
@[simp] theorem p_len_t : prim1 S .len (.tup xs) = some (.int xs.length) := rfl
@[simp] theorem p_len_l : prim1 S .len (.lst xs) = some (.int xs.length) := rfl
@[simp] theorem p_isi {ts : List Ty} : prim1 S (.isi ts) x = some (.bl (ts.any (tyOf S x))) := rfl
@[simp] theorem p_toLst_t : prim1 S .toLst (.tup xs) = some (.lst xs) := rfl
@[simp] theorem p_toLst_l : prim1 S .toLst (.lst xs) = some (.lst xs) := rfl
@[simp] theorem p_toTup_t : prim1 S .toTup (.tup xs) = some (.tup xs) := rfl
@[simp] theorem p_toTup_l : prim1 S .toTup (.lst xs) = some (.tup xs) := rfl
@[simp] theorem p_add : prim2 S .add (.int i) (.int j) = some (.int (i + j)) := rfl
@[simp] theorem p_sub : prim2 S .sub (.int i) (.int j) = some (.int (i - j)) := rfl
@[simp] theorem p_lt : prim2 S .lt (.int i) (.int j) = some (.bl (decide (i < j))) := rfl
@[simp] theorem p_le : prim2 S .le (.int i) (.int j) = some (.bl (decide (i ≤ j))) := rfl
@[simp] theorem p_gt : prim2 S .gt (.int i) (.int j) = some (.bl (decide (j < i))) := rfl
@[simp] theorem p_ge : prim2 S .ge (.int i) (.int j) = some (.bl (decide (j ≤ i))) := rfl
@[simp] theorem p_isB : prim2 S .isB (.bl a) (.bl b) = some (.bl (a == b)) := rfl
@[simp] theorem p_notB : prim2 S .notB (.bl a) (.bl b) = some (.bl (!(a == b))) := rfl
@[simp] theorem p_max2 : prim2 S .max2 (.int i) (.int j) = some (.int (if j > i then j else i)) := rfl
@[simp] theorem p_min2 : prim2 S .min2 (.int i) (.int j) = some (.int (if j < i then j else i)) := rfl
@[simp] theorem p_eq_int : prim2 S .eq (.int i) (.int j) = some (.bl (decide (i = j))) := by
  show (some (eqD (.int i) (.int j))).map (fun b => D.bl b) = _
  rw [eqD, Bool.beq_eq_decide_eq]
  rfl
@[simp] theorem p_ne_int : prim2 S .ne (.int i) (.int j) = some (.bl (!decide (i = j))) := by
  show (some (eqD (.int i) (.int j))).map (fun b => D.bl (!b)) = _
  rw [eqD, Bool.beq_eq_decide_eq]
  rfl
@[simp] theorem p_eq_str : prim2 S .eq (.str s) (.str t) = some (.bl (s == t)) := rfl
@[simp] theorem p_ne_str : prim2 S .ne (.str s) (.str t) = some (.bl (!(s == t))) := rfl
@[simp] theorem p_eq_bl : prim2 S .eq (.bl a) (.bl b) = some (.bl (a == b)) := rfl
@[simp] theorem p_ne_bl : prim2 S .ne (.bl a) (.bl b) = some (.bl (!(a == b))) := rfl
theorem p_fdiv (h : 0 < j) (h2 : j < 2 ^ 64) : prim2 S .fdiv (.int i) (.int j) = some (.int (i / j)) := by
  show (if 0 < j ∧ j < 2 ^ 64 then some (D.int (i / j)) else none) = _
  rw [if_pos ⟨h, h2⟩]
theorem p_mod (h : 0 < j) : prim2 S .mod (.int i) (.int j) = some (.int (i % j)) := by
  show (if 0 < j then some (D.int (i % j)) else none) = _
  rw [if_pos h]
theorem small_of (h1 : -(2 ^ 64) < i) (h2 : i < 2 ^ 64) : small i = true := decide_eq_true ⟨h1, h2⟩
theorem p_mul (h : small i = true ∨ small j = true) : prim2 S .mul (.int i) (.int j) = some (.int (i * j)) := by
  show (if (small i || small j) = true then some (D.int (i * j)) else none) = _
  rw [if_pos (by simpa using h)]
theorem p_pow (h : small i = true) (h0 : 0 ≤ j) (h1 : j ≤ 1000) : prim2 S .pow (.int i) (.int j) = some (.int (i ^ j.toNat)) := by
  show (if 0 ≤ j ∧ j ≤ 1000 ∧ small i = true then some (D.int (i ^ j.toNat)) else none) = _
  rw [if_pos ⟨h0, h1, h⟩]
theorem ixAt_nn {n : Nat} (h0 : 0 ≤ i) (h : i < n) : ixAt n i = some i.toNat := by
  unfold ixAt
  rw [if_pos h0, if_pos h]
theorem p_ix_t {n : Nat} (h : ixAt xs.length i = some n) : prim2 S .ix (.tup xs) (.int i) = xs[n]? := by
  show ixL xs i = _
  unfold ixL
  rw [h]
theorem p_ix_l {n : Nat} (h : ixAt xs.length i = some n) : prim2 S .ix (.lst xs) (.int i) = xs[n]? := by
  show ixL xs i = _
  unfold ixL
  rw [h]
theorem p_ix_r {m n : Nat} (e : S[m]? = some (.lst xs)) (h : ixAt xs.length i = some n) : prim2 S .ix (.ref m) (.int i) = xs[n]? := by
  show (match lstOf S (.ref m) with
    | some xs => ixL xs i
    | none => none) = _
  have q : lstOf S (.ref m) = some xs := by
    show (match S[m]? with
      | some (.lst xs) => some xs
      | none => none) = _
    rw [e]
  rw [q]
  show ixL xs i = _
  unfold ixL
  rw [h]
end

/-! ### the laws' draws -/
def fd_deck : Fd := ⟨2, 2, true, (.cons (.ife (.op .ge (.cons (.var 0) (.cons (.op .pow (.cons (.cst (.int 10)) (.cons (.cst (.int 18)) .nil))) .nil))) (.cons (.retF (.lst (.cons (.op .sub (.cons (.var 0) (.cons (.op .pow (.cons (.cst (.int 10)) (.cons (.cst (.int 18)) .nil))) .nil))) (.cons (.op .mod (.cons (.var 0) (.cons (.cst (.int 2147483579)) .nil))) (.cons (.var 1) .nil))))) .nil) .nil) (.cons (.retF (.lst (.cons (.cst (.int 0)) (.cons (.op .mod (.cons (.var 0) (.cons (.cst (.int 2147483579)) .nil))) (.cons (.var 1) .nil))))) .nil))⟩
end Q
/-! Q15: the laws' draws. -/
namespace Q
open PySem
/-- a deck stands at r, good for m draws more -/
structure Dk (S : Store) (r m : Nat) : Prop where
  ex : ∃ a b c : Int, S[r]? = some (.lst [.int a, .int b, .int c]) ∧ 0 ≤ b ∧ b < 2147483579 ∧ 0 ≤ c ∧ c + m ≤ 1000000000
theorem Dk.le {S : Store} {r m k : Nat} (h : Dk S r m) (hk : k ≤ m) : Dk S r k := by
  obtain ⟨a, b, c, e, h1, h2, h3, h4⟩ := h.ex
  exact ⟨a, b, c, e, h1, h2, h3, by omega⟩
/-- only the list at r may be another one -/
structure Nx (r : Nat) (S S' : Store) : Prop where
  len : S'.length = S.length
  get : ∀ j, j ≠ r → S'[j]? = S[j]?
theorem Nx.refl (r : Nat) (S : Store) : Nx r S S := ⟨rfl, fun _ _ => rfl⟩
theorem Nx.trans {r : Nat} {S S1 S2 : Store} (a : Nx r S S1) (b : Nx r S1 S2) : Nx r S S2 := ⟨b.len.trans a.len, fun j h => (b.get j h).trans (a.get j h)⟩
theorem Nx.set {r : Nat} {S : Store} {o : Ob} : Nx r S (S.set r o) := ⟨List.length_set, fun j h => by rw [List.getElem?_set_ne (Ne.symm h)]⟩
theorem Dk.lt {S : Store} {r m : Nat} (h : Dk S r m) : r < S.length := by
  obtain ⟨a, b, c, e, _⟩ := h.ex
  exact (List.getElem?_eq_some_iff.mp e).1
def fd_pick : Fd := ⟨2, 4, false, (.cons (.ife (.op .gt (.cons (.op .ix (.cons (.var 0) (.cons (.cst (.int 0)) .nil))) (.cons (.cst (.int 1)) .nil))) (.cons (.asg (.name 3) (.op .mod (.cons (.op .ix (.cons (.var 0) (.cons (.cst (.int 0)) .nil))) (.cons (.var 1) .nil)))) (.cons (.setR (.var 0) (.cst (.int 0)) (.op .fdiv (.cons (.op .ix (.cons (.var 0) (.cons (.cst (.int 0)) .nil))) (.cons (.var 1) .nil)))) (.cons (.ret (.var 3)) .nil))) .nil) (.cons (.setR (.var 0) (.cst (.int 2)) (.op .add (.cons (.op .ix (.cons (.var 0) (.cons (.cst (.int 2)) .nil))) (.cons (.cst (.int 1)) .nil)))) (.cons (.asg (.name 2) (.op .mod (.cons (.op .pow (.cons (.op .add (.cons (.op .ix (.cons (.var 0) (.cons (.cst (.int 1)) .nil))) (.cons (.op .mul (.cons (.cst (.int 15485867)) (.cons (.op .ix (.cons (.var 0) (.cons (.cst (.int 2)) .nil))) .nil))) .nil))) (.cons (.cst (.int 5)) .nil))) (.cons (.cst (.int 2147483647)) .nil)))) (.cons (.asg (.name 3) (.op .fdiv (.cons (.op .mod (.cons (.op .pow (.cons (.op .add (.cons (.var 2) (.cons (.op .mul (.cons (.cst (.int 7919)) (.cons (.op .ix (.cons (.var 0) (.cons (.cst (.int 2)) .nil))) .nil))) .nil))) (.cons (.cst (.int 3)) .nil))) (.cons (.cst (.int 2147483629)) .nil))) (.cons (.cst (.int 32)) .nil)))) (.cons (.ife (.op .gt (.cons (.var 1) (.cons (.cst (.int 1000000)) .nil))) (.cons (.ret (.op .mod (.cons (.op .add (.cons (.op .mul (.cons (.var 3) (.cons (.cst (.int 2147483563)) .nil))) (.cons (.var 2) .nil))) (.cons (.var 1) .nil)))) .nil) .nil) (.cons (.ret (.op .mod (.cons (.var 3) (.cons (.var 1) .nil)))) .nil))))))⟩
section
variable {T : Nat → Option Fd} {G : Nat → Option D}
theorem deck3 {S : Store} {r : Nat} {a b c : Int} (e : S[r]? = some (.lst [.int a, .int b, .int c])) : prim2 S .ix (.ref r) (.int 0) = some (.int a) ∧ prim2 S .ix (.ref r) (.int 1) = some (.int b) ∧ prim2 S .ix (.ref r) (.int 2) = some (.int c) :=
  ⟨p_ix_r e (n := 0) rfl, p_ix_r e (n := 1) rfl, p_ix_r e (n := 2) rfl⟩
/-- one draw -/
theorem pick_ok (hT : T 10 = some fd_pick) {n r m : Nat} {S : Store} {many : Int} (h : Dk S r (m + 1)) (h0 : 0 < many) (h1 : many < 2 ^ 64) :
    (callN T G (n + 1) 10 [.ref r, .int many] S).sat fun d S' => ∃ k, d = .int k ∧ 0 ≤ k ∧ k < many ∧ Dk S' r m ∧ Nx r S S' := by
  obtain ⟨a, b, c, e, b1, b2, c1, c2⟩ := h.ex
  obtain ⟨i0, i1, i2⟩ := deck3 e
  have hl := h.lt
  refine sat_call hT rfl ?_
  by_cases ha : 1 < a
  · simp [fd_pick, env0, i0, p_mod h0, p_fdiv h0 h1, ha, Tg.set, e, ixAt]
    refine ⟨Int.emod_nonneg _ (by omega), Int.emod_lt_of_pos _ h0, ⟨a / many, b, c, ?_, b1, b2, c1, by omega⟩, Nx.set⟩
    rw [List.getElem?_set_self hl]
  · have e2 : (S.set r (.lst [.int a, .int b, .int (c + 1)]))[r]? = some (.lst [.int a, .int b, .int (c + 1)]) := List.getElem?_set_self hl
    obtain ⟨j0, j1, j2⟩ := deck3 e2
    have s1 : small (15485867 : Int) = true := by decide
    have s2 : small (7919 : Int) = true := by decide
    have s3 : small (b + 15485867 * (c + 1)) = true := small_of (by omega) (by omega)
    have hn1 : 0 ≤ (b + 15485867 * (c + 1)) ^ 5 % 2147483647 := Int.emod_nonneg _ (by decide)
    have hn2 : (b + 15485867 * (c + 1)) ^ 5 % 2147483647 < 2147483647 := Int.emod_lt_of_pos _ (by decide)
    have s4 : small ((b + 15485867 * (c + 1)) ^ 5 % 2147483647 + 7919 * (c + 1)) = true := small_of (by omega) (by omega)
    have s5 : small (2147483563 : Int) = true := by decide
    have dk : Dk (S.set r (.lst [.int a, .int b, .int (c + 1)])) r m := ⟨a, b, c + 1, e2, b1, b2, by omega, by omega⟩
    simp [fd_pick, env0, i0, i2, ha, Tg.set, e, ixAt, j0, j1, j2, p_mul (.inl s1), p_mul (.inl s2), p_pow s3, p_mod, p_pow s4, p_fdiv, p_mul (.inr s5), p_mod h0]
    split
    · exact ⟨Int.emod_nonneg _ (by omega), Int.emod_lt_of_pos _ h0, dk, Nx.set⟩
    · exact ⟨Int.emod_nonneg _ (by omega), Int.emod_lt_of_pos _ h0, dk, Nx.set⟩
end
end Q
/-! Q16: tides and quays drawn. -/
namespace Q
open PySem
def fd_tide : Fd := ⟨1, 3, false, (.cons (.asg (.name 1) (.call 10 (.cons (.var 0) (.cons (.cst (.int 3)) .nil)))) (.cons (.ife (.op .eq (.cons (.var 1) (.cons (.cst (.int 0)) .nil))) (.cons (.ret (.op .toTup (.cons (.lc [2] (.name 2) (.range1 (.op .add (.cons (.cst (.int 1)) (.cons (.call 10 (.cons (.var 0) (.cons (.cst (.int 12)) .nil))) .nil)))) (.cst (.bl true)) (.call 10 (.cons (.var 0) (.cons (.cst (.int 12)) .nil)))) .nil))) .nil) .nil) (.cons (.ife (.op .eq (.cons (.var 1) (.cons (.cst (.int 1)) .nil))) (.cons (.ret (.op .slL (.cons (.tup (.cons (.cst (.int 0)) (.cons (.cst (.int 2)) (.cons (.cst (.int 5)) (.cons (.cst (.int 8)) (.cons (.cst (.int 9)) (.cons (.cst (.int 8)) (.cons (.cst (.int 5)) (.cons (.cst (.int 2)) .nil))))))))) (.cons (.call 10 (.cons (.var 0) (.cons (.cst (.int 4)) .nil))) .nil)))) .nil) .nil) (.cons (.ret (.tup (.cons (.call 10 (.cons (.var 0) (.cons (.cst (.int 10)) .nil))) .nil))) .nil))))⟩
def fd_quay : Fd := ⟨1, 6, false, (.cons (.asg (.name 1) (.op .add (.cons (.cst (.int 1)) (.cons (.call 10 (.cons (.var 0) (.cons (.cst (.int 16)) .nil))) .nil)))) (.cons (.asg (.name 2) (.op .sset (.cons (.op .add (.cons (.lst (.cons (.cst (.int 0)) .nil)) (.cons (.lc [5] (.name 5) (.range1 (.call 10 (.cons (.var 0) (.cons (.cst (.int 3)) .nil)))) (.cst (.bl true)) (.call 10 (.cons (.var 0) (.cons (.var 1) .nil)))) .nil))) .nil))) (.cons (.asg (.name 3) (.op .toTup (.cons (.lc [4] (.name 4) (.seq (.var 2)) (.cst (.bl true)) (.tup (.cons (.var 4) (.cons (.op .add (.cons (.cst (.int 4)) (.cons (.call 10 (.cons (.var 0) (.cons (.cst (.int 14)) .nil))) .nil))) .nil)))) .nil))) (.cons (.ret (.tup (.cons (.var 1) (.cons (.var 3) (.cons (.op .ix (.cons (.lst (.cons (.cst (.int 20)) (.cons (.op .add (.cons (.cst (.int 2)) (.cons (.call 10 (.cons (.var 0) (.cons (.cst (.int 14)) .nil))) .nil))) .nil))) (.cons (.call 10 (.cons (.var 0) (.cons (.cst (.int 2)) .nil))) .nil))) .nil))))) .nil))))⟩
section
variable {T : Nat → Option Fd} {G : Nat → Option D}
/-- a walk that draws: each turn gives one thing -/
theorem flat_dk {f : D → Store → Rs (List D)} {r : Nat} (P : D → Prop) (w : Nat) : ∀ (xs : List D), (∀ x ∈ xs, ∀ S m, Dk S r (m + w) → (f x S).sat fun ys S' => ∃ d, ys = [d] ∧ P d ∧ Dk S' r m ∧ Nx r S S') →
    ∀ S m, Dk S r (m + xs.length * w) → (flat f xs S).sat fun ys S' => ys.length = xs.length ∧ (∀ y ∈ ys, P y) ∧ Dk S' r m ∧ Nx r S S'
  | [], _, S, m, h => by
    unfold flat
    exact ⟨rfl, fun y hy => by simp at hy, by simpa using h, Nx.refl r S⟩
  | x :: xs, hf, S, m, h => by
    unfold flat
    simp only [sat_bind, sat_ok]
    refine (hf x List.mem_cons_self S (m + xs.length * w) (by
      have e : m + (x :: xs).length * w = m + xs.length * w + w := by rw [List.length_cons, Nat.add_mul]; omega
      rw [← e]; exact h)).mono ?_
    rintro ys S1 ⟨d, rfl, p, h1, x1⟩
    refine (flat_dk P w xs (fun x hx => hf x (List.mem_cons_of_mem _ hx)) S1 m h1).mono ?_
    rintro zs S2 ⟨l, q, h2, x2⟩
    refine ⟨by simp [l], fun y hy => ?_, h2, x1.trans x2⟩
    rcases List.mem_append.mp hy with hy | hy
    · rw [List.mem_singleton.mp hy]; exact p
    · exact q y hy
theorem okRange_of {i : Int} (h1 : -1000000 ≤ i) (h2 : i ≤ 1000000) : okRange i = true := decide_eq_true ⟨h1, h2⟩
theorem rangeD_len (lo : Int) (n : Nat) : (rangeD lo n).length = n := by unfold rangeD; rw [List.length_map, List.length_range]
/-- ints, each from lo to hi -/
def Ints (lo hi : Int) (d : D) : Prop := ∃ k, d = .int k ∧ lo ≤ k ∧ k ≤ hi
theorem ints_of {lo hi : Int} : ∀ {ds : List D}, (∀ d ∈ ds, Ints lo hi d) → ∃ ks : List Int, ds = ks.map D.int ∧ ∀ k ∈ ks, lo ≤ k ∧ k ≤ hi
  | [], _ => ⟨[], rfl, fun k hk => by simp at hk⟩
  | d :: ds, h => by
    obtain ⟨k, rfl, h1⟩ := h d List.mem_cons_self
    obtain ⟨ks, rfl, h2⟩ := ints_of (fun d hd => h d (List.mem_cons_of_mem _ hd))
    exact ⟨k :: ks, rfl, fun j hj => (List.mem_cons.mp hj).elim (fun e => e ▸ h1) (h2 j)⟩
theorem intL_map (ks : List Int) : intL (ks.map D.int) = some ks := by
  induction ks with
  | nil => rfl
  | cons k ks ih => simp [intL, ih]
/-- a tide -/
def TideD (d : D) (hs : List Int) : Prop := d = .tup (hs.map D.int) ∧ 1 ≤ hs.length ∧ hs.length ≤ 12 ∧ ∀ h ∈ hs, 0 ≤ h ∧ h ≤ 11
theorem tide_ok (h10 : T 10 = some fd_pick) (h12 : T 12 = some fd_tide) {n r m : Nat} {S : Store} (h : Dk S r (m + 20)) :
    (callN T G (n + 2) 12 [.ref r] S).sat fun d S' => (∃ hs, TideD d hs) ∧ Dk S' r m ∧ Nx r S S' := by
  refine sat_call h12 rfl ?_
  simp [fd_tide, env0, Tg.set]
  refine (pick_ok h10 (h.le (by omega) : Dk S r (m + 18 + 1)) (by decide) (by decide)).mono ?_
  rintro _ S1 ⟨k, rfl, k0, k3, d1, x1⟩
  simp
  split
  · refine (pick_ok h10 (d1 : Dk S1 r (m + 17 + 1)) (by decide) (by decide)).mono ?_
    rintro _ S2 ⟨j, rfl, j0, j1, d2, x2⟩
    refine ⟨_, rfl, _, rfl, okRange_of (by omega) (by omega), ?_⟩
    refine (flat_dk (Ints 0 11) 1 _ (fun x hx S m hm => ?_) S2 m (d2.le (by rw [rangeD_len]; omega))).mono ?_
    · rw [sat_lcF]
      simp [wipeE, Tg.set]
      refine (pick_ok h10 hm (by decide) (by decide)).mono ?_
      rintro _ S' ⟨k, rfl, k0, k1, d, x⟩
      exact ⟨⟨k, rfl, k0, by omega⟩, d, x⟩
    · rintro ys S3 ⟨l, q, d3, x3⟩
      obtain ⟨ks, rfl, hk⟩ := ints_of q
      rw [rangeD_len, List.length_map] at l
      exact ⟨((x1.trans x2).trans x3).len, ⟨ks, rfl, by omega, by omega, hk⟩, d3, (x1.trans x2).trans x3⟩
  · split
    · refine (pick_ok h10 (d1 : Dk S1 r (m + 17 + 1)) (by decide) (by decide)).mono ?_
      rintro _ S2 ⟨j, rfl, j0, j1, d2, x2⟩
      refine ⟨_, rfl, (x1.trans x2).len, ?_, d2.le (by omega), x1.trans x2⟩
      have hj : j = 0 ∨ j = 1 ∨ j = 2 ∨ j = 3 := by omega
      rcases hj with rfl | rfl | rfl | rfl
      · exact ⟨[0, 2, 5, 8, 9, 8, 5, 2], rfl, by decide, by decide, by decide⟩
      · exact ⟨[2, 5, 8, 9, 8, 5, 2], rfl, by decide, by decide, by decide⟩
      · exact ⟨[5, 8, 9, 8, 5, 2], rfl, by decide, by decide, by decide⟩
      · exact ⟨[8, 9, 8, 5, 2], rfl, by decide, by decide, by decide⟩
    · refine (pick_ok h10 (d1 : Dk S1 r (m + 17 + 1)) (by decide) (by decide)).mono ?_
      rintro _ S2 ⟨j, rfl, j0, j1, d2, x2⟩
      exact ⟨(x1.trans x2).len, ⟨[j], rfl, by simp, by simp, fun k hk => by rw [List.mem_singleton.mp hk]; omega⟩, d2.le (by omega), x1.trans x2⟩
/-- a quay: its parts by begin and depth -/
def partsD (ps : List (Int × Int)) : List D := ps.map fun p => .tup [.int p.1, .int p.2]
structure QuayD (d : D) (long : Int) (ps : List (Int × Int)) (gate : Int) : Prop where
  eq : d = .tup [.int long, .tup (partsD ps), .int gate]
  lo : 1 ≤ long
  hi : long ≤ 16
  up : (ps.map (·.1)).Pairwise (· < ·)
  hd : ∃ q rest, ps = (0, q) :: rest
  num : ps.length ≤ 3
  bnd : ∀ p ∈ ps, 0 ≤ p.1 ∧ p.1 < long ∧ 4 ≤ p.2 ∧ p.2 ≤ 17
  g : 2 ≤ gate ∧ gate ≤ 20
theorem sortU_len (xs : List Int) : (sortU xs).length ≤ xs.length := by
  unfold sortU
  induction xs with
  | nil => exact Nat.le_refl _
  | cons x xs ih =>
    have key : ∀ ys : List Int, (insU x ys).length ≤ ys.length + 1 := fun ys => by
      induction ys with
      | nil => simp [insU]
      | cons y ys ihy =>
        unfold insU
        split
        · simp
        · split
          · simp
          · simp; omega
    have := key (xs.foldr insU [])
    rw [List.foldr_cons, List.length_cons]
    omega
theorem quay_ok (h10 : T 10 = some fd_pick) (h13 : T 13 = some fd_quay) {n r m : Nat} {S : Store} (h : Dk S r (m + 20)) :
    (callN T G (n + 2) 13 [.ref r] S).sat fun d S' => (∃ long ps gate, QuayD d long ps gate) ∧ Dk S' r m ∧ Nx r S S' := by
  refine sat_call h13 rfl ?_
  simp [fd_quay, env0, Tg.set]
  refine (pick_ok h10 (h.le (by omega) : Dk S r (m + 18 + 1)) (by decide) (by decide)).mono ?_
  rintro _ S1 ⟨k, rfl, k0, k1, d1, x1⟩
  simp
  refine (pick_ok h10 (d1 : Dk S1 r (m + 17 + 1)) (by decide) (by decide)).mono ?_
  rintro _ S2 ⟨j, rfl, j0, j1, d2, x2⟩
  refine ⟨_, rfl, okRange_of (by omega) (by omega), ?_⟩
  refine (flat_dk (Ints 0 k) 1 _ (fun x hx S m hm => ?_) S2 (m + 14) (d2.le (by rw [rangeD_len]; omega))).mono ?_
  · rw [sat_lcF]
    simp [wipeE, Tg.set]
    refine (pick_ok h10 hm (by omega) (by omega)).mono ?_
    rintro _ S' ⟨u, rfl, u0, u1, d, x⟩
    exact ⟨⟨u, rfl, u0, by omega⟩, d, x⟩
  rintro ys S3 ⟨l, q, d3, x3⟩
  obtain ⟨ks, rfl, hk⟩ := ints_of q
  rw [rangeD_len, List.length_map] at l
  have hl : ks.length ≤ 2 := by omega
  have e1 : prim2 S3 .add (.lst [.int 0]) (.lst (ks.map D.int)) = some (.lst ((0 :: ks).map D.int)) := by
    show (if [D.int 0].length + (ks.map D.int).length ≤ lim then some (D.lst ([D.int 0] ++ ks.map D.int)) else none) = _
    rw [if_pos (by rw [List.length_map]; show 1 + ks.length ≤ 1000000; omega)]
    rfl
  refine ⟨_, e1, ?_⟩
  have e2 : prim1 S3 .sset (.lst ((0 :: ks).map D.int)) = some (.lst ((sortU (0 :: ks)).map D.int)) := by
    show ((seqOf S3 (.lst ((0 :: ks).map D.int))).bind intL).bind _ = _
    show (intL ((0 :: ks).map D.int)).bind _ = _
    rw [intL_map]
    show (if (0 :: ks).length < 64 then some (D.lst ((sortU (0 :: ks)).map D.int)) else none) = _
    rw [if_pos (by rw [List.length_cons]; omega)]
  refine ⟨_, e2, ?_⟩
  have su := sortU_up (0 :: ks)
  have sm : ∀ y, y ∈ sortU (0 :: ks) ↔ y ∈ (0 :: ks) := fun y => sortU_mem (0 :: ks)
  have sl := sortU_len (0 :: ks)
  generalize sortU (0 :: ks) = bs at su sm sl
  rw [List.length_cons] at sl
  refine ⟨_, rfl, ?_⟩
  have hb0 : ∀ b ∈ bs, 0 ≤ b ∧ b ≤ k := fun b hb => by
    rcases List.mem_cons.mp ((sm b).mp hb) with rfl | z
    · exact ⟨Int.le_refl _, k0⟩
    · exact hk b z
  have walk : ∀ (bs : List Int) (S : Store) (m : Nat), Dk S r (m + bs.length) → (flat (lcF (callN T G (n + 1)) G [4] (.name 4) (.cst (.bl true)) (.tup (.cons (.var 4) (.cons (.op .add (.cons (.cst (.int 4)) (.cons (.call 10 (.cons (.var 0) (.cons (.cst (.int 14)) .nil))) .nil))) .nil))) [.d (.ref r), .d (.int (1 + k)), .d (.lst (bs.map D.int)), .non, .non, .non]) (bs.map D.int) S).sat fun ys S' => (∃ ps : List (Int × Int), ys = partsD ps ∧ ps.map (·.1) = bs ∧ ∀ p ∈ ps, 4 ≤ p.2 ∧ p.2 ≤ 17) ∧ Dk S' r m ∧ Nx r S S' := by
    intro bs0
    generalize hfr : ([.d (.ref r), .d (.int (1 + k)), .d (.lst (bs0.map D.int)), .non, .non, .non] : Fm) = fr
    have hfr0 : ∀ x, ((Tg.name 4).set x (wipeE fr [4])) = some ((wipeE fr [4]).set 4 (.d x)) := fun x => rfl
    have hg : ∀ x : D, ((wipeE fr [4]).set 4 (.d x))[4]? = some (.d x) ∧ ((wipeE fr [4]).set 4 (.d x))[0]? = some (.d (.ref r)) := fun x => by rw [← hfr]; exact ⟨rfl, rfl⟩
    clear hfr
    induction bs0 with
    | nil =>
      intro S m hm
      unfold flat
      exact ⟨⟨[], rfl, rfl, fun p hp => by simp at hp⟩, by simpa using hm, Nx.refl r S⟩
    | cons b bs ih =>
      intro S m hm
      rw [List.map_cons]
      unfold flat
      simp only [sat_bind, sat_ok]
      rw [sat_lcF]
      refine ⟨_, hfr0 _, ?_⟩
      simp [(hg (.int b)).1, (hg (.int b)).2]
      refine (pick_ok h10 (hm.le (by rw [List.length_cons]; omega) : Dk S r (m + bs.length + 1)) (by decide) (by decide)).mono ?_
      rintro _ S' ⟨u, rfl, u0, u1, d, x⟩
      refine ⟨_, rfl, ?_⟩
      refine (ih S' m d).mono ?_
      rintro zs S2 ⟨⟨ps, rfl, e, hp⟩, d2, x2⟩
      refine ⟨⟨(b, 4 + u) :: ps, rfl, by rw [List.map_cons, e], fun p c hpm => ?_⟩, d2, x.trans x2⟩
      rcases List.mem_cons.mp hpm with z | z
      · cases z
        exact ⟨by omega, by omega⟩
      · exact hp (p, c) z
  refine (walk bs S3 (m + 10) (d3.le (by omega))).mono ?_
  rintro _ S4 ⟨⟨ps, rfl, e, hp⟩, d4, x4⟩
  refine (pick_ok h10 (d4.le (by omega) : Dk S4 r (m + 8 + 1)) (by decide) (by decide)).mono ?_
  rintro _ S5 ⟨u, rfl, u0, u1, d5, x5⟩
  simp
  refine (pick_ok h10 (d5 : Dk S5 r (m + 7 + 1)) (by decide) (by decide)).mono ?_
  rintro _ S6 ⟨w, rfl, w0, w1, d6, x6⟩
  have xx := ((((x1.trans x2).trans x3).trans x4).trans x5).trans x6
  have fin : ∀ g : Int, 2 ≤ g → g ≤ 20 → ∃ long ps' gate, QuayD (.tup [.int (1 + k), .tup (partsD ps), .int g]) long ps' gate := fun g g1 g2 => by
    refine ⟨1 + k, ps, g, rfl, by omega, by omega, by rw [e]; exact su, ?_, by
      have := congrArg List.length e
      rw [List.length_map] at this
      omega, fun p hpm => ?_, g1, g2⟩
    · have h0 : (0 : Int) ∈ bs := (sm 0).mpr List.mem_cons_self
      cases ps with
      | nil => rw [← e] at h0; simp at h0
      | cons p rest =>
        rw [List.map_cons] at e
        subst e
        rcases List.mem_cons.mp h0 with z | z
        · exact ⟨p.2, rest, by rw [z]⟩
        · have := (List.pairwise_cons.mp su).1 0 z
          have := (hb0 p.1 List.mem_cons_self).1
          omega
    · have hm : p.1 ∈ bs := by rw [← e]; exact List.mem_map.mpr ⟨p, hpm, rfl⟩
      have := hb0 p.1 hm
      have := hp p hpm
      refine ⟨by omega, by omega, by omega, by omega⟩
  have hw : w = 0 ∨ w = 1 := by omega
  rcases hw with rfl | rfl
  · exact ⟨_, rfl, xx.len, fin 20 (by decide) (by decide), d6.le (by omega), xx⟩
  · exact ⟨_, rfl, xx.len, fin (2 + u) (by omega) (by omega), d6.le (by omega), xx⟩
end
end Q
/-! Q17: where ships pass and lie. -/
namespace Q
open PySem
def fdheight : Fd := ⟨2, 2, false, (.cons (.ret (.op .ix (.cons (.var 0) (.cons (.op .mod (.cons (.var 1) (.cons (.op .len (.cons (.var 0) .nil)) .nil))) .nil)))) .nil)⟩
def fdpasses : Fd := ⟨4, 4, false, (.cons (.ret (.op .ge (.cons (.op .add (.cons (.op .ix (.cons (.var 0) (.cons (.cst (.int 2)) .nil))) (.cons (.call 26 (.cons (.var 1) (.cons (.var 3) .nil))) .nil))) (.cons (.op .ix (.cons (.var 2) (.cons (.cst (.int 2)) .nil))) .nil)))) .nil)⟩
def fdopenings : Fd := ⟨5, 7, true, (.cons (.own 5 (.lst .nil)) (.cons (.for_ (.name 6) (.range2 (.var 3) (.op .add (.cons (.var 4) (.cons (.cst (.int 1)) .nil)))) (.cons (.ife (.call 27 (.cons (.var 0) (.cons (.var 1) (.cons (.var 2) (.cons (.var 6) .nil))))) (.cons (.ife (.and (.op .ne (.cons (.ovar 5) (.cons (.lst .nil) .nil))) (.op .eq (.cons (.op .ix (.cons (.op .ix (.cons (.ovar 5) (.cons (.op .neg (.cons (.cst (.int 1)) .nil)) .nil))) (.cons (.cst (.int 1)) .nil))) (.cons (.op .sub (.cons (.var 6) (.cons (.cst (.int 1)) .nil))) .nil)))) (.cons (.setO 5 (.op .neg (.cons (.cst (.int 1)) .nil)) (.tup (.cons (.op .ix (.cons (.op .ix (.cons (.ovar 5) (.cons (.op .neg (.cons (.cst (.int 1)) .nil)) .nil))) (.cons (.cst (.int 0)) .nil))) (.cons (.var 6) .nil)))) .nil) (.cons (.app 5 (.tup (.cons (.var 6) (.cons (.var 6) .nil)))) .nil)) .nil) .nil) .nil)) (.cons (.retO 5) .nil)))⟩
def fdshallowest : Fd := ⟨3, 7, false, (.cons (.asg (.name 3) (.op .add (.cons (.lc [5] (.name 5) (.seq (.op .ix (.cons (.var 0) (.cons (.cst (.int 1)) .nil)))) (.cst (.bl true)) (.op .ix (.cons (.var 5) (.cons (.cst (.int 0)) .nil)))) (.cons (.lst (.cons (.op .ix (.cons (.var 0) (.cons (.cst (.int 0)) .nil))) .nil)) .nil)))) (.cons (.own 4 (.lst .nil)) (.cons (.for_ (.tup (.cons (.name 5) (.cons (.name 6) .nil))) (.zip (.op .ix (.cons (.var 0) (.cons (.cst (.int 1)) .nil))) (.op .slL (.cons (.var 3) (.cons (.cst (.int 1)) .nil)))) (.cons (.ife (.and (.op .lt (.cons (.op .ix (.cons (.var 5) (.cons (.cst (.int 0)) .nil))) (.cons (.op .add (.cons (.var 1) (.cons (.var 2) .nil))) .nil))) (.op .lt (.cons (.var 1) (.cons (.var 6) .nil)))) (.cons (.app 4 (.op .ix (.cons (.var 5) (.cons (.cst (.int 1)) .nil)))) .nil) .nil) .nil)) (.cons (.ret (.op .min1 (.cons (.ovar 4) .nil))) .nil))))⟩
def fdlies : Fd := ⟨6, 8, false, (.cons (.ife (.op .gt (.cons (.op .add (.cons (.var 3) (.cons (.op .ix (.cons (.var 2) (.cons (.cst (.int 1)) .nil))) .nil))) (.cons (.op .ix (.cons (.var 0) (.cons (.cst (.int 0)) .nil))) .nil))) (.cons (.ret (.cst (.bl false))) .nil) .nil) (.cons (.asg (.name 6) (.op .min1 (.cons (.lc [7] (.name 7) (.range2 (.var 4) (.op .add (.cons (.op .min2 (.cons (.var 5) (.cons (.op .sub (.cons (.op .add (.cons (.var 4) (.cons (.op .len (.cons (.var 1) .nil)) .nil))) (.cons (.cst (.int 1)) .nil))) .nil))) (.cons (.cst (.int 1)) .nil)))) (.cst (.bl true)) (.call 26 (.cons (.var 1) (.cons (.var 7) .nil)))) .nil))) (.cons (.ret (.op .ge (.cons (.op .add (.cons (.call 29 (.cons (.var 0) (.cons (.var 3) (.cons (.op .ix (.cons (.var 2) (.cons (.cst (.int 1)) .nil))) .nil)))) (.cons (.var 6) .nil))) (.cons (.op .ix (.cons (.var 2) (.cons (.cst (.int 2)) .nil))) .nil)))) .nil)))⟩
def fd_depth : Fd := ⟨2, 5, false, (.cons (.asg (.name 2) (.cst (.int 0))) (.cons (.for_ (.tup (.cons (.name 3) (.cons (.name 4) .nil))) (.seq (.op .ix (.cons (.var 0) (.cons (.cst (.int 1)) .nil)))) (.cons (.asg (.name 2) (.ife (.op .le (.cons (.var 3) (.cons (.var 1) .nil))) (.var 4) (.var 2))) .nil)) (.cons (.ret (.var 2)) .nil)))⟩
def fd_passes : Fd := ⟨4, 4, false, (.cons (.ret (.op .ge (.cons (.op .add (.cons (.op .ix (.cons (.var 0) (.cons (.cst (.int 2)) .nil))) (.cons (.op .ix (.cons (.var 1) (.cons (.op .mod (.cons (.var 3) (.cons (.op .len (.cons (.var 1) .nil)) .nil))) .nil))) .nil))) (.cons (.op .ix (.cons (.var 2) (.cons (.cst (.int 2)) .nil))) .nil)))) .nil)⟩
def fd_lies : Fd := ⟨6, 10, false, (.cons (.ife (.op .gt (.cons (.op .add (.cons (.var 3) (.cons (.op .ix (.cons (.var 2) (.cons (.cst (.int 1)) .nil))) .nil))) (.cons (.op .ix (.cons (.var 0) (.cons (.cst (.int 0)) .nil))) .nil))) (.cons (.ret (.cst (.bl false))) .nil) .nil) (.cons (.asg (.name 6) (.op .min1 (.cons (.lc [9] (.name 9) (.range2 (.var 3) (.op .add (.cons (.var 3) (.cons (.op .ix (.cons (.var 2) (.cons (.cst (.int 1)) .nil))) .nil)))) (.cst (.bl true)) (.call 31 (.cons (.var 0) (.cons (.var 9) .nil)))) .nil))) (.cons (.asg (.name 7) (.lc [8] (.name 8) (.range2 (.var 4) (.op .add (.cons (.var 5) (.cons (.cst (.int 1)) .nil)))) (.op .lt (.cons (.op .add (.cons (.var 6) (.cons (.op .ix (.cons (.var 1) (.cons (.op .mod (.cons (.var 8) (.cons (.op .len (.cons (.var 1) .nil)) .nil))) .nil))) .nil))) (.cons (.op .ix (.cons (.var 2) (.cons (.cst (.int 2)) .nil))) .nil))) (.var 8))) (.cons (.ret (.op .eq (.cons (.var 7) (.cons (.lst .nil) .nil)))) .nil))))⟩
def fd_ship : Fd := ⟨4, 9, false, (.cons (.own 4 (.lst .nil)) (.cons (.asg (.name 5) (.cst (.int 0))) (.cons (.for_ (.name 6) (.range1 (.op .add (.cons (.cst (.int 1)) (.cons (.call 10 (.cons (.var 0) (.cons (.cst (.int 4)) .nil))) .nil)))) (.cons (.own 7 (.lst .nil)) (.cons (.for_ (.name 8) (.range1 (.call 10 (.cons (.var 0) (.cons (.cst (.int 4)) .nil)))) (.cons (.app 7 (.tup (.cons (.op .add (.cons (.var 2) (.cons (.op .ix (.cons (.cst (.str (Str.ofString "abcdefghijkl"))) (.cons (.var 5) .nil))) .nil))) (.cons (.op .add (.cons (.cst (.int 1)) (.cons (.call 10 (.cons (.var 0) (.cons (.cst (.int 4)) .nil))) .nil))) .nil)))) (.cons (.asg (.name 5) (.op .add (.cons (.var 5) (.cons (.cst (.int 1)) .nil)))) .nil))) (.cons (.app 4 (.op .toTup (.cons (.ovar 7) .nil))) .nil)))) (.cons (.ret (.tup (.cons (.var 1) (.cons (.op .add (.cons (.cst (.int 1)) (.cons (.call 10 (.cons (.var 0) (.cons (.op .max2 (.cons (.cst (.int 1)) (.cons (.op .fdiv (.cons (.op .mul (.cons (.var 3) (.cons (.cst (.int 2)) .nil))) (.cons (.cst (.int 3)) .nil))) .nil))) .nil))) .nil))) (.cons (.op .add (.cons (.cst (.int 2)) (.cons (.call 10 (.cons (.var 0) (.cons (.cst (.int 16)) .nil))) .nil))) (.cons (.op .toTup (.cons (.ovar 4) .nil)) .nil)))))) .nil))))⟩
section
variable {T : Nat → Option Fd} {G : Nat → Option D}
/-- the height at an hour -/
def hgt (hs : List Int) (t : Int) : Int := hs.getD (t % hs.length).toNat 0
theorem ix_hgt {hs : List Int} {t : Int} {S : Store} (h : hs ≠ []) : prim2 S .ix (.tup (hs.map D.int)) (.int (t % (hs.length : Int))) = some (.int (hgt hs t)) := by
  have hp : 0 < hs.length := List.length_pos_iff.mpr h
  have h0 : 0 ≤ t % (hs.length : Int) := Int.emod_nonneg _ (by omega)
  have h1 : t % (hs.length : Int) < hs.length := Int.emod_lt_of_pos _ (by omega)
  rw [p_ix_t (n := (t % (hs.length : Int)).toNat) (ixAt_nn h0 (by rw [List.length_map]; exact h1))]
  rw [List.getElem?_map, List.getElem?_eq_getElem (by omega)]
  unfold hgt
  rw [List.getD_eq_getElem?_getD, List.getElem?_eq_getElem (by omega)]
  rfl
theorem height_ok (hT : T 26 = some fdheight) {hs : List Int} (h : hs ≠ []) {t : Int} {S : Store} {n : Nat} : (callN T G (n + 1) 26 [.tup (hs.map D.int), .int t] S).sat fun d S' => S' = S ∧ d = .int (hgt hs t) := by
  have hp : 0 < hs.length := List.length_pos_iff.mpr h
  refine sat_call hT rfl ?_
  simp [fdheight, env0]
  exact ⟨_, p_mod (by omega), ix_hgt h⟩
/-- a ship's data; what a quay's three are -/
def shipD (nm : D) (len dr : Int) (bays : D) : D := .tup [nm, .int len, .int dr, bays]
theorem passes_ok (hT : T 27 = some fdpasses) (hH : T 26 = some fdheight) {hs : List Int} (h : hs ≠ []) {t : Int} {S : Store} {n : Nat} {long gate len dr : Int} {parts : List D} {nm bays : D} :
    (callN T G (n + 2) 27 [.tup [.int long, .tup parts, .int gate], .tup (hs.map D.int), shipD nm len dr bays, .int t] S).sat fun d S' => S' = S ∧ d = .bl (decide (dr ≤ gate + hgt hs t)) := by
  refine sat_call hT rfl ?_
  simp [fdpasses, env0, shipD]
  refine ⟨_, rfl, ?_⟩
  refine (height_ok hH h).mono ?_
  rintro _ _ ⟨rfl, rfl⟩
  exact ⟨_, rfl, _, rfl, _, rfl, rfl, rfl, rfl⟩
theorem lpasses_ok (hT : T 32 = some fd_passes) {hs : List Int} (h : hs ≠ []) {t : Int} {S : Store} {n : Nat} {long gate len dr : Int} {parts : List D} {nm bays : D} :
    (callN T G (n + 1) 32 [.tup [.int long, .tup parts, .int gate], .tup (hs.map D.int), shipD nm len dr bays, .int t] S).sat fun d S' => S' = S ∧ d = .bl (decide (dr ≤ gate + hgt hs t)) := by
  have hp : 0 < hs.length := List.length_pos_iff.mpr h
  refine sat_call hT rfl ?_
  simp [fd_passes, env0, shipD]
  exact ⟨_, rfl, _, p_mod (by omega), _, ix_hgt h, _, rfl, _, rfl, rfl⟩
/-! ### openings -/
def pairD (p : Int × Int) : D := .tup [.int p.1, .int p.2]
/-- one hour more -/
def opS (acc : List (Int × Int)) (h : Int) : List (Int × Int) := match acc.getLast? with
  | some (a, b) => if b = h - 1 then acc.dropLast ++ [(a, h)] else acc ++ [(h, h)]
  | none => [(h, h)]
def opens (p : Int → Bool) (lo : Int) : Nat → List (Int × Int)
  | 0 => []
  | n + 1 => if p (lo + n) = true then opS (opens p lo n) (lo + n) else opens p lo n
theorem opens_len (p : Int → Bool) (lo : Int) : ∀ n, (opens p lo n).length ≤ n
  | 0 => Nat.le_refl _
  | n + 1 => by
    have ih := opens_len p lo n
    unfold opens
    split
    · unfold opS
      split
      · split
        · rw [List.length_append, List.length_dropLast]; simp; omega
        · rw [List.length_append]; simp; omega
      · simp
    · omega
theorem pures_pair (ps : List (Int × Int)) : D.pures (ps.map pairD) = true ∧ D.deps (ps.map pairD) ≤ 1 := by
  induction ps with
  | nil => exact ⟨rfl, by simp [D.deps]⟩
  | cons p ps ih => exact ⟨by simp [D.pures, pairD, D.pure, ih.1], by simp [D.deps, pairD, D.dep, ih.2]⟩
theorem okEq_of {x y : D} (h1 : D.pure x = true) (h2 : D.pure y = true) (h3 : D.dep x ≤ 64) (h4 : D.dep y ≤ 64) : okEq x y = true := by
  unfold okEq
  rw [h1, h2, decide_eq_true ⟨h3, h4⟩]
  rfl
theorem eqP_of {S : Store} {x y : D} (h1 : D.pure x = true) (h2 : D.pure y = true) (h3 : D.dep x ≤ 64) (h4 : D.dep y ≤ 64) : eqP S x y = some (eqD x y) := by
  have dx : deref S x = x := by cases x <;> first | rfl | cases h1
  have dy : deref S y = y := by cases y <;> first | rfl | cases h2
  unfold eqP
  rw [dx, dy, if_pos (okEq_of h1 h2 h3 h4)]
theorem p_eq_of {S : Store} {x y : D} (h1 : D.pure x = true) (h2 : D.pure y = true) (h3 : D.dep x ≤ 64) (h4 : D.dep y ≤ 64) : prim2 S .eq x y = some (.bl (eqD x y)) := by
  show (eqP S x y).map (fun b => D.bl b) = _
  rw [eqP_of h1 h2 h3 h4]
  rfl
theorem p_ne_of {S : Store} {x y : D} (h1 : D.pure x = true) (h2 : D.pure y = true) (h3 : D.dep x ≤ 64) (h4 : D.dep y ≤ 64) : prim2 S .ne x y = some (.bl (!eqD x y)) := by
  show (eqP S x y).map (fun b => D.bl (!b)) = _
  rw [eqP_of h1 h2 h3 h4]
  rfl
theorem ixAt_last {n : Nat} : ixAt (n + 1) (-1) = some n := by
  unfold ixAt
  rw [if_neg (by decide), if_pos (by omega)]
  congr 1
  omega
theorem ix_last {S : Store} {xs : List D} {x : D} : prim2 S .ix (.lst (xs ++ [x])) (.int (-1)) = some x := by
  rw [p_ix_l (n := xs.length) (by rw [List.length_append]; exact ixAt_last)]
  simp
theorem opS_nil (h : Int) : opS [] h = [(h, h)] := rfl
theorem opS_snoc (init : List (Int × Int)) (a b h : Int) : opS (init ++ [(a, b)]) h = if b = h - 1 then init ++ [(a, h)] else (init ++ [(a, b)]) ++ [(h, h)] := by
  unfold opS
  rw [List.getLast?_append]
  simp
def passP (hs : List Int) (gate dr : Int) (t : Int) : Bool := decide (dr ≤ gate + hgt hs t)
theorem rangeD_get {lo : Int} {n i : Nat} {x : D} (h : (rangeD lo n)[i]? = some x) : x = .int (lo + i) ∧ i < n := by
  unfold rangeD at h
  rw [List.getElem?_map] at h
  cases e : (List.range n)[i]? with
  | none => rw [e] at h; cases h
  | some k =>
    rw [e] at h
    have := List.getElem?_eq_some_iff.mp e
    obtain ⟨h1, h2⟩ := this
    rw [List.length_range] at h1
    rw [List.getElem_range] at h2
    subst h2
    cases h
    exact ⟨rfl, h1⟩
theorem openings_ok (hT : T 28 = some fdopenings) (hP : T 27 = some fdpasses) (hH : T 26 = some fdheight) {hs : List Int} (h : hs ≠ []) {lo hi : Int} (h0 : -1000 ≤ lo) (h1 : lo ≤ 100000) (h2 : -1000 ≤ hi) (h3 : hi ≤ 100000) {S : Store} {n : Nat} {long gate len dr : Int} {parts : List D} {nm bays : D} :
    (callN T G (n + 3) 28 [.tup [.int long, .tup parts, .int gate], .tup (hs.map D.int), shipD nm len dr bays, .int lo, .int hi] S).sat fun d S' => S' = S ∧ d = .lst ((opens (passP hs gate dr) lo (hi + 1 - lo).toNat).map pairD) := by
  refine sat_call hT rfl ?_
  simp [fdopenings, env0]
  refine ⟨okRange_of (by omega) (by omega), okRange_of (by omega) (by omega), ?_⟩
  refine sat_forI (fun i v S' => S' = S ∧ ∃ c, v = [.d (.tup [.int long, .tup parts, .int gate]), .d (.tup (hs.map D.int)), .d (shipD nm len dr bays), .d (.int lo), .d (.int hi), .own ((opens (passP hs gate dr) lo i).map pairD), c]) _ _ _ ⟨rfl, _, rfl⟩ ?_ ?_
  · rintro i x v S' hx ⟨rfl, c, rfl⟩
    obtain ⟨rfl, hi'⟩ := rangeD_get hx
    rw [sat_forF]
    refine ⟨_, rfl, ?_⟩
    simp
    refine (passes_ok (n := n) hP hH h).mono ?_
    rintro _ _ ⟨rfl, rfl⟩
    cases hp : passP hs gate dr (lo + i) with
    | false =>
      unfold passP at hp
      have e : opens (passP hs gate dr) lo (i + 1) = opens (passP hs gate dr) lo i := by
        rw [opens, if_neg (by unfold passP; rw [hp]; decide)]
      rw [hp]
      simp [e]
    | true =>
      have e : opens (passP hs gate dr) lo (i + 1) = opS (opens (passP hs gate dr) lo i) (lo + i) := by
        rw [opens, if_pos hp]
      unfold passP at hp
      rw [hp]
      have hl := opens_len (passP hs gate dr) lo i
      rw [e]
      generalize opens (passP hs gate dr) lo i = acc at hl
      obtain ⟨q1, q2⟩ := pures_pair acc
      have ne : ∀ S : Store, prim2 S .ne (.lst (acc.map pairD)) (.lst []) = some (.bl (!eqD (.lst (acc.map pairD)) (.lst []))) := fun S => p_ne_of (by simpa [D.pure] using q1) rfl (by simp [D.dep]; omega) (by simp [D.dep, D.deps])
      have ne' : ∀ S : Store, prim2 S .ne (.lst []) (.lst []) = some (.bl false) := fun S => p_ne_of (x := .lst []) (y := .lst []) rfl rfl (by decide) (by decide)
      rcases List.eq_nil_or_concat acc with rfl | ⟨init, ⟨a, b⟩, rfl⟩
      · simp [opS_nil]
        refine ⟨_, ne' _, ?_⟩
        simp [pairD]
      · rw [List.concat_eq_append] at *
        simp [opS_snoc]
        rw [List.map_append] at q1 q2 ne
        refine ⟨_, ne _, ?_⟩
        have en : eqD (.lst (init.map pairD ++ [pairD (a, b)])) (.lst []) = false := by
          cases init <;> rfl
        simp [en]
        have lm : ((init.map pairD) ++ [pairD (a, b)]).length = init.length + 1 := by simp
        refine ⟨_, ix_last, _, rfl, _, p_eq_int, ?_⟩
        by_cases eb : b = lo + i - 1
        · simp [decide_eq_true eb, if_pos eb]
          refine ⟨_, ix_last, _, rfl, _, by rw [lm] at *; exact ixAt_last, ?_⟩
          simp [pairD]
        · simp [decide_eq_false eb, if_neg eb]
          refine ⟨?_, rfl⟩
          rw [List.length_append] at hl
          simp only [List.length_singleton, lim] at *
          omega
  · rintro v S' ⟨rfl, c, rfl⟩
    simp
    rw [rangeD_len]

/-! ### depth, least depth -/
theorem partsD_map (ps : List (Int × Int)) : partsD ps = ps.map pairD := rfl
def depA (ps : List (Int × Int)) (m : Int) : Int := ps.foldl (fun f p => if p.1 ≤ m then p.2 else f) 0
theorem depth_ok (hT : T 31 = some fd_depth) {ps : List (Int × Int)} {long gate : D} {m : Int} {S : Store} {n : Nat} :
    (callN T G (n + 1) 31 [.tup [long, .tup (partsD ps), gate], .int m] S).sat fun d S' => S' = S ∧ d = .int (depA ps m) := by
  refine sat_call hT rfl ?_
  simp [fd_depth, env0, Tg.set]
  refine ⟨_, rfl, _, rfl, ?_⟩
  refine sat_forI (fun i v S' => S' = S ∧ ∃ a b, v = [.d (.tup [long, .tup (partsD ps), gate]), .d (.int m), .d (.int (depA (ps.take i) m)), a, b]) _ _ _ ⟨rfl, _, _, rfl⟩ ?_ ?_
  · rintro i x v S' hx ⟨rfl, a, b, rfl⟩
    rw [partsD_map, List.getElem?_map] at hx
    cases e : ps[i]? with
    | none => rw [e] at hx; cases hx
    | some p =>
      rw [e] at hx
      cases hx
      rw [sat_forF]
      refine ⟨_, rfl, ?_⟩
      have e2 : depA (ps.take (i + 1)) m = if p.1 ≤ m then p.2 else depA (ps.take i) m := by
        unfold depA
        rw [List.take_succ, e, List.foldl_append]
        rfl
      rw [e2]
      by_cases hp : p.1 ≤ m
      · simp [Tg.set, hp]
      · simp [Tg.set, hp]
  · rintro v S' ⟨rfl, a, b, rfl⟩
    have e : ps.take (partsD ps).length = ps := by rw [partsD_map, List.length_map, List.take_length]
    simp [e]
def zl (long : Int) : List (Int × Int) → List ((Int × Int) × Int)
  | [] => []
  | [p] => [(p, long)]
  | p :: q :: rest => (p, q.1) :: zl long (q :: rest)
def ov (place len : Int) (x : (Int × Int) × Int) : List Int := if x.1.1 < place + len ∧ place < x.2 then [x.1.2] else []
def ovs (long place len : Int) (ps : List (Int × Int)) : List Int := (zl long ps).flatMap (ov place len)
def zD (x : (Int × Int) × Int) : D := .tup [pairD x.1, .int x.2]
theorem cut_sub {xs : List D} {lo hi : Option Int} : (cut xs lo hi).length ≤ xs.length ∧ ∀ x ∈ cut xs lo hi, x ∈ xs := by
  unfold cut
  refine ⟨?_, fun x hx => List.mem_of_mem_drop (List.mem_of_mem_take hx)⟩
  rw [List.length_take, List.length_drop]
  omega
theorem p_slH {S : Store} {xs : List D} {k : Int} : prim2 S .slH (.lst xs) (.int k) = some (.lst (cut xs none (some k))) := rfl
theorem p_slL {S : Store} {xs : List D} {k : Int} : prim2 S .slL (.lst xs) (.int k) = some (.lst (cut xs (some k) none)) := rfl
theorem p_slLH {S : Store} {xs : List D} {k j : Int} : prim3 S .slLH (.lst xs) (.int k) (.int j) = some (.lst (cut xs (some k) (some j))) := rfl
theorem p_cat {S : Store} {xs ys : List D} (h : xs.length + ys.length ≤ lim) : prim2 S .add (.lst xs) (.lst ys) = some (.lst (xs ++ ys)) := by
  show (if xs.length + ys.length ≤ lim then some (D.lst (xs ++ ys)) else none) = _
  rw [if_pos h]
theorem cut_tail (x : D) (xs : List D) : cut (x :: xs) (some 1) none = xs := by
  unfold cut
  have h1 : bound (x :: xs).length 0 (some 1) = 1 := by
    simp [bound]
  have h2 : bound (x :: xs).length (x :: xs).length none = xs.length + 1 := rfl
  rw [h1, h2]
  simp
theorem zip_zl (long : Int) : ∀ (p : Int × Int) (ps : List (Int × Int)), List.zipWith (fun a b => D.tup [a, b]) ((p :: ps).map pairD) (ps.map (fun p => D.int p.1) ++ [.int long]) = (zl long (p :: ps)).map zD
  | p, [] => rfl
  | p, q :: ps => by
    have ih := zip_zl long q ps
    show D.tup [pairD p, .int q.1] :: List.zipWith (fun a b => D.tup [a, b]) ((q :: ps).map pairD) (ps.map (fun p => D.int p.1) ++ [.int long]) = _
    rw [ih]
    rfl
theorem ov_len (place len : Int) : ∀ xs : List ((Int × Int) × Int), (xs.flatMap (ov place len)).length ≤ xs.length
  | [] => Nat.le_refl _
  | x :: xs => by
    have ih := ov_len place len xs
    rw [List.flatMap_cons, List.length_append, List.length_cons]
    have : (ov place len x).length ≤ 1 := by
      unfold ov
      split
      · exact Nat.le_refl _
      · exact Nat.zero_le _
    omega
theorem zl_len (long : Int) : ∀ ps, (zl long ps).length = ps.length
  | [] => rfl
  | [p] => rfl
  | p :: q :: rest => by
    show (zl long (q :: rest)).length + 1 = _
    rw [zl_len long (q :: rest)]
    rfl
theorem minL_some : ∀ {zs : List Int}, zs ≠ [] → ∃ z, minL zs = some z ∧ z ∈ zs ∧ ∀ y ∈ zs, z ≤ y := by
  have key : ∀ (xs : List Int) (x : Int), xs.foldl min x ∈ x :: xs ∧ ∀ y ∈ x :: xs, xs.foldl min x ≤ y := by
    intro xs
    induction xs with
    | nil => intro x; simp
    | cons a xs ih =>
      intro x
      obtain ⟨h1, h2⟩ := ih (min x a)
      rw [List.foldl_cons]
      constructor
      · rcases List.mem_cons.mp h1 with h | h
        · rw [h]
          rcases Int.le_total x a with q | q
          · rw [Int.min_eq_left q]; exact List.mem_cons_self
          · rw [Int.min_eq_right q]; exact List.mem_cons_of_mem _ List.mem_cons_self
        · exact List.mem_cons_of_mem _ (List.mem_cons_of_mem _ h)
      · intro y hy
        have hm := h2 (min x a) List.mem_cons_self
        rcases List.mem_cons.mp hy with h | h
        · omega
        · rcases List.mem_cons.mp h with h | h
          · omega
          · exact h2 y (List.mem_cons_of_mem _ h)
  intro zs h
  cases zs with
  | nil => exact absurd rfl h
  | cons x xs => exact ⟨_, rfl, key xs x⟩
theorem p_min1 {S : Store} {zs : List Int} {z : Int} (h : minL zs = some z) : prim1 S .min1 (.lst (zs.map .int)) = some (.int z) := by
  show minD1 (zs.map D.int) = _
  unfold minD1
  rw [intL_map]
  show (minL zs).map D.int = _
  rw [h]
  rfl
theorem shallowest_ok (hT : T 29 = some fdshallowest) {ps : List (Int × Int)} {long place len : Int} {gate : D} {S : Store} {n : Nat} (hl : ps.length ≤ 64) (h0 : ps ≠ []) (hz : ovs long place len ps ≠ []) :
    (callN T G (n + 1) 29 [.tup [.int long, .tup (partsD ps), gate], .int place, .int len] S).sat fun d S' => S' = S ∧ ∃ z, d = .int z ∧ minL (ovs long place len ps) = some z := by
  refine sat_call hT rfl ?_
  simp [fdshallowest, env0]
  refine ⟨_, rfl, _, rfl, ?_⟩
  refine sat_flat_map (fun x => match x with | .tup (a :: _) => [a] | _ => []) (partsD ps) S (fun x hx R hR => ?_) ?_
  · obtain ⟨p, _, rfl⟩ := List.mem_map.mp hx
    rw [sat_lcF]
    simp [wipeE, Tg.set]
    exact ⟨_, rfl, hR⟩
  · have e1 : (partsD ps).flatMap (fun x => match x with | .tup (a :: _) => [a] | _ => []) = ps.map fun p => D.int p.1 := by
      clear hl h0 hz
      induction ps with
      | nil => rfl
      | cons p ps ih => rw [partsD_map] at *; rw [List.map_cons, List.flatMap_cons, ih]; rfl
    rw [e1]
    cases ps with
    | nil => exact absurd rfl h0
    | cons p ps =>
    refine ⟨_, rfl, _, p_cat ?_, ?_⟩
    · simp only [List.length_map, List.length_singleton, lim]; omega
    refine ⟨_, rfl, _, rfl, _, rfl, _, rfl, _, p_slL, _, rfl, _, rfl, ?_⟩
    rw [List.map_cons, List.cons_append, cut_tail, partsD_map, zip_zl]
    refine sat_forI (fun i v S' => S' = S ∧ ∃ c a b, v = [.d (.tup [.int long, .tup ((p :: ps).map pairD), gate]), .d (.int place), .d (.int len), c, .own ((((zl long (p :: ps)).take i).flatMap (ov place len)).map .int), a, b]) _ _ _ ⟨rfl, _, _, _, rfl⟩ ?_ ?_
    · rintro i x v S' hx ⟨rfl, c, a, b, rfl⟩
      rw [List.getElem?_map] at hx
      cases e : (zl long (p :: ps))[i]? with
      | none => rw [e] at hx; cases hx
      | some y =>
        rw [e] at hx
        cases hx
        rw [sat_forF]
        refine ⟨_, rfl, ?_⟩
        have hl2 := ov_len place len ((zl long (p :: ps)).take i)
        have hl3 : ((zl long (p :: ps)).take i).length ≤ (zl long (p :: ps)).length := by rw [List.length_take]; omega
        rw [zl_len] at hl3
        have e2 : ((zl long (p :: ps)).take (i + 1)).flatMap (ov place len) = ((zl long (p :: ps)).take i).flatMap (ov place len) ++ ov place len y := by
          rw [List.take_succ, e, List.flatMap_append]
          simp
        rw [e2]
        simp [pairD]
        refine ⟨_, rfl, ?_⟩
        have hl4 : (((zl long (p :: ps)).take i).flatMap (ov place len)).length < lim := by simp only [lim]; omega
        generalize ((zl long (p :: ps)).take i).flatMap (ov place len) = acc at hl4
        refine ⟨_, p_lt, ?_⟩
        by_cases q1 : y.1.1 < place + len
        · by_cases q2 : place < y.2
          · simp [q1, q2, ov]
            exact ⟨rfl, hl4⟩
          · simp [q1, q2, ov]
        · simp [q1, ov]
    · rintro v S' ⟨rfl, c, a, b, rfl⟩
      obtain ⟨z, hz1, _⟩ := minL_some hz
      rw [List.length_map, List.take_length]
      simp
      exact ⟨_, p_min1 hz1, z, rfl, hz1⟩
/-! ### lying -/
theorem sat_flat_ints {f : D → Store → Rs (List D)} {P : List D → Store → Prop} (g : Int → List Int) (ts : List Int) (S : Store)
    (st : ∀ t ∈ ts, ∀ R : List D → Store → Prop, R ((g t).map .int) S → (f (.int t) S).sat R) (k : P ((ts.flatMap g).map .int) S) : (flat f (ts.map .int) S).sat P := by
  refine sat_flat_map (fun x => match x with | .int t => (g t).map .int | _ => []) _ S (fun x hx R hR => ?_) ?_
  · obtain ⟨t, ht, rfl⟩ := List.mem_map.mp hx
    exact st t ht R hR
  · have e : (ts.map D.int).flatMap (fun x => match x with | .int t => (g t).map D.int | _ => []) = (ts.flatMap g).map .int := by
      clear st k
      induction ts with
      | nil => rfl
      | cons t ts ih => rw [List.map_cons, List.flatMap_cons, ih, List.flatMap_cons, List.map_append]
    rw [e]
    exact k
def rangeI (lo : Int) (k : Nat) : List Int := (List.range k).map fun (i : Nat) => lo + (i : Int)
theorem rangeD_I (lo : Int) (k : Nat) : rangeD lo k = (rangeI lo k).map .int := by
  unfold rangeD rangeI
  rw [List.map_map]
  rfl
theorem mem_rangeI {lo : Int} {k : Nat} {t : Int} : t ∈ rangeI lo k ↔ lo ≤ t ∧ t < lo + k := by
  unfold rangeI
  rw [List.mem_map]
  constructor
  · rintro ⟨i, hi, rfl⟩
    rw [List.mem_range] at hi
    omega
  · intro ⟨h1, h2⟩
    refine ⟨(t - lo).toNat, List.mem_range.mpr ?_, ?_⟩ <;> omega
theorem flatMap_one {α β : Type} (g : α → β) (xs : List α) : xs.flatMap (fun x => [g x]) = xs.map g := by
  induction xs with
  | nil => rfl
  | cons x xs ih => rw [List.flatMap_cons, ih]; rfl
/-- all metres, all hours -/
def LiesP (long : Int) (ps : List (Int × Int)) (hs : List Int) (len dr place lo hi : Int) : Prop :=
  place + len ≤ long ∧ ∀ m, place ≤ m → m < place + len → ∀ t, lo ≤ t → t ≤ hi → dr ≤ depA ps m + hgt hs t
theorem hgt_turn {hs : List Int} (h : hs ≠ []) (lo t : Int) (h1 : lo ≤ t) : hgt hs (lo + (t - lo) % hs.length) = hgt hs t := by
  unfold hgt
  rw [Int.add_emod, Int.emod_emod, ← Int.add_emod, show lo + (t - lo) = t by omega]
/-- the deepest and the least: the parts overlapping are the metres' -/
theorem ovs_dep {d : D} {long gate : Int} {ps : List (Int × Int)} (q : QuayD d long ps gate) {place len : Int} (h0 : 0 ≤ place) (h1 : 1 ≤ len) (h2 : place + len ≤ long) :
    (∀ m, place ≤ m → m < place + len → depA ps m ∈ ovs long place len ps) ∧ ∀ z ∈ ovs long place len ps, ∃ m, place ≤ m ∧ m < place + len ∧ depA ps m = z := by
  obtain ⟨_, lo, hi, up, ⟨q0, rest, rfl⟩, num, bnd, _⟩ := q
  match rest, num, up, bnd with
  | [], _, _, bnd =>
    simp [ovs, zl, ov, depA] at *
    refine ⟨fun m _ _ => ⟨⟨by omega, by omega⟩, fun _ => by omega⟩, ?_⟩
    intro z _ _ hz
    exact ⟨place, by omega, by omega, by rw [if_pos (by omega), hz]⟩
  | [p1], _, up, bnd =>
    simp [ovs, zl, ov, depA] at *
    refine ⟨fun m hm hm' => ?_, ?_⟩
    · by_cases c1 : p1.1 ≤ m
      · exact .inr ⟨⟨by omega, by omega⟩, fun _ => by omega⟩
      · exact .inl ⟨⟨by omega, by omega⟩, by rw [if_neg c1, if_pos (by omega)]⟩
    · rintro z (⟨⟨a, b⟩, rfl⟩ | ⟨⟨a, b⟩, rfl⟩)
      · exact ⟨place, by omega, by omega, by rw [if_neg (by omega), if_pos (by omega)]⟩
      · exact ⟨max place p1.1, by omega, by omega, by rw [if_pos (by omega)]⟩
  | [p1, p2], _, up, bnd =>
    simp [ovs, zl, ov, depA] at *
    refine ⟨fun m hm hm' => ?_, ?_⟩
    · by_cases c2 : p2.1 ≤ m
      · exact .inr (.inr ⟨⟨by omega, by omega⟩, fun _ => by omega⟩)
      · by_cases c1 : p1.1 ≤ m
        · exact .inr (.inl ⟨⟨by omega, by omega⟩, by rw [if_neg c2, if_pos c1]⟩)
        · exact .inl ⟨⟨by omega, by omega⟩, by rw [if_neg c2, if_neg c1, if_pos (by omega)]⟩
    · rintro z (⟨⟨a, b⟩, rfl⟩ | ⟨⟨a, b⟩, rfl⟩ | ⟨⟨a, b⟩, rfl⟩)
      · exact ⟨place, by omega, by omega, by rw [if_neg (by omega), if_neg (by omega), if_pos (by omega)]⟩
      · exact ⟨max place p1.1, by omega, by omega, by rw [if_neg (by omega), if_pos (by omega)]⟩
      · exact ⟨max place p2.1, by omega, by omega, by rw [if_pos (by omega)]⟩
  | p1 :: p2 :: p3 :: r, num, _, _ => simp at num
theorem pures_ints (zs : List Int) : D.pures (zs.map D.int) = true ∧ D.deps (zs.map D.int) ≤ 1 := by
  induction zs with
  | nil => exact ⟨rfl, by simp [D.deps]⟩
  | cons p ps ih => exact ⟨by simp [D.pures, D.pure, ih.1], by simp [D.deps, D.dep, ih.2]⟩
theorem eqDs_ints : ∀ xs ys : List Int, eqDs (xs.map D.int) (ys.map D.int) = decide (xs = ys)
  | [], [] => rfl
  | [], _ :: _ => rfl
  | _ :: _, [] => rfl
  | x :: xs, y :: ys => by
    have ih := eqDs_ints xs ys
    simp only [List.map_cons, eqDs, eqD, ih, Bool.beq_eq_decide_eq, List.cons.injEq, Bool.decide_and]
theorem p_eq_ints {S : Store} {xs ys : List Int} : prim2 S .eq (.lst (xs.map .int)) (.lst (ys.map .int)) = some (.bl (decide (xs = ys))) := by
  obtain ⟨a1, a2⟩ := pures_ints xs
  obtain ⟨b1, b2⟩ := pures_ints ys
  rw [p_eq_of (by simpa [D.pure] using a1) (by simpa [D.pure] using b1) (by simp [D.dep]; omega) (by simp [D.dep]; omega)]
  simp [eqD, eqDs_ints]
theorem p_ne_ints {S : Store} {xs ys : List Int} : prim2 S .ne (.lst (xs.map .int)) (.lst (ys.map .int)) = some (.bl (!decide (xs = ys))) := by
  obtain ⟨a1, a2⟩ := pures_ints xs
  obtain ⟨b1, b2⟩ := pures_ints ys
  rw [p_ne_of (by simpa [D.pure] using a1) (by simpa [D.pure] using b1) (by simp [D.dep]; omega) (by simp [D.dep]; omega)]
  simp [eqD, eqDs_ints]
theorem lies_ok (hT : T 30 = some fdlies) (hH : T 26 = some fdheight) (hS : T 29 = some fdshallowest) {hs : List Int} (h : hs ≠ []) (hl : hs.length ≤ 64) {d : D} {long gate : Int} {ps : List (Int × Int)} (q : QuayD d long ps gate)
    {nm bays : D} {len dr place lo hi : Int} (h0 : 0 ≤ place) (h1 : 1 ≤ len) (h2 : 0 ≤ lo) (h3 : lo ≤ hi) (h4 : hi ≤ 1000) {S : Store} {n : Nat} :
    (callN T G (n + 2) 30 [d, .tup (hs.map D.int), shipD nm len dr bays, .int place, .int lo, .int hi] S).sat fun d S' => S' = S ∧ ∃ b, d = .bl b ∧ (b = true ↔ LiesP long ps hs len dr place lo hi) := by
  have hd := q.eq
  subst hd
  have hp : 0 < hs.length := List.length_pos_iff.mpr h
  refine sat_call hT rfl ?_
  simp [fdlies, env0, shipD]
  have hq := q.hi
  refine ⟨_, rfl, _, rfl, _, rfl, _, p_gt, ?_⟩
  by_cases hb : long < place + len
  · simp [hb]
    intro hc
    have := hc.1
    omega
  · simp [hb]
    refine ⟨okRange_of (by omega) (by omega), okRange_of (by split <;> omega) (by split <;> omega), ?_⟩
    rw [rangeD_I]
    refine sat_flat_ints (fun t => [hgt hs t]) _ S (fun t ht R hR => ?_) ?_
    · rw [sat_lcF]
      simp [wipeE, Tg.set]
      refine (height_ok hH h).mono ?_
      rintro _ _ ⟨rfl, rfl⟩
      exact hR
    · rw [flatMap_one]
      generalize he : (if lo + (hs.length : Int) - 1 < hi then lo + (hs.length : Int) - 1 else hi) = e
      have he1 : lo ≤ e ∧ e ≤ hi ∧ e ≤ lo + hs.length - 1 ∧ (e = hi ∨ e = lo + hs.length - 1) := by
        split at he <;> omega
      obtain ⟨z, hz1, hz2, hz3⟩ := minL_some (zs := (rangeI lo (e + 1 - lo).toNat).map (hgt hs)) (by
        intro hc
        have := congrArg List.length hc
        unfold rangeI at this
        simp at this
        omega)
      obtain ⟨o1, o2⟩ := ovs_dep q h0 h1 (by omega)
      have hne : ovs long place len ps ≠ [] := fun hc => by
        have := o1 place (by omega) (by omega)
        rw [hc] at this
        cases this
      have hps : ps ≠ [] := by
        obtain ⟨_, _, hh⟩ := q.hd
        rw [hh]
        exact List.cons_ne_nil _ _
      refine ⟨_, p_min1 hz1, _, rfl, _, rfl, _, rfl, _, rfl, _, rfl, ?_⟩
      refine (shallowest_ok hS (by have := q.num; omega) hps hne).mono ?_
      rintro _ _ ⟨rfl, w, rfl, hw⟩
      obtain ⟨w', hw1, hw2, hw3⟩ := minL_some hne
      rw [hw] at hw1
      cases hw1
      refine ⟨_, rfl, _, rfl, _, rfl, _, rfl, _, p_ge, rfl, rfl, ?_⟩
      have key : dr ≤ w + z ↔ LiesP long ps hs len dr place lo hi := by
        constructor
        · intro hk
          refine ⟨by omega, fun m m1 m2 t t1 t2 => ?_⟩
          have a1 := hw3 _ (o1 m m1 m2)
          have b0 := Int.emod_nonneg (t - lo) (b := (hs.length : Int)) (by omega)
          have b1 := Int.emod_lt_of_pos (t - lo) (b := (hs.length : Int)) (by omega)
          have b2 : (t - lo) % (hs.length : Int) ≤ t - lo := by
            have e1 := Int.mul_ediv_add_emod (t - lo) (hs.length : Int)
            have e2 := Int.mul_nonneg (a := (hs.length : Int)) (b := (t - lo) / hs.length) (by omega) (Int.ediv_nonneg (by omega) (by omega))
            omega
          have a2 := hz3 (hgt hs (lo + (t - lo) % hs.length)) (List.mem_map.mpr ⟨_, mem_rangeI.mpr (by omega), rfl⟩)
          rw [hgt_turn h lo t t1] at a2
          omega
        · rintro ⟨_, hk⟩
          obtain ⟨t, ht, rfl⟩ := List.mem_map.mp hz2
          obtain ⟨m, m1, m2, rfl⟩ := o2 w hw2
          have ht' := mem_rangeI.mp ht
          exact hk m m1 m2 t (by omega) (by omega)
      by_cases hc : LiesP long ps hs len dr place lo hi
      · exact .inr ⟨by rw [decide_eq_true (key.mpr hc)], hc⟩
      · exact .inl ⟨by rw [decide_eq_false (fun q => hc (key.mp q))], hc⟩
theorem llies_ok (hT : T 33 = some fd_lies) (hD : T 31 = some fd_depth) {hs : List Int} (h : hs ≠ []) (hl : hs.length ≤ 64) {d : D} {long gate : Int} {ps : List (Int × Int)} (q : QuayD d long ps gate)
    {nm bays : D} {len dr place lo hi : Int} (h0 : 0 ≤ place) (h1 : 1 ≤ len) (h2 : 0 ≤ lo) (h3 : lo ≤ hi) (h4 : hi ≤ 1000) {S : Store} {n : Nat} :
    (callN T G (n + 2) 33 [d, .tup (hs.map D.int), shipD nm len dr bays, .int place, .int lo, .int hi] S).sat fun d S' => S' = S ∧ ∃ b, d = .bl b ∧ (b = true ↔ LiesP long ps hs len dr place lo hi) := by
  have hd := q.eq
  subst hd
  have hp : 0 < hs.length := List.length_pos_iff.mpr h
  refine sat_call hT rfl ?_
  simp [fd_lies, env0, shipD]
  have hq := q.hi
  refine ⟨_, rfl, _, rfl, _, rfl, _, p_gt, ?_⟩
  by_cases hb : long < place + len
  · simp [hb]
    intro hc
    have := hc.1
    omega
  · simp [hb]
    refine ⟨_, rfl, _, rfl, _, rfl, okRange_of (by omega) (by omega), okRange_of (by omega) (by omega), ?_⟩
    rw [rangeD_I]
    refine sat_flat_ints (fun t => [depA ps t]) _ S (fun t ht R hR => ?_) ?_
    · rw [sat_lcF]
      simp [wipeE, Tg.set]
      refine (depth_ok hD).mono ?_
      rintro _ _ ⟨rfl, rfl⟩
      exact hR
    · rw [flatMap_one]
      have e1 : (place + len - place).toNat = len.toNat := by congr 1; omega
      rw [e1]
      obtain ⟨z, hz1, hz2, hz3⟩ := minL_some (zs := (rangeI place len.toNat).map (depA ps)) (by
        intro hc
        have := congrArg List.length hc
        unfold rangeI at this
        simp at this
        omega)
      refine ⟨_, p_min1 hz1, _, rfl, _, rfl, _, rfl, _, p_add, _, rfl, _, rfl, okRange_of (by omega) (by omega), okRange_of (by omega) (by omega), ?_⟩
      rw [rangeD_I]
      refine sat_flat_ints (fun t => if z + hgt hs t < dr then [t] else []) _ S (fun t ht R hR => ?_) ?_
      · rw [sat_lcF]
        simp [wipeE, Tg.set]
        refine ⟨_, p_mod (by omega), _, ix_hgt h, _, rfl, _, rfl, _, rfl, ?_⟩
        by_cases hc : z + hgt hs t < dr
        · simp [hc] at *
          exact hR
        · simp [hc] at *
          exact hR
      · simp [Tg.set]
        refine ⟨_, p_eq_ints (ys := []), ?_⟩
        have key : (rangeI lo (hi + 1 - lo).toNat).flatMap (fun t => if z + hgt hs t < dr then [t] else []) = [] ↔ LiesP long ps hs len dr place lo hi := by
          rw [List.flatMap_eq_nil_iff]
          constructor
          · intro hk
            refine ⟨by omega, fun m m1 m2 t t1 t2 => ?_⟩
            have := hk t (mem_rangeI.mpr (by omega))
            have h9 := hz3 (depA ps m) (List.mem_map.mpr ⟨m, mem_rangeI.mpr (by omega), rfl⟩)
            by_cases hc : z + hgt hs t < dr
            · rw [if_pos hc] at this; cases this
            · omega
          · rintro ⟨_, hk⟩ t ht
            obtain ⟨m, hm, rfl⟩ := List.mem_map.mp hz2
            have hm' := mem_rangeI.mp hm
            have ht' := mem_rangeI.mp ht
            have := hk m (by omega) (by omega) t (by omega) (by omega)
            rw [if_neg (by omega)]
        by_cases hc : LiesP long ps hs len dr place lo hi
        · exact .inr ⟨by rw [decide_eq_true (key.mpr hc)], hc⟩
        · exact .inl ⟨by rw [decide_eq_false (fun q => hc (key.mp q))], hc⟩
/-! ### what openings give -/
def hoursOf (r : Int × Int) : List Int := rangeI r.1 (r.2 + 1 - r.1).toNat
theorem rangeI_succ (lo : Int) (n : Nat) : rangeI lo (n + 1) = rangeI lo n ++ [lo + n] := by
  unfold rangeI
  rw [List.range_succ, List.map_append]
  rfl
theorem hoursOf_one (h : Int) : hoursOf (h, h) = [h] := by
  unfold hoursOf
  rw [show (h + 1 - h).toNat = 0 + 1 by omega, rangeI_succ]
  simp [rangeI]
structure OpOk (p : Int → Bool) (lo : Int) (n : Nat) (rs : List (Int × Int)) : Prop where
  flat : rs.flatMap hoursOf = (rangeI lo n).flatMap fun t => if p t = true then [t] else []
  bnd : ∀ r ∈ rs, lo ≤ r.1 ∧ r.1 ≤ r.2 ∧ r.2 < lo + n
  apart : rs.Pairwise fun a b => a.2 + 1 < b.1
theorem opens_ok (p : Int → Bool) (lo : Int) : ∀ n, OpOk p lo n (opens p lo n)
  | 0 => ⟨rfl, fun r h => by simp [opens] at h, List.Pairwise.nil⟩
  | n + 1 => by
    have ih := opens_ok p lo n
    unfold opens
    by_cases hp : p (lo + n) = true
    · rw [if_pos hp]
      generalize opens p lo n = rs at ih
      have fl : ((rangeI lo (n + 1)).flatMap fun t => if p t = true then [t] else []) = rs.flatMap hoursOf ++ [lo + (n : Int)] := by
        rw [rangeI_succ, List.flatMap_append, ← ih.flat]
        simp [hp]
      rcases List.eq_nil_or_concat rs with rfl | ⟨init, ⟨a, b⟩, rfl⟩
      · refine ⟨?_, ?_, ?_⟩
        · rw [fl, opS_nil, List.flatMap_cons, hoursOf_one]
          rfl
        · intro r hr
          rw [opS_nil, List.mem_singleton] at hr
          subst hr
          refine ⟨?_, ?_, ?_⟩ <;> simp <;> omega
        · exact List.pairwise_singleton _ _
      · rw [List.concat_eq_append] at *
        rw [opS_snoc]
        obtain ⟨b1, b2, b3⟩ := ih.bnd (a, b) (by simp)
        simp only at b1 b2 b3
        have ap := List.pairwise_append.mp ih.apart
        by_cases eb : b = lo + n - 1
        · rw [if_pos eb]
          refine ⟨?_, ?_, ?_⟩
          · rw [fl, List.flatMap_append, List.flatMap_append, List.append_assoc]
            congr 1
            simp only [List.flatMap_cons, List.flatMap_nil, List.append_nil, hoursOf]
            rw [show (lo + (n : Int) + 1 - a).toNat = (b + 1 - a).toNat + 1 by omega, rangeI_succ]
            congr 2
            omega
          · intro r hr
            rcases List.mem_append.mp hr with h | h
            · have := ih.bnd r (List.mem_append_left _ h)
              refine ⟨?_, ?_, ?_⟩ <;> omega
            · rw [List.mem_singleton] at h
              subst h
              refine ⟨?_, ?_, ?_⟩ <;> simp only <;> omega
          · refine List.pairwise_append.mpr ⟨ap.1, List.pairwise_singleton _ _, fun x hx y hy => ?_⟩
            rw [List.mem_singleton] at hy
            subst hy
            exact ap.2.2 x hx (a, b) (by simp)
        · rw [if_neg eb]
          refine ⟨?_, ?_, ?_⟩
          · rw [fl, List.flatMap_append]
            congr 1
            simp only [List.flatMap_cons, List.flatMap_nil, List.append_nil, hoursOf]
            rw [show (lo + (n : Int) + 1 - (lo + n)).toNat = 0 + 1 by omega, rangeI_succ]
            simp [rangeI]
          · intro r hr
            rcases List.mem_append.mp hr with h | h
            · have := ih.bnd r h
              refine ⟨?_, ?_, ?_⟩ <;> omega
            · rw [List.mem_singleton] at h
              subst h
              refine ⟨?_, ?_, ?_⟩ <;> simp only <;> omega
          · refine List.pairwise_append.mpr ⟨ih.apart, List.pairwise_singleton _ _, fun x hx y hy => ?_⟩
            rw [List.mem_singleton] at hy
            subst hy
            rcases List.mem_append.mp hx with h | h
            · have := ap.2.2 x h (a, b) (by simp)
              simp only at *
              omega
            · rw [List.mem_singleton] at h
              subst h
              simp only
              omega
    · rw [if_neg hp]
      refine ⟨?_, fun r hr => ?_, ih.apart⟩
      · rw [rangeI_succ, List.flatMap_append, ← ih.flat]
        simp [hp]
      · have := ih.bnd r hr
        refine ⟨?_, ?_, ?_⟩ <;> omega
theorem eqD_pairs (rs : List (Int × Int)) : eqDs (rs.map pairD) (rs.map pairD) = true := by
  induction rs with
  | nil => rfl
  | cons r rs ih => simp [eqDs, pairD, eqD, ih]
/-! ### a ship drawn -/
def abcS : Str := Str.ofString "abcdefghijkl"
def ltr (letter : Str) (c : Nat) : Str := letter ++ ⟨#[abcS.cps.toList.getD c 0]⟩
def entD (letter : Str) (e : Nat × Int) : D := .tup [.str (ltr letter e.1), .int e.2]
def bayD (letter : Str) (b : List (Nat × Int)) : D := .tup (b.map (entD letter))
theorem abc_len : abcS.cps.toList.length = 12 := by decide +kernel
theorem abc_len2 : abcS.length = 12 := by decide +kernel
theorem abc_ix {S : Store} {c : Nat} (h : c < 12) : prim2 S .ix (.str abcS) (.int c) = some (.str ⟨#[abcS.cps.toList.getD c 0]⟩) := by
  show (if abcS.length ≤ lim then match ixAt abcS.cps.toList.length c with | some j => (abcS.cps.toList[j]?).map fun c => D.str ⟨#[c]⟩ | none => none else none) = _
  rw [if_pos (by rw [abc_len2]; decide), abc_len, ixAt_nn (by omega) (by omega)]
  show (abcS.cps.toList[(c : Int).toNat]?).map _ = _
  rw [Int.toNat_natCast, List.getD_eq_getElem?_getD]
  rw [List.getElem?_eq_getElem (by rw [abc_len]; omega)]
  rfl
theorem abc_add {S : Store} {letter : Str} {c : Nat} (h : letter.length ≤ 100) : prim2 S .add (.str letter) (.str ⟨#[abcS.cps.toList.getD c 0]⟩) = some (.str (ltr letter c)) := by
  show (if letter.length + (Str.length ⟨#[abcS.cps.toList.getD c 0]⟩) ≤ lim then some (D.str _) else none) = _
  rw [if_pos]
  · rfl
  · show letter.length + 1 ≤ 1000000
    omega
def idsB (bs : List (List (Nat × Int))) (b : List (Nat × Int)) : List Nat := (bs.flatten ++ b).map (·.1)
def OneB (b : List (Nat × Int)) : Prop := ∀ e ∈ b, 1 ≤ e.2 ∧ e.2 ≤ 4
def cntB (bs : List (List (Nat × Int))) : Nat := bs.flatten.length
structure BaysOk (bs : List (List (Nat × Int))) : Prop where
  num : bs.flatten.map (·.1) = List.range (cntB bs)
  each : ∀ b ∈ bs, b.length ≤ 3 ∧ ∀ e ∈ b, 1 ≤ e.2 ∧ e.2 ≤ 4
theorem ship_ok (h10 : T 10 = some fd_pick) (h14 : T 14 = some fd_ship) {n r m : Nat} {S : Store} {nm : D} {letter : Str} {long : Int} (hlt : letter.length ≤ 100) (l1 : 1 ≤ long) (l2 : long ≤ 16) (h : Dk S r (m + 60)) :
    (callN T G (n + 2) 14 [.ref r, nm, .str letter, .int long] S).sat fun d S' => (∃ len dr bs, d = shipD nm len dr (.tup (bs.map (bayD letter))) ∧ 1 ≤ len ∧ len ≤ max 1 (long * 2 / 3) ∧ 2 ≤ dr ∧ dr ≤ 17 ∧ 1 ≤ bs.length ∧ bs.length ≤ 4 ∧ BaysOk bs) ∧ Dk S' r m ∧ Nx r S S' := by
  refine sat_call h14 rfl ?_
  simp [fd_ship, env0, Tg.set]
  refine (pick_ok h10 (h.le (by omega) : Dk S r (m + 58 + 1)) (by decide) (by decide)).mono ?_
  rintro _ S1 ⟨k, rfl, k0, k1, d1, x1⟩
  simp
  refine ⟨okRange_of (by omega) (by omega), ?_⟩
  have l0 : lim = 1000000 := rfl
  have hk : (1 + k).toNat ≤ 4 := by omega
  refine sat_forI (fun i v S' => ∃ bs c6 c7 c8, v = [.d (.ref r), .d nm, .d (.str letter), .d (.int long), .own (bs.map (bayD letter)), .d (.int (cntB bs)), c6, c7, c8] ∧ bs.length = i ∧ BaysOk bs ∧ cntB bs ≤ 3 * i ∧ Dk S' r (m + 3 + 10 * (4 - i)) ∧ Nx r S S') _ _ _ ⟨[], _, _, _, rfl, rfl, ⟨rfl, fun b hb => by cases hb⟩, by decide, d1.le (by omega), x1⟩ ?_ ?_
  · rintro i x v S2 hx ⟨bs, c6, c7, c8, rfl, hbl, hbs, hct, d2, x2⟩
    have hil := (List.getElem?_eq_some_iff.mp hx).1
    rw [rangeD_len] at hil
    rw [sat_forF]
    refine ⟨_, rfl, ?_⟩
    simp
    have e1 : m + 3 + 10 * (4 - i) = m + 3 + 10 * (3 - i) + 9 + 1 := by omega
    rw [e1] at d2
    generalize m + 3 + 10 * (3 - i) = M at d2
    refine (pick_ok h10 d2 (by decide) (by decide)).mono ?_
    rintro _ S3 ⟨j, rfl, j0, j1, d3, x3⟩
    refine ⟨_, rfl, okRange_of (by omega) (by omega), ?_⟩
    refine sat_forI (fun jj v S' => ∃ b c8, v = [.d (.ref r), .d nm, .d (.str letter), .d (.int long), .own (bs.map (bayD letter)), .d (.int (cntB bs + b.length)), .d x, .own (b.map (entD letter)), c8] ∧ b.length = jj ∧ idsB bs b = List.range (cntB bs + b.length) ∧ OneB b ∧ Dk S' r (M + (9 - jj)) ∧ Nx r S S') _ _ _ ⟨[], _, rfl, rfl, by simpa [idsB] using hbs.num, fun e he => (by cases he), d3, x2.trans x3⟩ ?_ ?_
    · rintro jj y v S4 hy ⟨b, c8, rfl, hb1, hb2, hb3, d4, x4⟩
      have hjl := (List.getElem?_eq_some_iff.mp hy).1
      rw [rangeD_len] at hjl
      rw [sat_forF]
      refine ⟨_, rfl, ?_⟩
      simp
      have e3 : M + (9 - jj) = M + (8 - jj) + 1 := by omega
      rw [e3] at d4
      refine ⟨_, abc_ix (c := cntB bs + b.length) (by omega), _, abc_add hlt, ?_⟩
      refine (pick_ok h10 d4 (by decide) (by decide)).mono ?_
      rintro _ S5 ⟨w, rfl, w0, w1, d5, x5⟩
      refine ⟨_, rfl, by omega, _, rfl, b ++ [(cntB bs + b.length, 1 + w)], ⟨.d y, ?_⟩, ?_, ?_, ?_, d5, x4.trans x5⟩
      · simp [entD, Int.add_assoc]
      · rw [List.length_append, hb1]
        rfl
      · unfold idsB at *
        rw [← List.append_assoc, List.map_append, hb2, List.length_append]
        show List.range (cntB bs + b.length) ++ [cntB bs + b.length] = List.range (cntB bs + b.length + 1)
        rw [List.range_succ]
      · intro e he
        rcases List.mem_append.mp he with he | he
        · exact hb3 e he
        · rw [List.mem_singleton.mp he]
          exact ⟨by simp only; omega, by simp only; omega⟩
    · rintro v S4 ⟨b, c8, rfl, hb1, hb2, hb3, d4, x4⟩
      rw [rangeD_len] at hb1 d4
      simp
      have hc : cntB (bs ++ [b]) = cntB bs + b.length := by
        unfold cntB
        rw [List.flatten_append, List.length_append]
        simp
      refine ⟨by omega, bs ++ [b], ⟨?_, ?_⟩, ?_, ⟨?_, ?_⟩, by omega, d4.le (by omega), x4⟩
      · rw [List.map_append]
        rfl
      · rw [hc]
        omega
      · rw [List.length_append, hbl]
        rfl
      · rw [hc, ← hb2]
        unfold idsB
        rw [List.flatten_append]
        simp
      · intro c hcm
        rcases List.mem_append.mp hcm with hcm | hcm
        · exact hbs.each c hcm
        · rw [List.mem_singleton.mp hcm]
          exact ⟨by omega, hb3⟩
  · rintro v S2 ⟨bs, c6, c7, c8, rfl, hbl, hbs, hct, d2, x2⟩
    rw [rangeD_len] at hbl d2
    simp
    refine ⟨_, p_mul (.inr (by decide)), _, p_fdiv (by decide) (by decide), _, rfl, ?_⟩
    have hm : 1 ≤ (if long * 2 / 3 > 1 then long * 2 / 3 else 1) ∧ (if long * 2 / 3 > 1 then long * 2 / 3 else 1) < 2 ^ 64 ∧ (if long * 2 / 3 > 1 then long * 2 / 3 else 1) ≤ max 1 (long * 2 / 3) := by
      split <;> omega
    generalize (if long * 2 / 3 > 1 then long * 2 / 3 else 1) = mx at hm
    refine (pick_ok h10 (d2.le (by omega) : Dk S2 r (m + 2 + 1)) (by omega) hm.2.1).mono ?_
    rintro _ S3 ⟨u, rfl, u0, u1, d3, x3⟩
    refine ⟨_, rfl, ?_⟩
    refine (pick_ok h10 (d3.le (by omega) : Dk S3 r (m + 1 + 1)) (by decide) (by decide)).mono ?_
    rintro _ S4 ⟨w, rfl, w0, w1, d4, x4⟩
    have xx := (x2.trans x3).trans x4
    exact ⟨_, rfl, xx.len, ⟨_, _, bs, rfl, by omega, by omega, by omega, by omega, by omega, by omega, hbs⟩, d4.le (by omega), xx⟩
end
end Q
/-! Q18: things of any kind. -/
namespace Q
open PySem
/-! ### things -/
mutual
def D.wt : D → Nat
  | .str s => s.length + 1
  | .tup xs => D.wts xs + 1
  | .lst xs => D.wts xs + 1
  | _ => 1
def D.wts : List D → Nat
  | [] => 0
  | x :: xs => D.wt x + 1 + D.wts xs
end
mutual
/-- no reference, no int of more than m bits -/
def D.fit (m : Nat) : D → Bool
  | .int i => decide (i.natAbs < 2 ^ m)
  | .tup xs => D.fits m xs
  | .lst xs => D.fits m xs
  | .ref _ => false
  | _ => true
def D.fits (m : Nat) : List D → Bool
  | [] => true
  | x :: xs => D.fit m x && D.fits m xs
end
structure Th (m w d : Nat) (x : D) : Prop where
  fit : D.fit m x = true
  wt : D.wt x ≤ w
  dep : D.dep x ≤ d
structure Ths (m w d : Nat) (xs : List D) : Prop where
  fit : D.fits m xs = true
  wt : D.wts xs ≤ w
  dep : D.deps xs ≤ d
section
variable {m w d : Nat} {x : D} {xs : List D}
theorem fits_iff : ∀ {xs : List D}, D.fits m xs = true ↔ ∀ x ∈ xs, D.fit m x = true
  | [] => by simp [D.fits]
  | x :: xs => by simp [D.fits, fits_iff (xs := xs)]
theorem deps_iff : ∀ {xs : List D}, D.deps xs ≤ d ↔ ∀ x ∈ xs, D.dep x ≤ d
  | [] => by simp [D.deps]
  | x :: xs => by simp [D.deps, deps_iff (xs := xs), Nat.max_le]
theorem wts_mem : ∀ {xs : List D} {x : D}, x ∈ xs → D.wt x + 1 ≤ D.wts xs
  | y :: xs, x, h => by
    rcases List.mem_cons.mp h with rfl | h
    · simp only [D.wts]; omega
    · have := wts_mem h
      simp only [D.wts]; omega
theorem wts_len : ∀ {xs : List D}, xs.length ≤ D.wts xs
  | [] => Nat.le_refl _
  | x :: xs => by
    have := wts_len (xs := xs)
    simp only [D.wts, List.length_cons]; omega
theorem wts_append : ∀ {xs ys : List D}, D.wts (xs ++ ys) = D.wts xs + D.wts ys
  | [], ys => by simp [D.wts]
  | x :: xs, ys => by
    have := wts_append (xs := xs) (ys := ys)
    simp only [D.wts, List.cons_append]; omega
theorem wts_reverse : ∀ {xs : List D}, D.wts xs.reverse = D.wts xs
  | [] => rfl
  | x :: xs => by
    rw [List.reverse_cons, wts_append, wts_reverse]
    simp only [D.wts]; omega
theorem wts_take : ∀ (k : Nat) (xs : List D), D.wts (xs.take k) + D.wts (xs.drop k) = D.wts xs := fun k xs => by
  rw [← wts_append, List.take_append_drop]
theorem pure_fit : (∀ x : D, D.fit m x = true → D.pure x = true) ∧ ∀ xs : List D, D.fits m xs = true → D.pures xs = true := by
  refine ⟨fun x => ?_, fun xs => ?_⟩
  · exact D.rec (motive_1 := fun x => D.fit m x = true → D.pure x = true) (motive_2 := fun xs => D.fits m xs = true → D.pures xs = true) (fun _ => rfl) (fun _ _ => rfl) (fun _ _ => rfl) (fun _ _ => rfl) (fun _ ih h => ih h) (fun _ ih h => ih h) (fun _ h => by cases h) (fun _ => rfl) (fun x xs h1 h2 h => by
      simp only [D.fits, Bool.and_eq_true] at h
      simp only [D.pures, h1 h.1, h2 h.2, Bool.and_self]) x
  · exact D.rec_1 (motive_1 := fun x => D.fit m x = true → D.pure x = true) (motive_2 := fun xs => D.fits m xs = true → D.pures xs = true) (fun _ => rfl) (fun _ _ => rfl) (fun _ _ => rfl) (fun _ _ => rfl) (fun _ ih h => ih h) (fun _ ih h => ih h) (fun _ h => by cases h) (fun _ => rfl) (fun x xs h1 h2 h => by
      simp only [D.fits, Bool.and_eq_true] at h
      simp only [D.pures, h1 h.1, h2 h.2, Bool.and_self]) xs
theorem show_fit (hm : m ≤ 1919) : (∀ x : D, D.fit m x = true → x.py.showable = true) ∧ ∀ xs : List D, D.fits m xs = true → PyData.showableAll (D.pys xs) = true := by
  have hi : ∀ i : Int, i.natAbs < 2 ^ m → decide (i.natAbs.log2 < 1920) = true := fun i h => by
    refine decide_eq_true ?_
    by_cases h0 : i.natAbs = 0
    · rw [h0]; decide
    · have := (Nat.log2_lt h0).mpr h
      omega
  refine ⟨fun x => ?_, fun xs => ?_⟩
  · exact D.rec (motive_1 := fun x => D.fit m x = true → x.py.showable = true) (motive_2 := fun xs => D.fits m xs = true → PyData.showableAll (D.pys xs) = true) (fun _ => rfl) (fun _ _ => rfl) (fun i h => hi i (of_decide_eq_true h)) (fun _ _ => rfl) (fun _ ih h => ih h) (fun _ ih h => ih h) (fun _ h => by cases h) (fun _ => rfl) (fun x xs h1 h2 h => by
      simp only [D.fits, Bool.and_eq_true] at h
      simp only [D.pys, PyData.showableAll, h1 h.1, h2 h.2, Bool.and_self]) x
  · exact D.rec_1 (motive_1 := fun x => D.fit m x = true → x.py.showable = true) (motive_2 := fun xs => D.fits m xs = true → PyData.showableAll (D.pys xs) = true) (fun _ => rfl) (fun _ _ => rfl) (fun i h => hi i (of_decide_eq_true h)) (fun _ _ => rfl) (fun _ ih h => ih h) (fun _ ih h => ih h) (fun _ h => by cases h) (fun _ => rfl) (fun x xs h1 h2 h => by
      simp only [D.fits, Bool.and_eq_true] at h
      simp only [D.pys, PyData.showableAll, h1 h.1, h2 h.2, Bool.and_self]) xs
theorem wt_py : (∀ x : D, wtP x.py = D.wt x) ∧ ∀ xs : List D, wtPs (D.pys xs) = D.wts xs := by
  refine ⟨fun x => ?_, fun xs => ?_⟩
  · exact D.rec (motive_1 := fun x => wtP x.py = D.wt x) (motive_2 := fun xs => wtPs (D.pys xs) = D.wts xs) rfl (fun _ => rfl) (fun _ => rfl) (fun _ => rfl) (fun _ ih => by simp only [D.py, wtP, D.wt, ih]) (fun _ ih => by simp only [D.py, wtP, D.wt, ih]) (fun _ => rfl) rfl (fun x xs h1 h2 => by
      simp only [D.pys, wtPs, D.wts, h1, h2]) x
  · exact D.rec_1 (motive_1 := fun x => wtP x.py = D.wt x) (motive_2 := fun xs => wtPs (D.pys xs) = D.wts xs) rfl (fun _ => rfl) (fun _ => rfl) (fun _ => rfl) (fun _ ih => by simp only [D.py, wtP, D.wt, ih]) (fun _ ih => by simp only [D.py, wtP, D.wt, ih]) (fun _ => rfl) rfl (fun x xs h1 h2 => by
      simp only [D.pys, wtPs, D.wts, h1, h2]) xs
theorem fit_mono {m' : Nat} (hm : m ≤ m') : (∀ x : D, D.fit m x = true → D.fit m' x = true) ∧ ∀ xs : List D, D.fits m xs = true → D.fits m' xs = true := by
  have hi : ∀ i : Int, i.natAbs < 2 ^ m → i.natAbs < 2 ^ m' := fun i h => Nat.lt_of_lt_of_le h (Nat.pow_le_pow_right (by decide) hm)
  refine ⟨fun x => ?_, fun xs => ?_⟩
  · exact D.rec (motive_1 := fun x => D.fit m x = true → D.fit m' x = true) (motive_2 := fun xs => D.fits m xs = true → D.fits m' xs = true) (fun _ => rfl) (fun _ _ => rfl) (fun i h => decide_eq_true (hi i (of_decide_eq_true h))) (fun _ _ => rfl) (fun _ ih h => ih h) (fun _ ih h => ih h) (fun _ h => by cases h) (fun _ => rfl) (fun x xs h1 h2 h => by
      simp only [D.fits, Bool.and_eq_true] at h
      simp only [D.fits, h1 h.1, h2 h.2, Bool.and_self]) x
  · exact D.rec_1 (motive_1 := fun x => D.fit m x = true → D.fit m' x = true) (motive_2 := fun xs => D.fits m xs = true → D.fits m' xs = true) (fun _ => rfl) (fun _ _ => rfl) (fun i h => decide_eq_true (hi i (of_decide_eq_true h))) (fun _ _ => rfl) (fun _ ih h => ih h) (fun _ ih h => ih h) (fun _ h => by cases h) (fun _ => rfl) (fun x xs h1 h2 h => by
      simp only [D.fits, Bool.and_eq_true] at h
      simp only [D.fits, h1 h.1, h2 h.2, Bool.and_self]) xs
theorem Th.mono {m' w' d' : Nat} (h : Th m w d x) (h1 : m ≤ m') (h2 : w ≤ w') (h3 : d ≤ d') : Th m' w' d' x := ⟨(fit_mono h1).1 x h.fit, Nat.le_trans h.wt h2, Nat.le_trans h.dep h3⟩
theorem Ths.mono {m' w' d' : Nat} (h : Ths m w d xs) (h1 : m ≤ m') (h2 : w ≤ w') (h3 : d ≤ d') : Ths m' w' d' xs := ⟨(fit_mono h1).2 xs h.fit, Nat.le_trans h.wt h2, Nat.le_trans h.dep h3⟩
theorem Th.tup (h : Ths m w d xs) : Th m (w + 1) (d + 1) (.tup xs) := ⟨h.fit, by simp only [D.wt]; exact Nat.succ_le_succ h.wt, by simp only [D.dep]; exact Nat.succ_le_succ h.dep⟩
theorem Th.lst (h : Ths m w d xs) : Th m (w + 1) (d + 1) (.lst xs) := ⟨h.fit, by simp only [D.wt]; exact Nat.succ_le_succ h.wt, by simp only [D.dep]; exact Nat.succ_le_succ h.dep⟩
theorem Th.items (h : Th m w d (.tup xs)) : Ths m (w - 1) (d - 1) xs ∧ 1 ≤ w ∧ 1 ≤ d := by
  have h1 := h.wt
  have h2 := h.dep
  simp only [D.wt] at h1
  simp only [D.dep] at h2
  exact ⟨⟨h.fit, by omega, by omega⟩, by omega, by omega⟩
theorem Th.itemsL (h : Th m w d (.lst xs)) : Ths m (w - 1) (d - 1) xs ∧ 1 ≤ w ∧ 1 ≤ d := by
  have h1 := h.wt
  have h2 := h.dep
  simp only [D.wt] at h1
  simp only [D.dep] at h2
  exact ⟨⟨h.fit, by omega, by omega⟩, by omega, by omega⟩
theorem Ths.mem (h : Ths m w d xs) (hx : x ∈ xs) : Th m w d x := ⟨fits_iff.mp h.fit x hx, by have := wts_mem hx; have := h.wt; omega, deps_iff.mp h.dep x hx⟩
theorem Ths.nil : Ths m w d [] := ⟨rfl, Nat.zero_le _, Nat.zero_le _⟩
theorem Ths.cons {w2 : Nat} (h : Th m w d x) (hs : Ths m w2 d xs) : Ths m (w + 1 + w2) d (x :: xs) := ⟨by simp only [D.fits, h.fit, hs.fit, Bool.and_self], by have := h.wt; have := hs.wt; simp only [D.wts]; omega, by simp only [D.deps]; exact Nat.max_le.mpr ⟨h.dep, hs.dep⟩⟩
theorem Ths.append {w2 : Nat} {ys : List D} (h : Ths m w d xs) (hs : Ths m w2 d ys) : Ths m (w + w2) d (xs ++ ys) := by
  refine ⟨fits_iff.mpr fun x hx => ?_, by have := h.wt; have := hs.wt; rw [wts_append]; omega, deps_iff.mpr fun x hx => ?_⟩
  · rcases List.mem_append.mp hx with hx | hx
    · exact fits_iff.mp h.fit x hx
    · exact fits_iff.mp hs.fit x hx
  · rcases List.mem_append.mp hx with hx | hx
    · exact deps_iff.mp h.dep x hx
    · exact deps_iff.mp hs.dep x hx
theorem wts_sub {xs ys : List D} (hs : ys.Sublist xs) : D.wts ys ≤ D.wts xs := by
  induction hs with
  | slnil => exact Nat.le_refl _
  | cons a _ ih => simp only [D.wts]; omega
  | cons_cons a _ ih => simp only [D.wts]; omega
theorem Ths.sub {ys : List D} (h : Ths m w d xs) (hs : ys.Sublist xs) : Ths m w d ys :=
  ⟨fits_iff.mpr fun x hx => fits_iff.mp h.fit x (hs.subset hx), Nat.le_trans (wts_sub hs) h.wt, deps_iff.mpr fun x hx => deps_iff.mp h.dep x (hs.subset hx)⟩
theorem Ths.reverse (h : Ths m w d xs) : Ths m w d xs.reverse := ⟨fits_iff.mpr fun x hx => fits_iff.mp h.fit x (List.mem_reverse.mp hx), by rw [wts_reverse]; exact h.wt, deps_iff.mpr fun x hx => deps_iff.mp h.dep x (List.mem_reverse.mp hx)⟩
theorem Th.pure (h : Th m w d x) : D.pure x = true := pure_fit.1 x h.fit
theorem Ths.pure (h : Ths m w d xs) : D.pures xs = true := pure_fit.2 xs h.fit
theorem deref_pure {S : Store} (h : D.pure x = true) : deref S x = x := by
  cases x <;> first | rfl | cases h
/-- the text of a thing -/
theorem p_str {S : Store} (h : Th m w d x) (h1 : m ≤ 1919) (h2 : w ≤ 8000) (h3 : d ≤ 60) : prim1 S .strO x = some (.str (strTxt x.py)) := by
  show strD (deref S x) = _
  rw [deref_pure h.pure]
  unfold strD
  rw [if_pos]
  simp only [Bool.and_eq_true, decide_eq_true_eq]
  exact ⟨⟨⟨h.pure, (show_fit h1).1 x h.fit⟩, Nat.le_trans h.dep h3⟩, by rw [wt_py.1]; exact Nat.le_trans h.wt h2⟩
theorem Th.len {s : Str} (h : Th m w d (.str s)) : s.length + 1 ≤ w := h.wt
theorem Th.lenT (h : Th m w d (.tup xs)) : xs.length + 1 ≤ w := by
  have := h.wt
  simp only [D.wt] at this
  have := wts_len (xs := xs)
  omega
end
def fd_thing : Fd := ⟨2, 6, false, (.cons (.asg (.name 2) (.call 10 (.cons (.var 0) (.cons (.cst (.int 12)) .nil)))) (.cons (.asg (.name 3) (.op .ix (.cons (.lst (.cons (.op .sub (.cons (.call 10 (.cons (.var 0) (.cons (.cst (.int 18)) .nil))) (.cons (.cst (.int 1)) .nil))) (.cons (.op .sub (.cons (.call 10 (.cons (.var 0) (.cons (.op .pow (.cons (.cst (.int 10)) (.cons (.cst (.int 13)) .nil))) .nil))) (.cons (.op .pow (.cons (.cst (.int 10)) (.cons (.cst (.int 12)) .nil))) .nil))) (.cons (.op .sub (.cons (.cst (.int 0)) (.cons (.op .pow (.cons (.cst (.int 10)) (.cons (.cst (.int 39)) .nil))) .nil))) .nil)))) (.cons (.call 10 (.cons (.var 0) (.cons (.cst (.int 3)) .nil))) .nil)))) (.cons (.ife (.op .lt (.cons (.var 2) (.cons (.cst (.int 4)) .nil))) (.cons (.ret (.var 3)) .nil) .nil) (.cons (.ife (.op .lt (.cons (.var 2) (.cons (.cst (.int 7)) .nil))) (.cons (.ret (.op .ix (.cons (.lst (.cons (.cst (.bl true)) (.cons (.cst (.bl false)) (.cons (.cst .non) .nil)))) (.cons (.op .sub (.cons (.var 2) (.cons (.cst (.int 4)) .nil))) .nil)))) .nil) .nil) (.cons (.ife (.op .lt (.cons (.var 2) (.cons (.cst (.int 9)) .nil))) (.cons (.ret (.op .ix (.cons (.lst (.cons (.cst (.str (Str.ofString ""))) (.cons (.cst (.str (Str.ofString "a"))) (.cons (.cst (.str (Str.ofString "any"))) (.cons (.cst (.str (Str.ofString "put"))) (.cons (.cst (.str (Str.ofString "fast"))) (.cons (.cst (.str (Str.ofString "="))) .nil))))))) (.cons (.call 10 (.cons (.var 0) (.cons (.cst (.int 6)) .nil))) .nil)))) .nil) .nil) (.cons (.asg (.name 4) (.lc [5] (.name 5) (.range1 (.op .mul (.cons (.call 10 (.cons (.var 0) (.cons (.cst (.int 4)) .nil))) (.cons (.op .toInt (.cons (.op .gt (.cons (.var 1) (.cons (.cst (.int 0)) .nil))) .nil)) .nil)))) (.cst (.bl true)) (.call 16 (.cons (.var 0) (.cons (.op .sub (.cons (.var 1) (.cons (.cst (.int 1)) .nil))) .nil))))) (.cons (.ret (.ife (.op .eq (.cons (.var 2) (.cons (.cst (.int 9)) .nil))) (.var 4) (.op .toTup (.cons (.var 4) .nil)))) .nil)))))))⟩
def fd_spoilt : Fd := ⟨2, 6, false, (.cons (.ife (.and (.op (.isi [.tuple]) (.cons (.var 1) .nil)) (.and (.op .ne (.cons (.var 1) (.cons (.tup .nil) .nil))) (.op .gt (.cons (.call 10 (.cons (.var 0) (.cons (.cst (.int 6)) .nil))) (.cons (.cst (.int 0)) .nil))))) (.cons (.asg (.name 3) (.call 10 (.cons (.var 0) (.cons (.op .len (.cons (.var 1) .nil)) .nil)))) (.cons (.asg (.name 4) (.call 17 (.cons (.var 0) (.cons (.op .ix (.cons (.var 1) (.cons (.var 3) .nil))) .nil)))) (.cons (.ret (.op .add (.cons (.op .add (.cons (.op .slH (.cons (.var 1) (.cons (.var 3) .nil))) (.cons (.tup (.cons (.var 4) .nil)) .nil))) (.cons (.op .slL (.cons (.var 1) (.cons (.op .add (.cons (.var 3) (.cons (.cst (.int 1)) .nil))) .nil))) .nil)))) .nil))) .nil) (.cons (.ife (.op (.isi [.str]) (.cons (.var 1) .nil)) (.cons (.asg (.name 5) (.lst (.cons (.cst (.str (Str.ofString ""))) (.cons (.cst (.str (Str.ofString "a"))) (.cons (.cst (.str (Str.ofString "pa"))) (.cons (.cst (.str (Str.ofString "pb"))) (.cons (.cst (.str (Str.ofString "ada"))) (.cons (.cst (.str (Str.ofString "A"))) (.cons (.cst (.str (Str.ofString "abcdefghi"))) (.cons (.cst (.str (Str.ofString "a b"))) .nil)))))))))) (.cons (.ret (.op .ix (.cons (.op .add (.cons (.var 5) (.cons (.lst (.cons (.op .add (.cons (.var 1) (.cons (.cst (.str (Str.ofString "a"))) .nil))) (.cons (.cst .non) (.cons (.cst (.int 7)) .nil)))) .nil))) (.cons (.call 10 (.cons (.var 0) (.cons (.cst (.int 11)) .nil))) .nil)))) .nil)) .nil) (.cons (.ife (.op (.isi [.int]) (.cons (.var 1) .nil)) (.cons (.ret (.op .ix (.cons (.lst (.cons (.op .add (.cons (.var 1) (.cons (.cst (.int 1)) .nil))) (.cons (.op .sub (.cons (.var 1) (.cons (.cst (.int 1)) .nil))) (.cons (.op .sub (.cons (.cst (.int 0)) (.cons (.var 1) .nil))) (.cons (.cst (.int 100)) (.cons (.cst (.bl true)) (.cons (.cst .non) (.cons (.op .strO (.cons (.var 1) .nil)) (.cons (.cst (.int 401)) (.cons (.cst (.int 0)) .nil)))))))))) (.cons (.call 10 (.cons (.var 0) (.cons (.cst (.int 9)) .nil))) .nil)))) .nil) .nil) (.cons (.asg (.name 2) (.lst (.cons (.tup (.cons (.cst (.int 1)) (.cons (.cst (.int 1)) .nil))) (.cons (.tup .nil) (.cons (.cst .non) (.cons (.cst (.bl true)) (.cons (.cst (.str (Str.ofString "x"))) (.cons (.cst (.int 7)) (.cons (.tup (.cons (.cst (.str (Str.ofString "pa"))) (.cons (.cst (.int 2)) .nil))) .nil))))))))) (.cons (.ife (.op (.isi [.tuple]) (.cons (.var 1) .nil)) (.cons (.asg (.name 2) (.op .add (.cons (.var 2) (.cons (.lst (.cons (.op .add (.cons (.var 1) (.cons (.op .slH (.cons (.var 1) (.cons (.cst (.int 1)) .nil))) .nil))) (.cons (.op .slL (.cons (.var 1) (.cons (.cst (.int 1)) .nil))) (.cons (.op .slH (.cons (.var 1) (.cons (.cst (.int 1)) .nil))) (.cons (.op .toLst (.cons (.var 1) .nil)) (.cons (.tup (.cons (.var 1) .nil)) (.cons (.op .add (.cons (.var 1) (.cons (.var 1) .nil))) (.cons (.op .rev (.cons (.var 1) .nil)) .nil)))))))) .nil)))) .nil) .nil) (.cons (.ret (.op .ix (.cons (.var 2) (.cons (.call 10 (.cons (.var 0) (.cons (.op .len (.cons (.var 2) .nil)) .nil))) .nil)))) .nil))))))⟩
def fd_whole : Fd := ⟨1, 1, false, (.cons (.ret (.and (.op (.isi [.int]) (.cons (.var 0) .nil)) (.not (.op (.isi [.bool]) (.cons (.var 0) .nil))))) .nil)⟩
def fd_from : Fd := ⟨3, 3, false, (.cons (.ret (.and (.call 11 (.cons (.var 0) .nil)) (.chain .le .le (.var 1) (.var 0) (.var 2)))) .nil)⟩
def fd_isname : Fd := ⟨1, 2, false, (.cons (.ife (.or (.not (.op (.isi [.str]) (.cons (.var 0) .nil))) (.not (.chain .le .le (.cst (.int 1)) (.op .len (.cons (.var 0) .nil)) (.cst (.int 8))))) (.cons (.ret (.cst (.bl false))) .nil) .nil) (.cons (.ret (.op .eq (.cons (.lc [1] (.name 1) (.chars (.var 0)) (.not (.chain .le .le (.cst (.str (Str.ofString "a"))) (.var 1) (.cst (.str (Str.ofString "z"))))) (.var 1)) (.cons (.lst .nil) .nil)))) .nil))⟩
def fd_isbox : Fd := ⟨1, 1, false, (.cons (.ret (.and (.op (.isi [.tuple]) (.cons (.var 0) .nil)) (.and (.op .eq (.cons (.op .len (.cons (.var 0) .nil)) (.cons (.cst (.int 2)) .nil))) (.and (.call 19 (.cons (.op .ix (.cons (.var 0) (.cons (.cst (.int 0)) .nil))) .nil)) (.call 18 (.cons (.op .ix (.cons (.var 0) (.cons (.cst (.int 1)) .nil))) (.cons (.cst (.int 1)) (.cons (.cst (.int 9)) .nil)))))))) .nil)⟩
def fdfrom : Fd := ⟨3, 3, false, (.cons (.ret (.and (.op (.isi [.int]) (.cons (.var 0) .nil)) (.and (.not (.op (.isi [.bool]) (.cons (.var 0) .nil))) (.chain .le .le (.var 1) (.var 0) (.var 2))))) .nil)⟩
def fdname : Fd := ⟨1, 2, false, (.cons (.ret (.and (.op (.isi [.str]) (.cons (.var 0) .nil)) (.and (.chain .le .le (.cst (.int 1)) (.op .len (.cons (.var 0) .nil)) (.cst (.int 8))) (.op .all (.cons (.lc [1] (.name 1) (.chars (.var 0)) (.cst (.bl true)) (.op .inn (.cons (.var 1) (.cons (.glob 9) .nil)))) .nil))))) .nil)⟩
def fdbox : Fd := ⟨1, 1, false, (.cons (.ife (.or (.not (.op (.isi [.tuple]) (.cons (.var 0) .nil))) (.op .ne (.cons (.op .len (.cons (.var 0) .nil)) (.cons (.cst (.int 2)) .nil)))) (.cons (.ret (.cst (.bl false))) .nil) .nil) (.cons (.ret (.and (.call 1 (.cons (.op .ix (.cons (.var 0) (.cons (.cst (.int 0)) .nil))) .nil)) (.call 0 (.cons (.op .ix (.cons (.var 0) (.cons (.cst (.int 1)) .nil))) (.cons (.cst (.int 1)) (.cons (.glob 8) .nil)))))) .nil))⟩
/-! ### plain operations on things -/
section
variable {S : Store} {x : D} {xs ys : List D} {m w d : Nat}
theorem p_addT (h : xs.length + ys.length ≤ lim) : prim2 S .add (.tup xs) (.tup ys) = some (.tup (xs ++ ys)) := by
  show (if xs.length + ys.length ≤ lim then some (D.tup (xs ++ ys)) else none) = _
  rw [if_pos h]
theorem p_addS {s t : Str} (h : s.length + t.length ≤ lim) : prim2 S .add (.str s) (.str t) = some (.str (s ++ t)) := by
  show (if s.length + t.length ≤ lim then some (D.str (s ++ t)) else none) = _
  rw [if_pos h]
theorem p_slHT {k : Int} : prim2 S .slH (.tup xs) (.int k) = some (.tup (cut xs none (some k))) := rfl
theorem p_slLT {k : Int} : prim2 S .slL (.tup xs) (.int k) = some (.tup (cut xs (some k) none)) := rfl
theorem p_revT : prim1 S .rev (.tup xs) = some (.tup xs.reverse) := rfl
theorem p_neT (h : D.pures xs = true) (h2 : D.deps xs ≤ 60) : prim2 S .ne (.tup xs) (.tup []) = some (.bl (!xs.isEmpty)) := by
  show (eqP S (.tup xs) (.tup [])).map (fun b => D.bl (!b)) = _
  unfold eqP
  have e : okEq (deref S (.tup xs)) (deref S (.tup [])) = true := by
    simp [okEq, deref, D.pure, h, D.pures, D.dep, D.deps]
    omega
  rw [if_pos e]
  show some (D.bl (!eqDs xs [])) = _
  cases xs <;> rfl
theorem p_eqT (h : D.pures xs = true) (h2 : D.deps xs ≤ 60) : prim2 S .eq (.tup xs) (.tup []) = some (.bl xs.isEmpty) := by
  show (eqP S (.tup xs) (.tup [])).map (fun b => D.bl b) = _
  unfold eqP
  have e : okEq (deref S (.tup xs)) (deref S (.tup [])) = true := by
    simp [okEq, deref, D.pure, h, D.pures, D.dep, D.deps]
    omega
  rw [if_pos e]
  show some (D.bl (eqDs xs [])) = _
  cases xs <;> rfl
theorem cut_hi {k : Int} (h : 0 ≤ k) : cut xs none (some k) = xs.take k.toNat := by
  unfold cut bound
  simp only [List.drop_zero, Nat.sub_zero]
  rw [if_neg (by omega)]
  rw [← List.take_eq_take_min]
theorem cut_lo {k : Int} (h : 0 ≤ k) : cut xs (some k) none = xs.drop k.toNat := by
  unfold cut bound
  simp only []
  rw [if_neg (by omega)]
  have e : (xs.drop (min k.toNat xs.length)) = xs.drop k.toNat := by
    by_cases hk : k.toNat ≤ xs.length
    · rw [Nat.min_eq_left hk]
    · rw [Nat.min_eq_right (by omega), List.drop_length, List.drop_eq_nil_of_le (by omega)]
  rw [e, List.take_of_length_le]
  rw [List.length_drop]
  omega
/-- one of a list of things -/
theorem p_pick {ds : List D} {k : Int} (h0 : 0 ≤ k) (h1 : k < ds.length) : ∃ y, prim2 S .ix (.lst ds) (.int k) = some y ∧ y ∈ ds := by
  have hk : k.toNat < ds.length := by omega
  exact ⟨ds[k.toNat], by rw [p_ix_l (ixAt_nn h0 h1)]; exact List.getElem?_eq_getElem hk, List.getElem_mem hk⟩
theorem p_pickT {ds : List D} {k : Int} (h0 : 0 ≤ k) (h1 : k < ds.length) : prim2 S .ix (.tup ds) (.int k) = some (ds[k.toNat]'(by omega)) := by
  have hk : k.toNat < ds.length := by omega
  rw [p_ix_t (ixAt_nn h0 h1)]; exact List.getElem?_eq_getElem hk
end
/-! ### things drawn -/
section
variable {T : Nat → Option Fd} {G : Nat → Option D}
theorem fit_int {m : Nat} {i : Int} (h : i.natAbs < 2 ^ m) : D.fit m (.int i) = true := decide_eq_true h
theorem th_int {m w d : Nat} {i : Int} (h : i.natAbs < 2 ^ m) (hw : 1 ≤ w) : Th m w d (.int i) := ⟨fit_int h, hw, Nat.zero_le _⟩
theorem flat_ths {f : D → Store → Rs (List D)} {r m w d : Nat} (cost : Nat) : ∀ (xs : List D), (∀ x ∈ xs, ∀ S k, Dk S r (k + cost) → (f x S).sat fun ys S' => ∃ d', ys = [d'] ∧ Th m w d d' ∧ Dk S' r k ∧ Nx r S S') →
    ∀ S k, Dk S r (k + xs.length * cost) → (flat f xs S).sat fun ys S' => Ths m (xs.length * (w + 1)) d ys ∧ ys.length = xs.length ∧ Dk S' r k ∧ Nx r S S' := by
  intro xs hf S k h
  refine (flat_dk (Th m w d) cost xs hf S k h).mono ?_
  rintro ys S' ⟨l, q, d1, x1⟩
  refine ⟨?_, l, d1, x1⟩
  rw [← l]
  clear l h hf
  induction ys with
  | nil => exact Ths.nil
  | cons y ys ih =>
    have := Ths.cons (q y List.mem_cons_self) (ih fun z hz => q z (List.mem_cons_of_mem _ hz))
    refine this.mono (Nat.le_refl _) ?_ (Nat.le_refl _)
    rw [List.length_cons, Nat.add_mul]
    omega
theorem far_ok {S : Store} {k2 k3 k4 : Int} (a2 : 0 ≤ k2) (b2 : k2 < 18) (a3 : 0 ≤ k3) (b3 : k3 < 10000000000000) (a4 : 0 ≤ k4) (b4 : k4 < 3) :
    ∃ z : Int, prim2 S .ix (.lst [.int (k2 - 1), .int (k3 - 1000000000000), .int (-1000000000000000000000000000000000000000)]) (.int k4) = some (.int z) ∧ z.natAbs < 2 ^ 130 := by
  obtain ⟨y, h1, h2⟩ := p_pick (S := S) (ds := [.int (k2 - 1), .int (k3 - 1000000000000), .int (-1000000000000000000000000000000000000000)]) a4 (by simpa using b4)
  rw [h1]
  have e : (2 : Nat) ^ 130 = 1361129467683753853853498429727072845824 := by decide
  rcases List.mem_cons.mp h2 with rfl | h2
  · exact ⟨_, rfl, by omega⟩
  rcases List.mem_cons.mp h2 with rfl | h2
  · exact ⟨_, rfl, by omega⟩
  · rw [List.mem_singleton.mp h2]
    exact ⟨_, rfl, by omega⟩
theorem thing_step (h10 : T 10 = some fd_pick) (h16 : T 16 = some fd_thing) {r n m cost w d : Nat} {dp : Int} {S : Store} (ih : 0 < dp → ∀ m S, Dk S r (m + cost) → (callN T G (n + 1) 16 [.ref r, .int (dp - 1)] S).sat fun y S' => Th 130 w d y ∧ Dk S' r m ∧ Nx r S S')
    (h : Dk S r (m + 3 * cost + 6)) : (callN T G (n + 2) 16 [.ref r, .int dp] S).sat fun y S' => Th 130 (3 * (w + 1) + 5) (d + 1) y ∧ Dk S' r m ∧ Nx r S S' := by
  have s10 : small (10 : Int) = true := by decide
  refine sat_call h16 rfl ?_
  simp [fd_thing, env0, Tg.set]
  refine (pick_ok h10 (h : Dk S r (m + 3 * cost + 5 + 1)) (by decide) (by decide)).mono ?_
  rintro _ S1 ⟨k1, rfl, a1, b1, d1, x1⟩
  simp
  refine (pick_ok h10 (d1 : Dk S1 r (m + 3 * cost + 4 + 1)) (by decide) (by decide)).mono ?_
  rintro _ S2 ⟨k2, rfl, a2, b2, d2, x2⟩
  simp [p_pow s10]
  refine (pick_ok h10 (d2 : Dk S2 r (m + 3 * cost + 3 + 1)) (by decide) (by decide)).mono ?_
  rintro _ S3 ⟨k3, rfl, a3, b3, d3, x3⟩
  simp [p_pow s10]
  refine (pick_ok h10 (d3 : Dk S3 r (m + 3 * cost + 2 + 1)) (by decide) (by decide)).mono ?_
  rintro _ S4 ⟨k4, rfl, a4, b4, d4, x4⟩
  obtain ⟨z, hz1, hz2⟩ := far_ok (S := S4) a2 b2 a3 b3 a4 b4
  refine ⟨_, hz1, ?_⟩
  have xx := ((x1.trans x2).trans x3).trans x4
  by_cases c1 : k1 < 4
  · rw [if_pos c1]
    exact ⟨xx.len, th_int hz2 (by omega), d4.le (by omega), xx⟩
  rw [if_neg c1]
  by_cases c2 : k1 < 7
  · rw [if_pos c2]
    obtain ⟨y, h1, h2⟩ := p_pick (S := S4) (ds := [.bl true, .bl false, .non]) (k := k1 - 4) (by omega) (by simp; omega)
    refine ⟨y, h1, xx.len, ?_, d4.le (by omega), xx⟩
    have : ∀ y ∈ [D.bl true, .bl false, .non], D.fit 130 y = true ∧ D.wt y ≤ 5 ∧ D.dep y ≤ 0 := by decide
    obtain ⟨q1, q2, q3⟩ := this y h2
    exact ⟨q1, by omega, by omega⟩
  rw [if_neg c2]
  by_cases c3 : k1 < 9
  · rw [if_pos c3]
    refine (pick_ok h10 (d4 : Dk S4 r (m + 3 * cost + 1 + 1)) (by decide) (by decide)).mono ?_
    rintro _ S5 ⟨k5, rfl, a5, b5, d5, x5⟩
    obtain ⟨y, h1, h2⟩ := p_pick (S := S5) (ds := [D.str (Str.ofString ""), D.str (Str.ofString "a"), D.str (Str.ofString "any"), D.str (Str.ofString "put"), D.str (Str.ofString "fast"), D.str (Str.ofString "=")]) (k := k5) a5 (by simpa using b5)
    refine ⟨y, h1, (xx.trans x5).len, ?_, d5.le (by omega), xx.trans x5⟩
    have : ∀ y ∈ [D.str (Str.ofString ""), D.str (Str.ofString "a"), D.str (Str.ofString "any"), D.str (Str.ofString "put"), D.str (Str.ofString "fast"), D.str (Str.ofString "=")], D.fit 130 y = true ∧ D.wt y ≤ 5 ∧ D.dep y ≤ 0 := by decide +kernel
    obtain ⟨q1, q2, q3⟩ := this y h2
    exact ⟨q1, by omega, by omega⟩
  rw [if_neg c3]
  refine (pick_ok h10 (d4 : Dk S4 r (m + 3 * cost + 1 + 1)) (by decide) (by decide)).mono ?_
  rintro _ S5 ⟨k5, rfl, a5, b5, d5, x5⟩
  have hb : prim1 S5 .toInt (.bl (decide (0 < dp))) = some (.int (if 0 < dp then 1 else 0)) := by
    by_cases hd : 0 < dp <;> simp [hd, prim1, toIntD]
  refine ⟨_, hb, _, p_mul (.inl (small_of (by omega) (by omega))), _, rfl, okRange_of (by split <;> omega) (by split <;> omega), ?_⟩
  have hlen : (k5 * (if 0 < dp then 1 else 0)).toNat ≤ 3 := by split <;> omega
  refine (flat_ths (m := 130) (w := w) (d := d) cost _ (fun x hx S k hk => ?_) S5 (m + 1) (d5.le (by
    rw [rangeD_len]
    have : (k5 * (if 0 < dp then 1 else 0)).toNat * cost ≤ 3 * cost := Nat.mul_le_mul_right _ hlen
    omega))).mono ?_
  · have hd : 0 < dp := by
      refine Classical.byContradiction fun hd => ?_
      rw [if_neg hd, Int.mul_zero] at hx
      simp [rangeD] at hx
    rw [sat_lcF]
    simp [wipeE, Tg.set]
    refine (ih hd k S hk).mono ?_
    rintro y S' ⟨q, d6, x6⟩
    exact ⟨q, d6, x6⟩
  · rintro ys S6 ⟨q, l, d6, x6⟩
    have xy := (xx.trans x5).trans x6
    rw [rangeD_len] at q l
    have q' : Ths 130 (3 * (w + 1)) d ys := q.mono (Nat.le_refl _) (Nat.mul_le_mul_right _ hlen) (Nat.le_refl _)
    refine ⟨_, rfl, ?_⟩
    simp
    split
    · exact ⟨xy.len, (Th.lst q').mono (Nat.le_refl _) (by omega) (Nat.le_refl _), d6.le (by omega), xy⟩
    · exact ⟨xy.len, (Th.tup q').mono (Nat.le_refl _) (by omega) (Nat.le_refl _), d6.le (by omega), xy⟩
theorem thing0_ok (h10 : T 10 = some fd_pick) (h16 : T 16 = some fd_thing) {r n m : Nat} {S : Store} (h : Dk S r (m + 6)) : (callN T G (n + 2) 16 [.ref r, .int 0] S).sat fun y S' => Th 130 8 1 y ∧ Dk S' r m ∧ Nx r S S' :=
  thing_step (w := 0) (d := 0) (cost := 0) h10 h16 (fun h => absurd h (by decide)) h
theorem thing1_ok (h10 : T 10 = some fd_pick) (h16 : T 16 = some fd_thing) {r n m : Nat} {S : Store} (h : Dk S r (m + 24)) : (callN T G (n + 3) 16 [.ref r, .int 1] S).sat fun y S' => Th 130 32 2 y ∧ Dk S' r m ∧ Nx r S S' :=
  thing_step (w := 8) (d := 1) (cost := 6) h10 h16 (fun _ m S h => thing0_ok h10 h16 h) (h.le (by omega))
theorem thing2_ok (h10 : T 10 = some fd_pick) (h16 : T 16 = some fd_thing) {r n m : Nat} {S : Store} (h : Dk S r (m + 78)) : (callN T G (n + 4) 16 [.ref r, .int 2] S).sat fun y S' => Th 130 104 3 y ∧ Dk S' r m ∧ Nx r S S' :=
  thing_step (w := 32) (d := 2) (cost := 24) h10 h16 (fun _ m S h => thing1_ok h10 h16 h) (h.le (by omega))
theorem thing3_ok (h10 : T 10 = some fd_pick) (h16 : T 16 = some fd_thing) {r n m : Nat} {S : Store} (h : Dk S r (m + 240)) : (callN T G (n + 5) 16 [.ref r, .int 3] S).sat fun y S' => Th 130 320 4 y ∧ Dk S' r m ∧ Nx r S S' :=
  thing_step (w := 104) (d := 3) (cost := 78) h10 h16 (fun _ m S h => thing2_ok h10 h16 h) (h.le (by omega))
end
/-! ### things spoilt -/
def spoC : Ex := match fd_spoilt.body with
  | .cons (.ife c _ _) _ => c
  | _ => .cst .non
def spoA : Sms := match fd_spoilt.body with
  | .cons (.ife _ a _) _ => a
  | _ => .nil
def spoR : Sms := match fd_spoilt.body with
  | .cons _ a => a
  | _ => .nil
theorem spo_body : fd_spoilt.body = .cons (.ife spoC spoA .nil) spoR := rfl
def SpOk (m : Nat) (x : D) (d : Nat) (y : D) : Prop := D.fit (m + 1) y = true ∧ D.wt y ≤ 2 * D.wt x + 2000 ∧ D.dep y ≤ d + 1
section
variable {T : Nat → Option Fd} {G : Nat → Option D}
theorem spo_cond (h10 : T 10 = some fd_pick) {r k n m : Nat} {x : D} {S : Store} (hx : D.fit m x = true) (hd : D.dep x ≤ 60) (h : Dk S r (k + 1)) :
    (evE (callN T G (n + 1)) G spoC [.d (.ref r), .d x, .non, .non, .non, .non] S).sat fun b S' => ∃ c, b = .bl c ∧ (c = true → ∃ xs, x = .tup xs ∧ xs ≠ []) ∧ Dk S' r k ∧ Nx r S S' := by
  simp only [spoC, fd_spoilt]
  by_cases ht : ∃ xs, x = .tup xs
  · obtain ⟨xs, rfl⟩ := ht
    have hp := p_neT (S := S) (xs := xs) (pure_fit.2 xs hx) (by simp only [D.dep] at hd; omega)
    simp [tyOf, hp]
    by_cases h0 : xs = []
    · rw [if_pos h0]
      exact ⟨h.le (by omega), Nx.refl r S⟩
    · rw [if_neg h0]
      refine (pick_ok h10 h (by decide) (by decide)).mono ?_
      rintro _ S1 ⟨k1, rfl, a1, b1, d1, x1⟩
      refine ⟨_, rfl, ?_⟩
      by_cases hk : 0 < k1
      · exact .inr ⟨by simp [hk], h0, d1, x1⟩
      · exact .inl ⟨by simp [hk], d1, x1⟩
  · have : tyOf S x .tuple = false := by
      cases x <;> first | rfl | exact absurd ⟨_, rfl⟩ ht
    simp [this]
    exact ⟨h.le (by omega), Nx.refl r S⟩
theorem spOk_of {m d : Nat} {x y : D} (hm : 9 ≤ m) {ds : List D} (h : ∀ y' ∈ ds, D.fit 10 y' = true ∧ D.wt y' ≤ 20 ∧ D.dep y' ≤ 1) (hy : y ∈ ds) : SpOk m x d y := by
  obtain ⟨h1, h2, h3⟩ := h y hy
  exact ⟨(fit_mono (by omega)).1 y h1, by omega, by omega⟩
theorem spOk_up {m w d : Nat} {x y : D} (h : Th (m + 1) w (d + 1) y) (hw : w ≤ 2 * D.wt x + 2000) : SpOk m x d y := ⟨h.fit, Nat.le_trans h.wt hw, h.dep⟩
theorem str_int {S : Store} {x : D} {m : Nat} (hm : m ≤ 1919) (hx : D.fit m x = true) (hw : D.wt x = 1) (hd : D.dep x = 0) (hs : x.py.hasDict = false) (hc : x.py.canLay0 = true) (hne : strTxt x.py = x.py.shown) : ∃ s, prim1 S .strO x = some (.str s) ∧ s.length ≤ 1925 := by
  have t : Th m 1 0 x := ⟨hx, by omega, by omega⟩
  refine ⟨_, p_str t hm (by decide) (by decide), ?_⟩
  rw [hne]
  have := (shown_ok x.py ((show_fit hm).1 x hx) hs hc).1
  rw [wt_py.1, hw] at this
  exact this
theorem pow_up {m : Nat} {a : Nat} (h : a ≤ 2 ^ m) (hm : 0 < 2 ^ m) : a + 0 < 2 ^ (m + 1) := by
  have : 2 ^ (m + 1) = 2 ^ m + 2 ^ m := by rw [Nat.pow_succ]; omega
  omega
/-- behind the first branch -/
theorem spo_rest (h10 : T 10 = some fd_pick) {r k n m d : Nat} (hm : 9 ≤ m) (hm2 : m ≤ 1900) {x : D} {S : Store} (hx : D.fit m x = true) (hw : D.wt x ≤ 8000) (hd : D.dep x ≤ d) (hd2 : d ≤ 50) (h : Dk S r (k + 1)) (P : Fl → Store → Prop)
    (hP : ∀ y S', SpOk m x d y → Dk S' r k → Nx r S S' → P (.rt y) S') :
    (evSs (callN T G (n + 1)) G spoR [.d (.ref r), .d x, .non, .non, .non, .non] S).sat P := by
  have h2 : 0 < 2 ^ m := Nat.pow_pos (by decide)
  have h29 : 2 ^ 9 ≤ 2 ^ m := Nat.pow_le_pow_right (by decide) hm
  have hpow : 2 ^ (m + 1) = 2 ^ m + 2 ^ m := by rw [Nat.pow_succ]; omega
  have l0 : lim = 1000000 := rfl
  have base : ∀ y' ∈ [D.tup [.int 1, .int 1], .tup [], .non, .bl true, .str (Str.ofString "x"), .int 7, .tup [.str (Str.ofString "pa"), .int 2]], D.fit 10 y' = true ∧ D.wt y' ≤ 20 ∧ D.dep y' ≤ 1 := by decide +kernel
  have fin : ∀ (ds : List D), (∀ y ∈ ds, SpOk m x d y) → ∀ (t : Str), t.length ≤ 1925 → ∀ (S1 : Store) (k1 : Int), 0 ≤ k1 → k1 < ds.length + 6 → Dk S1 r k → Nx r S S1 → ∃ z, prim2 S1 .ix (.lst (ds ++ [.int 100, .bl true, .non, .str t, .int 401, .int 0])) (.int k1) = some z ∧ P (.rt z) S1 := fun ds hds t ht S1 k1 a1 b1 d1 x1 => by
    obtain ⟨y, q1, q2⟩ := p_pick (S := S1) (ds := ds ++ [.int 100, .bl true, .non, .str t, .int 401, .int 0]) a1 (by rw [List.length_append]; simpa using b1)
    refine ⟨y, q1, hP y S1 ?_ d1 x1⟩
    rcases List.mem_append.mp q2 with q2 | q2
    · exact hds y q2
    · simp only [List.mem_cons, List.not_mem_nil, or_false] at q2
      have hsm : ∀ y' ∈ [D.int 100, .bl true, .non, .int 401, .int 0], D.fit 10 y' = true ∧ D.wt y' ≤ 20 ∧ D.dep y' ≤ 1 := by decide
      rcases q2 with rfl | rfl | rfl | rfl | rfl | rfl
      · exact spOk_of hm hsm (by simp)
      · exact spOk_of hm hsm (by simp)
      · exact spOk_of hm hsm (by simp)
      · exact ⟨rfl, by simp only [D.wt]; omega, Nat.zero_le _⟩
      · exact spOk_of hm hsm (by simp)
      · exact spOk_of hm hsm (by simp)
  simp only [spoR, fd_spoilt]
  have other : (∀ S, tyOf S x .str = false) → (∀ S, tyOf S x .int = false) → (∀ S, tyOf S x .tuple = false) → (evSs (callN T G (n + 1)) G spoR [.d (.ref r), .d x, .non, .non, .non, .non] S).sat P := fun t1 t2 t3 => by
    simp [spoR, fd_spoilt, t1, t2, t3, Tg.set]
    refine (pick_ok h10 h (by decide) (by decide)).mono ?_
    rintro _ S1 ⟨k1, rfl, a1, b1, d1, x1⟩
    obtain ⟨y, h1, h2⟩ := p_pick (S := S1) (ds := [D.tup [.int 1, .int 1], .tup [], .non, .bl true, .str (Str.ofString "x"), .int 7, .tup [.str (Str.ofString "pa"), .int 2]]) a1 (by simpa using b1)
    exact ⟨y, h1, hP y S1 (spOk_of hm base h2) d1 x1⟩
  cases x with
  | non => exact other (fun _ => rfl) (fun _ => rfl) (fun _ => rfl)
  | ref _ => cases hx
  | lst xs => exact other (fun _ => rfl) (fun _ => rfl) (fun _ => rfl)
  | str s =>
    have hs : s.length + 1 ≤ 8000 := hw
    simp [tyOf, Tg.set]
    refine ⟨_, p_addS (by have : (Str.ofString "a").length = 1 := rfl; omega), ?_⟩
    refine ⟨_, p_cat (by simp; decide), ?_⟩
    refine (pick_ok h10 h (by decide) (by decide)).mono ?_
    rintro _ S1 ⟨k1, rfl, a1, b1, d1, x1⟩
    obtain ⟨y, q1, q2⟩ := p_pick (S := S1) (ds := [D.str (Str.ofString ""), .str (Str.ofString "a"), .str (Str.ofString "pa"), .str (Str.ofString "pb"), .str (Str.ofString "ada"), .str (Str.ofString "A"), .str (Str.ofString "abcdefghi"), .str (Str.ofString "a b")] ++ [.str (s ++ Str.ofString "a"), .non, .int 7]) a1 (by simpa using b1)
    refine ⟨y, q1, hP y S1 ?_ d1 x1⟩
    have base2 : ∀ y' ∈ [D.str (Str.ofString ""), .str (Str.ofString "a"), .str (Str.ofString "pa"), .str (Str.ofString "pb"), .str (Str.ofString "ada"), .str (Str.ofString "A"), .str (Str.ofString "abcdefghi"), .str (Str.ofString "a b")], D.fit 10 y' = true ∧ D.wt y' ≤ 20 ∧ D.dep y' ≤ 1 := by decide +kernel
    rcases List.mem_append.mp q2 with q2 | q2
    · exact spOk_of hm base2 q2
    rcases List.mem_cons.mp q2 with rfl | q2
    · refine ⟨rfl, ?_, Nat.zero_le _⟩
      show (s ++ Str.ofString "a").length + 1 ≤ 2 * (s.length + 1) + 2000
      rw [strLen_append]
      have : (Str.ofString "a").length = 1 := rfl
      omega
    · exact spOk_of (ds := [.non, .int 7]) hm (by decide) q2
  | bl b =>
    have e1 : ∀ S, prim2 S .add (.bl b) (.int 1) = some (.int (blI b + 1)) := fun _ => rfl
    have e2 : ∀ S, prim2 S .sub (.bl b) (.int 1) = some (.int (blI b - 1)) := fun _ => rfl
    have e3 : ∀ S, prim2 S .sub (.int 0) (.bl b) = some (.int (0 - blI b)) := fun _ => rfl
    obtain ⟨t, ht, hl⟩ := str_int (S := S) (x := .bl b) (m := m) (by omega) rfl rfl rfl rfl rfl rfl
    simp [tyOf, Tg.set, e1, e2, e3, ht]
    refine (pick_ok h10 h (by decide) (by decide)).mono ?_
    rintro _ S1 ⟨k1, rfl, a1, b1, d1, x1⟩
    have hb : 0 ≤ blI b ∧ blI b ≤ 1 := by cases b <;> decide
    exact fin [.int (blI b + 1), .int (blI b - 1), .int (-blI b)] (fun y hy => by
      simp only [List.mem_cons, List.not_mem_nil, or_false] at hy
      rcases hy with rfl | rfl | rfl <;> exact ⟨fit_int (by omega), by simp only [D.wt]; omega, Nat.zero_le _⟩) t hl S1 k1 a1 b1 d1 x1
  | int i =>
    obtain ⟨t, ht, hl⟩ := str_int (S := S) (x := .int i) (m := m) (by omega) hx rfl rfl rfl rfl rfl
    simp [tyOf, Tg.set, ht]
    refine (pick_ok h10 h (by decide) (by decide)).mono ?_
    rintro _ S1 ⟨k1, rfl, a1, b1, d1, x1⟩
    have hi : i.natAbs < 2 ^ m := of_decide_eq_true hx
    exact fin [.int (i + 1), .int (i - 1), .int (-i)] (fun y hy => by
      simp only [List.mem_cons, List.not_mem_nil, or_false] at hy
      rcases hy with rfl | rfl | rfl <;> exact ⟨fit_int (by omega), by simp only [D.wt]; omega, Nat.zero_le _⟩) t hl S1 k1 a1 b1 d1 x1
  | tup xs =>
    simp [tyOf, Tg.set, p_slHT, p_slLT, p_revT]
    have hw' : D.wts xs + 1 ≤ 8000 := hw
    have hd' : D.deps xs + 1 ≤ d := hd
    have hl := wts_len (xs := xs)
    have hc1 := cut_sub (xs := xs) (lo := none) (hi := some 1)
    have tx : Ths m (D.wts xs) (d - 1) xs := ⟨hx, Nat.le_refl _, by omega⟩
    have e1 : cut xs none (some 1) = xs.take 1 := cut_hi (by decide)
    have e2 : cut xs (some 1) none = xs.drop 1 := cut_lo (by decide)
    rw [e1, e2]
    have t1 : Ths m (D.wts xs) (d - 1) (xs.take 1) := tx.sub (List.take_sublist _ _)
    have t2 : Ths m (D.wts xs) (d - 1) (xs.drop 1) := tx.sub (List.drop_sublist _ _)
    have l1 : (xs.take 1).length ≤ 1 := by rw [List.length_take]; omega
    refine ⟨_, p_addT (by omega), _, p_addT (by omega), _, p_cat (by simp; decide), _, rfl, ?_⟩
    have up : ∀ {w : Nat} {y : D}, Th m w (d + 1) y → w ≤ 2 * (D.wts xs + 1) + 2000 → SpOk m (.tup xs) d y := fun h hw => spOk_up (h.mono (Nat.le_succ _) (Nat.le_refl _) (Nat.le_refl _)) hw
    refine (pick_ok h10 h (by simp) (by simp)).mono ?_
    rintro _ S1 ⟨k1, rfl, a1, b1, d1, x1⟩
    obtain ⟨y, q1, q2⟩ := p_pick (S := S1) (ds := [D.tup [.int 1, .int 1], .tup [], .non, .bl true, .str (Str.ofString "x"), .int 7, .tup [.str (Str.ofString "pa"), .int 2]] ++ [D.tup (xs ++ xs.take 1), .tup (xs.drop 1), .tup (xs.take 1), .lst xs, .tup [.tup xs], .tup (xs ++ xs), .tup xs.reverse]) a1 b1
    refine ⟨y, q1, hP y S1 ?_ d1 x1⟩
    rcases List.mem_append.mp q2 with q2 | q2
    · exact spOk_of hm base q2
    simp only [List.mem_cons, List.not_mem_nil, or_false] at q2
    have dd : d - 1 + 1 ≤ d + 1 := by omega
    rcases q2 with rfl | rfl | rfl | rfl | rfl | rfl | rfl
    · exact up ((Th.tup (tx.append t1)).mono (Nat.le_refl _) (Nat.le_refl _) dd) (by omega)
    · exact up ((Th.tup t2).mono (Nat.le_refl _) (Nat.le_refl _) dd) (by omega)
    · exact up ((Th.tup t1).mono (Nat.le_refl _) (Nat.le_refl _) dd) (by omega)
    · exact up ((Th.lst tx).mono (Nat.le_refl _) (Nat.le_refl _) dd) (by omega)
    · exact up ((Th.tup (Ths.cons (Th.tup tx) Ths.nil)).mono (Nat.le_refl _) (Nat.le_refl _) (by omega)) (w := D.wts xs + 1 + 1 + 0 + 1) (by omega)
    · exact up ((Th.tup (tx.append tx)).mono (Nat.le_refl _) (Nat.le_refl _) dd) (by omega)
    · exact up ((Th.tup tx.reverse).mono (Nat.le_refl _) (Nat.le_refl _) dd) (by omega)
theorem spoilt_ok (h10 : T 10 = some fd_pick) (h17 : T 17 = some fd_spoilt) {r m : Nat} (hm : 9 ≤ m) (hm2 : m ≤ 1900) : ∀ (d : Nat) (x : D) (S : Store) (k n : Nat), D.fit m x = true → D.wt x ≤ 8000 → D.dep x ≤ d → d ≤ 50 → Dk S r (k + 3 * (d + 1)) →
    (callN T G (n + d + 2) 17 [.ref r, x] S).sat fun y S' => SpOk m x d y ∧ Dk S' r k ∧ Nx r S S' := by
  intro d
  induction d with
  | zero =>
    intro x S k n hx hw hd hd2 h
    refine sat_call h17 rfl ?_
    rw [spo_body]
    show (evSs (callN T G (n + 1)) G _ [.d (.ref r), .d x, .non, .non, .non, .non] S).sat _
    rw [st_scons, st_ifS]
    refine (spo_cond h10 hx (by omega) (h.le (by omega) : Dk S r (k + 1 + 1))).mono ?_
    rintro _ S1 ⟨c, rfl, hc, d1, x1⟩
    cases c with
    | true =>
      obtain ⟨xs, rfl, _⟩ := hc rfl
      simp [D.dep] at hd
    | false =>
      simp only [ifD_false, st_snil, after_nx]
      exact spo_rest h10 hm hm2 hx hw hd (by omega) d1 _ fun y S' q d2 x2 => ⟨(x1.trans x2).len, q, d2, x1.trans x2⟩
  | succ d ih =>
    intro x S k n hx hw hd hd2 h
    have e0 : n + (d + 1) + 2 = n + d + 2 + 1 := by omega
    rw [e0]
    refine sat_call h17 rfl ?_
    rw [spo_body]
    show (evSs (callN T G (n + d + 2)) G _ [.d (.ref r), .d x, .non, .non, .non, .non] S).sat _
    rw [st_scons, st_ifS]
    refine (spo_cond (n := n + d + 1) h10 hx (by omega) (h.le (by omega) : Dk S r (k + 1 + 3 * (d + 1) + 1))).mono ?_
    rintro _ S1 ⟨c, rfl, hc, d1, x1⟩
    cases c with
    | false =>
      simp only [ifD_false, st_snil, after_nx]
      exact spo_rest (n := n + d + 1) h10 hm hm2 hx hw hd (by omega) (d1.le (by omega) : Dk S1 r (k + 1)) _ fun y S' q d2 x2 => ⟨(x1.trans x2).len, q, d2, x1.trans x2⟩
    | true =>
      obtain ⟨xs, rfl, hne⟩ := hc rfl
      have hl : 0 < xs.length := List.length_pos_iff.mpr hne
      have hw' : D.wts xs + 1 ≤ 8000 := hw
      have hd' : D.deps xs + 1 ≤ d + 1 := hd
      have hl2 := wts_len (xs := xs)
      have l0 : lim = 1000000 := rfl
      simp only [ifD_true]
      simp [spoA, fd_spoilt, Tg.set]
      refine (pick_ok (n := n + d + 1) h10 (d1.le (by omega) : Dk S1 r (k + 3 * (d + 1) + 1)) (by omega) (by omega)).mono ?_
      rintro _ S2 ⟨i, rfl, i0, i1, d2, x2⟩
      refine ⟨_, p_pickT i0 i1, ?_⟩
      have hi : i.toNat < xs.length := by omega
      have hmem : xs[i.toNat] ∈ xs := List.getElem_mem hi
      have tx : Ths m (D.wts xs) d xs := ⟨hx, Nat.le_refl _, by omega⟩
      refine (ih xs[i.toNat] S2 k n (tx.mem hmem).fit (by have := wts_mem hmem; omega) (tx.mem hmem).dep (by omega) d2).mono ?_
      rintro y S3 ⟨⟨y1, y2, y3⟩, d3, x3⟩
      rw [p_slHT, cut_hi i0]
      have lt : (xs.take i.toNat).length ≤ xs.length := by rw [List.length_take]; omega
      have ld : (xs.drop (i + 1).toNat).length ≤ xs.length := by rw [List.length_drop]; omega
      refine ⟨_, rfl, _, p_addT (by rw [List.length_singleton]; omega), _, rfl, _, by rw [p_slLT, cut_lo (by omega)], _, p_addT (by rw [List.length_append, List.length_singleton]; omega), ?_⟩
      have xx := (x1.trans x2).trans x3
      refine ⟨xx.len, ?_, d3, xx⟩
      have e1 : (i + 1).toNat = i.toNat + 1 := by omega
      rw [e1]
      have w0 : D.wts (xs.take i.toNat) + (D.wt xs[i.toNat] + 1 + D.wts (xs.drop (i.toNat + 1))) = D.wts xs := by
        have a := wts_take i.toNat xs
        rw [List.drop_eq_getElem_cons hi] at a
        simp only [D.wts] at a
        exact a
      have t1 : Ths (m + 1) (D.wts (xs.take i.toNat)) (d + 1) (xs.take i.toNat) := ⟨((tx.sub (List.take_sublist _ _)).mono (Nat.le_succ m) (Nat.le_refl _) (Nat.le_refl _)).fit, Nat.le_refl _, Nat.le_trans (tx.sub (List.take_sublist _ _)).dep (by omega)⟩
      have t2 : Ths (m + 1) (D.wts (xs.drop (i.toNat + 1))) (d + 1) (xs.drop (i.toNat + 1)) := ⟨((tx.sub (List.drop_sublist _ _)).mono (Nat.le_succ m) (Nat.le_refl _) (Nat.le_refl _)).fit, Nat.le_refl _, Nat.le_trans (tx.sub (List.drop_sublist _ _)).dep (by omega)⟩
      have ty : Th (m + 1) (D.wt y) (d + 1) y := ⟨y1, Nat.le_refl _, y3⟩
      have tt := Th.tup ((t1.append (Ths.cons ty Ths.nil (w2 := 0))).append t2)
      refine ⟨tt.fit, Nat.le_trans tt.wt ?_, tt.dep⟩
      show _ ≤ 2 * (D.wts xs + 1) + 2000
      omega
end
/-! ### whole numbers, names, boxes, both ways -/
def inr (lo hi : Int) : D → Bool
  | .int i => decide (lo ≤ i) && decide (i ≤ hi)
  | _ => false
def lowC (c : Nat) : Bool := decide (97 ≤ c ∧ c ≤ 122)
def nameB : D → Bool
  | .str s => decide (1 ≤ s.length) && decide (s.length ≤ 8) && s.cps.toList.all lowC
  | _ => false
def boxB : D → Bool
  | .tup [a, b] => nameB a && inr 1 9 b
  | _ => false
section
variable {T : Nat → Option Fd} {G : Nat → Option D}
theorem from_ok (h0 : T 0 = some fdfrom) {x : D} {lo hi : Int} {S : Store} {n : Nat} : (callN T G (n + 1) 0 [x, .int lo, .int hi] S).sat fun d S' => S' = S ∧ d = .bl (inr lo hi x) := by
  refine sat_call h0 rfl ?_
  cases x with
  | int i => by_cases h : lo ≤ i <;> simp [fdfrom, env0, tyOf, inr, prim, h]
  | _ => simp [fdfrom, env0, tyOf, inr, prim]
theorem whole_ok (h11 : T 11 = some fd_whole) {x : D} {S : Store} {n : Nat} : (callN T G (n + 1) 11 [x] S).sat fun d S' => S' = S ∧ d = .bl (match x with | .int _ => true | _ => false) := by
  refine sat_call h11 rfl ?_
  cases x <;> simp [fd_whole, env0, tyOf]
theorem lfrom_ok (h11 : T 11 = some fd_whole) (h18 : T 18 = some fd_from) {x : D} {lo hi : Int} {S : Store} {n : Nat} : (callN T G (n + 2) 18 [x, .int lo, .int hi] S).sat fun d S' => S' = S ∧ d = .bl (inr lo hi x) := by
  refine sat_call h18 rfl ?_
  simp [fd_from, env0]
  refine (whole_ok h11).mono ?_
  rintro _ _ ⟨rfl, rfl⟩
  cases x with
  | int i => by_cases h : lo ≤ i <;> simp [inr, prim, h]
  | _ => simp [inr, prim]
theorem letters_eq : (Str.ofString "abcdefghijklmnopqrstuvwxyz").cps.toList = List.range' 97 26 := by decide +kernel
theorem p_inS {S : Store} {c : Nat} : prim2 S .inn (.str ⟨#[c]⟩) (.str (Str.ofString "abcdefghijklmnopqrstuvwxyz")) = some (.bl (lowC c)) := by
  show (inD S (.str ⟨#[c]⟩) (.str (Str.ofString "abcdefghijklmnopqrstuvwxyz"))).map (fun b => D.bl b) = _
  have e : decide (c ∈ (Str.ofString "abcdefghijklmnopqrstuvwxyz").cps.toList) = lowC c := by
    rw [letters_eq]
    unfold lowC
    rw [decide_eq_decide, List.mem_range']
    constructor
    · rintro ⟨i, h, rfl⟩; omega
    · intro h; exact ⟨c - 97, by omega, by omega⟩
  show some (D.bl (decide (c ∈ (Str.ofString "abcdefghijklmnopqrstuvwxyz").cps.toList))) = _
  rw [e]
theorem lt1 {a b : Nat} : ([a] < [b]) ↔ a < b := by
  rw [List.cons_lt_cons_iff]
  simp
theorem p_leA {S : Store} {c : Nat} : prim2 S .le (.str (Str.ofString "a")) (.str ⟨#[c]⟩) = some (.bl (decide (97 ≤ c))) := by
  show some (D.bl (!decide ((⟨#[c]⟩ : Str).cps.toList < (Str.ofString "a").cps.toList))) = _
  have e : (Str.ofString "a").cps.toList = [97] := by decide +kernel
  rw [e]
  show some (D.bl (!decide ([c] < [97]))) = _
  congr 2
  by_cases h : 97 ≤ c
  · have : ¬ [c] < [97] := fun q => by have := lt1.mp q; omega
    simp [h, this]
  · have : [c] < [97] := lt1.mpr (by omega)
    simp [h, this]
theorem p_leZ {S : Store} {c : Nat} : prim2 S .le (.str ⟨#[c]⟩) (.str (Str.ofString "z")) = some (.bl (decide (c ≤ 122))) := by
  show some (D.bl (!decide ((Str.ofString "z").cps.toList < (⟨#[c]⟩ : Str).cps.toList))) = _
  have e : (Str.ofString "z").cps.toList = [122] := by decide +kernel
  rw [e]
  show some (D.bl (!decide ([122] < [c]))) = _
  congr 2
  by_cases h : c ≤ 122
  · have : ¬ [122] < [c] := fun q => by have := lt1.mp q; omega
    simp [h, this]
  · have : [122] < [c] := lt1.mpr (by omega)
    simp [h, this]
theorem p_len_s {S : Store} {s : Str} (h : s.length ≤ lim) : prim1 S .len (.str s) = some (.int s.length) := by
  show (if s.length ≤ lim then some (D.int s.length) else none) = _
  rw [if_pos h]
theorem str_len (s : Str) : s.cps.toList.length = s.length := rfl
theorem boolL_map {α : Type} (f : α → Bool) : ∀ xs : List α, boolL (xs.map fun x => .bl (f x)) = some (xs.map f)
  | [] => rfl
  | x :: xs => by simp [boolL, boolL_map f xs]
theorem p_all {S : Store} {α : Type} (f : α → Bool) (xs : List α) : prim1 S .all (.lst (xs.map fun x => .bl (f x))) = some (.bl (xs.all f)) := by
  show ((lstOf S (.lst (xs.map fun x => D.bl (f x)))).bind boolL).map (fun bs => D.bl (bs.all id)) = _
  show (boolL (xs.map fun x => D.bl (f x))).map (fun bs => D.bl (bs.all id)) = _
  rw [boolL_map]
  show some (D.bl ((xs.map f).all id)) = _
  rw [List.all_map]
  rfl
theorem p_eqL {S : Store} {xs : List D} (h : D.pures xs = true) (h2 : D.deps xs ≤ 60) : prim2 S .eq (.lst xs) (.lst []) = some (.bl xs.isEmpty) := by
  show (eqP S (.lst xs) (.lst [])).map (fun b => D.bl b) = _
  unfold eqP
  have e : okEq (deref S (.lst xs)) (deref S (.lst [])) = true := by
    simp [okEq, deref, D.pure, h, D.pures, D.dep, D.deps]
    omega
  rw [if_pos e]
  show some (D.bl (eqDs xs [])) = _
  cases xs <;> rfl
theorem p_neL {S : Store} {xs : List D} (h : D.pures xs = true) (h2 : D.deps xs ≤ 60) : prim2 S .ne (.lst xs) (.lst []) = some (.bl (!xs.isEmpty)) := by
  show (eqP S (.lst xs) (.lst [])).map (fun b => D.bl (!b)) = _
  unfold eqP
  have e : okEq (deref S (.lst xs)) (deref S (.lst [])) = true := by
    simp [okEq, deref, D.pure, h, D.pures, D.dep, D.deps]
    omega
  rw [if_pos e]
  show some (D.bl (!eqDs xs [])) = _
  cases xs <;> rfl
theorem fm_one {α β : Type} (f : α → β) : ∀ xs : List α, xs.flatMap (fun x => [f x]) = xs.map f
  | [] => rfl
  | x :: xs => by rw [List.flatMap_cons, fm_one f xs]; rfl
theorem fm_if {α : Type} (p : α → Bool) : ∀ xs : List α, xs.flatMap (fun x => if p x = true then [x] else []) = xs.filter p
  | [] => rfl
  | x :: xs => by
    rw [List.flatMap_cons, fm_if p xs, List.filter_cons]
    cases p x <;> rfl
theorem chars_pure (cs : List Nat) : D.pures (cs.map fun c => .str ⟨#[c]⟩) = true ∧ D.deps (cs.map fun c => .str ⟨#[c]⟩) = 0 := by
  induction cs with
  | nil => exact ⟨rfl, rfl⟩
  | cons c cs ih => simp [D.pures, D.deps, D.pure, D.dep, ih]
theorem nameB_str {s : Str} (h : 1 ≤ s.length ∧ s.length ≤ 8) : nameB (.str s) = s.cps.toList.all lowC := by
  unfold nameB
  simp only [decide_eq_true h.1, decide_eq_true h.2, Bool.true_and]
theorem nameB_no {s : Str} (h : ¬ (1 ≤ s.length ∧ s.length ≤ 8)) : nameB (.str s) = false := by
  unfold nameB
  by_cases h1 : 1 ≤ s.length
  · have h2 : ¬ s.length ≤ 8 := fun h2 => h ⟨h1, h2⟩
    simp [h2]
  · simp [h1]
theorem name_ok (h1 : T 1 = some fdname) (hG : G 9 = some (.str (Str.ofString "abcdefghijklmnopqrstuvwxyz"))) {x : D} {S : Store} {n : Nat} (hw : D.wt x ≤ 8000) : (callN T G (n + 1) 1 [x] S).sat fun d S' => S' = S ∧ d = .bl (nameB x) := by
  refine sat_call h1 rfl ?_
  have l0 : lim = 1000000 := rfl
  cases x with
  | str s =>
    have hw' : s.length + 1 ≤ 8000 := hw
    by_cases c : 1 ≤ s.length ∧ s.length ≤ 8
    · have c1 : (1 : Int) ≤ s.length := by omega
      have c2 : (s.length : Int) ≤ 8 := by omega
      rw [nameB_str c]
      generalize hb : s.cps.toList.all lowC = b
      simp [fdname, env0, tyOf, p_len_s (show s.length ≤ lim by omega), prim, c1, c2]
      refine ⟨by have : s.cps.size = s.length := rfl; omega, ?_⟩
      refine sat_flat_map (fun x => match x with | .str z => [.bl (z.cps.toList.all lowC)] | _ => []) _ S (fun x hx R hR => ?_) ?_
      · obtain ⟨c, _, rfl⟩ := List.mem_map.mp hx
        rw [sat_lcF]
        simp [wipeE, Tg.set, hG]
        refine ⟨_, p_inS, ?_⟩
        simpa using hR
      · rw [List.flatMap_map]
        have e : (s.cps.toList.flatMap fun c => [D.bl ((⟨#[c]⟩ : Str).cps.toList.all lowC)]) = s.cps.toList.map fun c => D.bl (lowC c) := by
          rw [← fm_one]
          congr 1
          funext c
          simp
        refine ⟨_, by rw [show (s.cps.toList.flatMap fun a => (match (D.str ⟨#[a]⟩ : D) with | .str z => [D.bl (z.cps.toList.all lowC)] | _ => [])) = _ from e]; exact p_all _ _, ?_⟩
        simp [hb]
    · rw [nameB_no c]
      by_cases c1 : (1 : Int) ≤ s.length
      · have c2 : ¬ (s.length : Int) ≤ 8 := by omega
        simp [fdname, env0, tyOf, p_len_s (show s.length ≤ lim by omega), prim, c1, c2]
      · simp [fdname, env0, tyOf, p_len_s (show s.length ≤ lim by omega), prim, c1]
  | _ => simp [fdname, env0, tyOf, nameB]
theorem lname_ok (h19 : T 19 = some fd_isname) {x : D} {S : Store} {n : Nat} (hw : D.wt x ≤ 8000) : (callN T G (n + 1) 19 [x] S).sat fun d S' => S' = S ∧ d = .bl (nameB x) := by
  refine sat_call h19 rfl ?_
  have l0 : lim = 1000000 := rfl
  cases x with
  | str s =>
    have hw' : s.length + 1 ≤ 8000 := hw
    by_cases c : 1 ≤ s.length ∧ s.length ≤ 8
    · have c1 : (1 : Int) ≤ s.length := by omega
      have c2 : (s.length : Int) ≤ 8 := by omega
      rw [nameB_str c]
      generalize hb : s.cps.toList.all lowC = b
      simp [fd_isname, env0, tyOf, p_len_s (show s.length ≤ lim by omega), prim, c1, c2]
      refine ⟨by have : s.cps.size = s.length := rfl; omega, ?_⟩
      refine sat_flat_map (fun x => match x with | .str z => if z.cps.toList.all lowC = true then [] else [.str z] | _ => []) _ S (fun x hx R hR => ?_) ?_
      · obtain ⟨c, _, rfl⟩ := List.mem_map.mp hx
        rw [sat_lcF]
        simp [wipeE, Tg.set]
        refine ⟨_, p_leA, ?_⟩
        simp [p_leZ, prim]
        by_cases k1 : 97 ≤ c
        · by_cases k2 : c ≤ 122
          · simp [k1, k2, p_leZ, lowC] at hR ⊢
            exact hR
          · simp [k1, k2, p_leZ, lowC] at hR ⊢
            exact hR
        · simp [k1, lowC] at hR ⊢
          exact hR
      · rw [List.flatMap_map]
        have e : (s.cps.toList.flatMap fun c => if (⟨#[c]⟩ : Str).cps.toList.all lowC = true then [] else [D.str ⟨#[c]⟩]) = (s.cps.toList.filter fun c => !lowC c).map fun c => D.str ⟨#[c]⟩ := by
          generalize s.cps.toList = cs
          induction cs with
          | nil => rfl
          | cons c cs ih =>
            rw [List.flatMap_cons, ih, List.filter_cons]
            cases hc : lowC c <;> simp [hc]
        obtain ⟨q1, q2⟩ := chars_pure (s.cps.toList.filter fun c => !lowC c)
        refine ⟨_, by rw [show (s.cps.toList.flatMap fun a => (match (D.str ⟨#[a]⟩ : D) with | .str z => if z.cps.toList.all lowC = true then [] else [D.str z] | _ => [])) = _ from e]; exact p_eqL q1 (by omega), ?_⟩
        have e3 : ((s.cps.toList.filter fun c => !lowC c).map fun c => D.str ⟨#[c]⟩).isEmpty = b := by
          rw [← hb]
          generalize s.cps.toList = cs
          induction cs with
          | nil => rfl
          | cons c cs ih =>
            rw [List.filter_cons, List.all_cons]
            cases hc : lowC c
            · simp
            · simpa using ih
        simp [e3]
    · rw [nameB_no c]
      by_cases c1 : (1 : Int) ≤ s.length
      · have c2 : ¬ (s.length : Int) ≤ 8 := by omega
        simp [fd_isname, env0, tyOf, p_len_s (show s.length ≤ lim by omega), prim, c1, c2]
      · simp [fd_isname, env0, tyOf, p_len_s (show s.length ≤ lim by omega), prim, c1]
  | _ => simp [fd_isname, env0, tyOf, nameB]
end
theorem two_items {xs : List D} (h : xs.length = 2) : ∃ a b, xs = [a, b] := by
  match xs, h with
  | [a, b], _ => exact ⟨a, b, rfl⟩
theorem boxB_no {xs : List D} (h : xs.length ≠ 2) : boxB (.tup xs) = false := by
  match xs, h with
  | [], _ => rfl
  | [_], _ => rfl
  | [_, _], h => exact absurd rfl h
  | _ :: _ :: _ :: _, _ => rfl
section
variable {T : Nat → Option Fd} {G : Nat → Option D}
theorem box_ok (h0 : T 0 = some fdfrom) (h1 : T 1 = some fdname) (h6 : T 6 = some fdbox) (hG8 : G 8 = some (.int 9)) (hG : G 9 = some (.str (Str.ofString "abcdefghijklmnopqrstuvwxyz"))) {x : D} {S : Store} {n : Nat} (hw : D.wt x ≤ 8000) :
    (callN T G (n + 2) 6 [x] S).sat fun d S' => S' = S ∧ d = .bl (boxB x) := by
  refine sat_call h6 rfl ?_
  cases x with
  | tup xs =>
    by_cases hl : xs.length = 2
    · obtain ⟨a, b, rfl⟩ := two_items hl
      have hw' : D.wt a ≤ 8000 := by simp only [D.wt, D.wts] at hw; omega
      simp [fdbox, env0, tyOf, boxB]
      refine ⟨a, rfl, ?_⟩
      refine (name_ok h1 hG hw').mono ?_
      rintro _ _ ⟨rfl, rfl⟩
      cases nameB a with
      | false => simp
      | true =>
        simp
        refine ⟨b, rfl, ?_⟩
        simp [hG8]
        refine (from_ok h0).mono ?_
        rintro _ _ ⟨rfl, rfl⟩
        simp
    · rw [boxB_no hl]
      have : ¬ (xs.length : Int) = 2 := by omega
      simp [fdbox, env0, tyOf, this]
  | _ => simp [fdbox, env0, tyOf, boxB]
theorem lbox_ok (h11 : T 11 = some fd_whole) (h18 : T 18 = some fd_from) (h19 : T 19 = some fd_isname) (h22 : T 22 = some fd_isbox) {x : D} {S : Store} {n : Nat} (hw : D.wt x ≤ 8000) :
    (callN T G (n + 3) 22 [x] S).sat fun d S' => S' = S ∧ d = .bl (boxB x) := by
  refine sat_call h22 rfl ?_
  cases x with
  | tup xs =>
    by_cases hl : xs.length = 2
    · obtain ⟨a, b, rfl⟩ := two_items hl
      have hw' : D.wt a ≤ 8000 := by simp only [D.wt, D.wts] at hw; omega
      simp [fd_isbox, env0, tyOf, boxB]
      refine ⟨a, rfl, ?_⟩
      refine (lname_ok h19 hw').mono ?_
      rintro _ _ ⟨rfl, rfl⟩
      cases nameB a with
      | false => simp
      | true =>
        simp
        refine ⟨b, rfl, ?_⟩
        refine (lfrom_ok h11 h18).mono ?_
        rintro _ _ ⟨rfl, rfl⟩
        simp
    · rw [boxB_no hl]
      have : ¬ (xs.length : Int) = 2 := by omega
      simp [fd_isbox, env0, tyOf, this]
  | _ => simp [fd_isbox, env0, tyOf, boxB]
end
end Q
/-! Q19: names and boxes, sets of names, lists in the store (all out of L10). -/
namespace Q
open PySem
def wOf : D → Int
  | .tup [_, .int w] => w
  | _ => 0
def nOf : D → Str
  | .tup [.str s, _] => s
  | _ => Str.empty
def itemsOf : D → List D
  | .tup xs => xs
  | _ => []
def namesOf (ss : List D) : List Str := ss.flatMap fun s => (itemsOf s).map nOf
theorem box_of {x : D} (h : boxB x = true) : x = .tup [.str (nOf x), .int (wOf x)] ∧ 1 ≤ wOf x ∧ wOf x ≤ 9 := by
  unfold boxB at h
  split at h
  · rename_i a b
    simp only [Bool.and_eq_true] at h
    cases a with
    | str s =>
      cases b with
      | int w =>
        obtain ⟨_, h⟩ := h
        simp only [inr, Bool.and_eq_true, decide_eq_true_eq] at h
        exact ⟨rfl, h⟩
      | _ => simp [inr] at h
    | _ => simp [nameB] at h
  · cases h
theorem p_ix1 {S : Store} {x : D} (h : boxB x = true) : prim2 S .ix x (.int 1) = some (.int (wOf x)) := by
  obtain ⟨e, _⟩ := box_of h
  rw [e]
  rfl
theorem p_ix0 {S : Store} {x : D} (h : boxB x = true) : prim2 S .ix x (.int 0) = some (.str (nOf x)) := by
  obtain ⟨e, _⟩ := box_of h
  rw [e]
  rfl
theorem zip_mem {p : D} : ∀ {xs ys : List D}, p ∈ List.zipWith (fun a b => D.tup [a, b]) xs ys → ∃ a b, a ∈ xs ∧ b ∈ ys ∧ p = .tup [a, b]
  | [], _, h => by simp at h
  | _ :: _, [], h => by simp at h
  | x :: xs, y :: ys, h => by
    rw [List.zipWith_cons_cons] at h
    rcases List.mem_cons.mp h with rfl | h
    · exact ⟨x, y, List.mem_cons_self, List.mem_cons_self, rfl⟩
    · obtain ⟨a, b, ha, hb, e⟩ := zip_mem h
      exact ⟨a, b, List.mem_cons_of_mem _ ha, List.mem_cons_of_mem _ hb, e⟩
theorem strL_map (ss : List Str) : strL (ss.map D.str) = some ss := by
  induction ss with
  | nil => rfl
  | cons s ss ih => simp [strL, ih]
theorem p_lset {S : Store} {ss : List Str} (h : ss.length ≤ 4000) : prim1 S .lset (.lst (ss.map .str)) = some (.int (nubS ss).length) := by
  show ((lstOf S (.lst (ss.map D.str))).bind strL).bind _ = _
  show (strL (ss.map D.str)).bind _ = _
  rw [strL_map]
  show (if ss.length ≤ 4000 then some (D.int (nubS ss).length) else none) = _
  rw [if_pos h]
theorem p_ssetS {S : Store} {ss : List Str} (h : ss.length ≤ 4000) : prim1 S .ssetS (.lst (ss.map .str)) = some (.lst (((nubS ss).mergeSort leTx).map .str)) := by
  show ((lstOf S (.lst (ss.map D.str))).bind strL).bind _ = _
  show (strL (ss.map D.str)).bind _ = _
  rw [strL_map]
  show (if ss.length ≤ 4000 then some (D.lst (((nubS ss).mergeSort leTx).map .str)) else none) = _
  rw [if_pos h]
theorem strs_pure (ss : List Str) : D.pures (ss.map D.str) = true ∧ D.deps (ss.map D.str) = 0 := by
  induction ss with
  | nil => exact ⟨rfl, rfl⟩
  | cons c cs ih => simp [D.pures, D.deps, D.pure, D.dep, ih]
theorem pys_strs (ss : List Str) : D.pys (ss.map D.str) = ss.map PyData.str := by
  induction ss with
  | nil => rfl
  | cons c cs ih => simp [D.pys, D.py, ih]
theorem p_srtS {S : Store} {ss : List Str} : prim1 S .srt (.lst (ss.map .str)) = some (.lst ((ss.mergeSort leTx).map .str)) := by
  show srtD (ss.map D.str) = _
  obtain ⟨q1, q2⟩ := strs_pure ss
  unfold srtD
  have e : (D.pures (ss.map D.str) && alikeB (D.pys (ss.map D.str)) && sortB (D.pys (ss.map D.str)) && decide (D.deps (ss.map D.str) ≤ 60)) = true := by
    rw [q1, q2, pys_strs]
    have a1 : alikeB (ss.map PyData.str) = true := by
      unfold alikeB
      simp [PySem.W.alike]
    have a2 : sortB (ss.map PyData.str) = true := by
      unfold sortB
      simp [flatB]
    rw [a1, a2]
    rfl
  rw [if_pos e]
  have e2 : PySem.W.dataLe false D.py = PySem.W.dataLe false D.py := rfl
  rw [← List.map_mergeSort (f := D.str) (r := leTx) (s := PySem.W.dataLe false D.py) (fun a _ b _ => ?_)]
  have := congrFun (congrFun (PySem.W.dataLe_str (fun s : Str => s)) a) b
  exact this.symm
theorem eqDs_strs : ∀ (xs ys : List Str), eqDs (xs.map D.str) (ys.map D.str) = decide (xs = ys)
  | [], [] => by simp [eqDs]
  | [], _ :: _ => by simp [eqDs]
  | _ :: _, [] => by simp [eqDs]
  | x :: xs, y :: ys => by
    rw [List.map_cons, List.map_cons, eqDs, eqD, eqDs_strs xs ys]
    by_cases h1 : x = y <;> by_cases h2 : xs = ys <;> simp [h1, h2]
theorem p_eqStrs {S : Store} {xs ys : List Str} : prim2 S .eq (.lst (xs.map .str)) (.lst (ys.map .str)) = some (.bl (decide (xs = ys))) := by
  show (eqP S (.lst (xs.map .str)) (.lst (ys.map .str))).map (fun b => D.bl b) = _
  unfold eqP
  obtain ⟨a1, a2⟩ := strs_pure xs
  obtain ⟨b1, b2⟩ := strs_pure ys
  have e : okEq (deref S (.lst (xs.map .str))) (deref S (.lst (ys.map .str))) = true := by
    simp [okEq, deref, D.pure, a1, b1, D.dep, a2, b2]
  rw [if_pos e]
  show some (D.bl (eqDs (xs.map D.str) (ys.map D.str))) = _
  rw [eqDs_strs]
theorem sorted_nodup {ss : List Str} : (nubS ss).mergeSort leTx = ss.mergeSort leTx ↔ ss.Nodup := by
  constructor
  · intro h
    have := congrArg List.length h
    rw [List.length_mergeSort, List.length_mergeSort] at this
    exact nub_len.mp this
  · intro h
    rw [nub_id h]
theorem flatMap_strs (xs : List D) (f : D → List Str) : (xs.flatMap fun x => (f x).map D.str) = (xs.flatMap f).map D.str := by
  rw [List.map_flatMap]
theorem names_app (a b : List D) : namesOf (a ++ b) = namesOf a ++ namesOf b := by
  unfold namesOf
  rw [List.flatMap_append]
theorem filt_pure {xs : List D} {p : D → Bool} {m w d : Nat} (h : Ths m w d xs) : D.pures (xs.filter p) = true ∧ D.deps (xs.filter p) ≤ d := by
  have := h.sub (List.filter_sublist (p := p) (l := xs))
  exact ⟨this.pure, this.dep⟩
theorem p_last {S : Store} {xs : List D} (h : xs ≠ []) : prim2 S .ix (.tup xs) (.int (-1)) = some (xs.getLastD .non) := by
  have hl : 0 < xs.length := List.length_pos_iff.mpr h
  rw [p_ix_t (n := xs.length - 1) (by unfold ixAt; rw [if_neg (by decide), if_pos (by omega)]; congr 1; omega)]
  rw [List.getLastD_eq_getLast?, List.getLast?_eq_getElem?, List.getElem?_eq_getElem (by omega)]
  rfl
theorem last_mem {xs : List D} (h : xs ≠ []) : xs.getLastD .non ∈ xs := by
  rw [List.getLastD_eq_getLast?, List.getLast?_eq_getLast h]
  exact List.getLast_mem h
theorem boxes_pure {xs : List D} (h : ∀ y ∈ xs, boxB y = true) : D.pures xs = true ∧ D.deps xs ≤ 1 := by
  induction xs with
  | nil => exact ⟨rfl, Nat.zero_le _⟩
  | cons x xs ih =>
    obtain ⟨a, b⟩ := ih fun y hy => h y (List.mem_cons_of_mem _ hy)
    obtain ⟨e, _⟩ := box_of (h x List.mem_cons_self)
    constructor
    · rw [D.pures, a, e]; rfl
    · rw [D.deps, e]
      exact Nat.max_le.mpr ⟨Nat.le_refl _, b⟩
theorem box_th {x : D} (h : boxB x = true) : Th 9 14 1 x := by
  have hx := h
  obtain ⟨e, h1, h2⟩ := box_of h
  have hn : (nOf x).length ≤ 8 := by
    rw [e] at hx
    simp only [boxB, nameB, Bool.and_eq_true, decide_eq_true_eq] at hx
    exact hx.1.1.2
  rw [e]
  refine ⟨?_, ?_, ?_⟩
  · simp only [D.fit, D.fits, Bool.and_true, Bool.true_and, decide_eq_true_eq]
    omega
  · simp only [D.wt, D.wts]
    omega
  · simp [D.dep, D.deps]
theorem boxes_th : ∀ {xs : List D}, (∀ y ∈ xs, boxB y = true) → Ths 9 (15 * xs.length) 1 xs
  | [], _ => Ths.nil
  | x :: xs, h => by
    have := Ths.cons (box_th (h x List.mem_cons_self)) (boxes_th fun y hy => h y (List.mem_cons_of_mem _ hy))
    refine this.mono (Nat.le_refl _) ?_ (Nat.le_refl _)
    rw [List.length_cons]; omega
theorem nx_split {r : Nat} {A B S' : Store} (h : Nx r (A ++ B) S') (hr : r < A.length) : ∃ A', S' = A' ++ B ∧ Nx r A A' := by
  have hlen : S'.length = A.length + B.length := by rw [h.len, List.length_append]
  refine ⟨S'.take A.length, ?_, ?_, ?_⟩
  · have e : S'.drop A.length = B := by
      apply List.ext_getElem?
      intro i
      rw [List.getElem?_drop, h.get (A.length + i) (by omega), List.getElem?_append_right (by omega)]
      congr 1
      omega
    rw [← e, List.take_append_drop]
  · rw [List.length_take]; omega
  · intro j hj
    by_cases hjl : j < A.length
    · rw [List.getElem?_take, if_pos hjl, h.get j hj, List.getElem?_append_left hjl]
    · rw [List.getElem?_eq_none (by rw [List.length_take]; omega), List.getElem?_eq_none (by omega)]
theorem dk_left {r m : Nat} {A B : Store} (h : Dk (A ++ B) r m) (hr : r < A.length) : Dk A r m := by
  obtain ⟨a, b, c, e, h1⟩ := h.ex
  rw [List.getElem?_append_left hr] at e
  exact ⟨a, b, c, e, h1.1, h1.2.1, h1.2.2.1, h1.2.2.2⟩
theorem dk_app {r m : Nat} {A B : Store} (h : Dk A r m) : Dk (A ++ B) r m := by
  have hr := h.lt
  obtain ⟨a, b, c, e, h1⟩ := h.ex
  exact ⟨a, b, c, by rw [List.getElem?_append_left hr]; exact e, h1.1, h1.2.1, h1.2.2.1, h1.2.2.2⟩
def NoRef (S : Store) : Prop := ∀ (j : Nat) (o : Ob), S[j]? = some o → ∃ xs, o = Ob.lst xs ∧ D.pures xs = true
theorem NoRef.nx {r m : Nat} {S S' : Store} (h : NoRef S) (n : Nx r S S') (d : Dk S' r m) : NoRef S' := by
  intro j o e
  by_cases hj : j = r
  · subst hj
    obtain ⟨a, b, c, e2, _⟩ := d.ex
    rw [e2] at e
    cases e
    exact ⟨_, rfl, rfl⟩
  · rw [n.get j hj] at e
    exact h j o e
theorem pure_under : (∀ (x : D) (n : Nat), D.pure x = true → D.under n x = true) ∧ ∀ (xs : List D) (n : Nat), D.pures xs = true → D.unders n xs = true := by
  refine ⟨fun x n => ?_, fun xs n => ?_⟩
  · exact D.rec (motive_1 := fun x => D.pure x = true → D.under n x = true) (motive_2 := fun xs => D.pures xs = true → D.unders n xs = true) (fun _ => rfl) (fun _ _ => rfl) (fun _ _ => rfl) (fun _ _ => rfl) (fun _ ih h => ih h) (fun _ ih h => ih h) (fun _ h => by cases h) (fun _ => rfl) (fun x xs h1 h2 h => by
      simp only [D.pures, Bool.and_eq_true] at h
      simp only [D.unders, h1 h.1, h2 h.2, Bool.and_self]) x
  · exact D.rec_1 (motive_1 := fun x => D.pure x = true → D.under n x = true) (motive_2 := fun xs => D.pures xs = true → D.unders n xs = true) (fun _ => rfl) (fun _ _ => rfl) (fun _ _ => rfl) (fun _ _ => rfl) (fun _ ih h => ih h) (fun _ ih h => ih h) (fun _ h => by cases h) (fun _ => rfl) (fun x xs h1 h2 h => by
      simp only [D.pures, Bool.and_eq_true] at h
      simp only [D.unders, h1 h.1, h2 h.2, Bool.and_self]) xs
theorem NoRef.under {S : Store} (h : NoRef S) (n : Nat) : S.all (Ob.under n) = true := by
  rw [List.all_eq_true]
  intro o ho
  obtain ⟨j, hj⟩ := List.getElem?_of_mem ho
  obtain ⟨xs, rfl, hp⟩ := h j o hj
  exact pure_under.2 xs n hp
def refsD (b n : Nat) : List D := (List.range n).map fun j => .ref (b + j)
theorem flat_mk {f : D → Store → Rs (List D)} (hf : ∀ x S, f x S = .ok [.ref S.length] (S ++ [.lst []])) : ∀ (xs : List D) (S : Store), flat f xs S = .ok (refsD S.length xs.length) (S ++ List.replicate xs.length (.lst []))
  | [], S => by simp [flat, refsD]
  | x :: xs, S => by
    unfold flat
    rw [hf, Rs.bind_ok, flat_mk hf xs, Rs.bind_ok]
    congr 1
    · simp only [refsD, List.length_cons, List.range_succ_eq_map, List.map_cons, List.map_map, List.length_append, List.length_nil, List.singleton_append, Nat.add_zero]
      congr 1
      refine List.map_congr_left fun j _ => ?_
      simp only [Function.comp]
      congr 1
      omega
    · rw [List.length_cons, List.replicate_succ, List.append_assoc]
      rfl
theorem p_ix_refs {S : Store} {b n j : Nat} (h : j < n) : prim2 S .ix (.lst (refsD b n)) (.int (j : Int)) = some (.ref (b + j)) := by
  have hl : (refsD b n).length = n := by simp [refsD]
  rw [p_ix_l (n := j) (by unfold ixAt; rw [if_pos (by omega), hl, if_pos (by omega)]; rfl)]
  simp [refsD, h]
theorem lst_at {A : Store} {ys : List (List D)} {b j : Nat} (hb : A.length = b) (hj : j < ys.length) : (A ++ ys.map Ob.lst)[b + j]? = some (.lst ys[j]) := by
  rw [List.getElem?_append_right (by omega)]
  have : b + j - A.length = j := by omega
  rw [this, List.getElem?_map, List.getElem?_eq_getElem hj]
  rfl
theorem p_neR {S : Store} {k : Nat} {xs : List D} (e : S[k]? = some (.lst xs)) (h : D.pures xs = true) (h2 : D.deps xs ≤ 60) : prim2 S .ne (.ref k) (.lst []) = some (.bl (!xs.isEmpty)) := by
  show (eqP S (.ref k) (.lst [])).map (fun b => D.bl (!b)) = _
  have e0 : deref S (.ref k) = .lst xs := by
    show (match S[k]? with
      | some (.lst xs) => D.lst xs
      | none => .ref k) = _
    rw [e]
  unfold eqP
  rw [e0]
  have e2 : okEq (.lst xs) (deref S (.lst [])) = true := by
    simp [okEq, deref, D.pure, h, D.pures, D.dep, D.deps]
    omega
  rw [if_pos e2]
  show some (D.bl (!eqDs xs [])) = _
  cases xs <;> rfl
theorem p_lastR {S : Store} {k : Nat} {xs : List D} (e : S[k]? = some (.lst xs)) (h : xs ≠ []) : prim2 S .ix (.ref k) (.int (-1)) = some (xs.getLastD .non) := by
  have hl : 0 < xs.length := List.length_pos_iff.mpr h
  rw [p_ix_r (n := xs.length - 1) e (by unfold ixAt; rw [if_neg (by decide), if_pos (by omega)]; congr 1; omega)]
  rw [List.getLastD_eq_getLast?, List.getLast?_eq_getElem?, List.getElem?_eq_getElem (by omega)]
  rfl
theorem p_lenR {S : Store} {k : Nat} {xs : List D} (e : S[k]? = some (.lst xs)) : prim1 S .len (.ref k) = some (.int xs.length) := by
  show lenD S (.ref k) = _
  show (seqOf S (.ref k)).map _ = _
  have : seqOf S (.ref k) = some xs := by
    show (match S[k]? with
      | some (.lst xs) => some xs
      | none => none) = _
    rw [e]
  rw [this]
  rfl
theorem p_tupR {S : Store} {k : Nat} {xs : List D} (e : S[k]? = some (.lst xs)) : prim1 S .toTup (.ref k) = some (.tup xs) := by
  show (seqOf S (.ref k)).map _ = _
  have : seqOf S (.ref k) = some xs := by
    show (match S[k]? with
      | some (.lst xs) => some xs
      | none => none) = _
    rw [e]
  rw [this]
  rfl
theorem dk_new {S : Store} {a b : Int} {turn m : Int} (h0 : 0 ≤ turn) (h1 : turn ≤ 1000) : Dk (S ++ [.lst [.int a, .int (b % 2147483579), .int turn]]) S.length 900000000 :=
  ⟨a, b % 2147483579, turn, by rw [List.getElem?_append_right (Nat.le_refl _), Nat.sub_self]; rfl, Int.emod_nonneg _ (by decide), Int.emod_lt_of_pos _ (by decide), h0, by omega⟩
theorem NoRef.snoc {S : Store} {a b c : Int} (h : NoRef S) : NoRef (S ++ [.lst [.int a, .int b, .int c]]) := by
  intro j o e
  by_cases hj : j < S.length
  · rw [List.getElem?_append_left hj] at e
    exact h j o e
  · rw [List.getElem?_append_right (by omega)] at e
    have := List.mem_of_getElem? e
    rw [List.mem_singleton.mp this]
    exact ⟨_, rfl, rfl⟩
theorem p_mulT {S : Store} {xs : List D} {k : Int} (h : repN xs.length k = true) : prim2 S .mul (.tup xs) (.int k) = some (.tup (List.replicate k.toNat xs).flatten) := by
  show (if repN xs.length k = true then some (D.tup (List.replicate k.toNat xs).flatten) else none) = _
  rw [if_pos h]
theorem p_sumI {S : Store} {ks : List Int} : prim1 S .sum (.lst (ks.map .int)) = some (.int ks.sum) := by
  show ((lstOf S (.lst (ks.map D.int))).bind intL).map (fun bs => D.int bs.sum) = _
  show (intL (ks.map D.int)).map (fun bs => D.int bs.sum) = _
  rw [intL_map]
  rfl
end Q
/-! Q20: the work of cranes. -/
namespace Q
open PySem
def fdbusiest : Fd := ⟨2, 5, false, (.cons (.asg (.name 2) (.srtL 0 (.lc [3, 4] (.tup (.cons (.name 3) (.cons (.name 4) .nil))) (.enum (.var 0)) (.op .gt (.cons (.var 4) (.cons (.cst (.int 0)) .nil))) (.var 3)))) (.cons (.ret (.op .toTup (.cons (.op .srt (.cons (.op .slH (.cons (.var 2) (.cons (.var 1) .nil))) .nil)) .nil))) .nil))⟩
def fdwork : Fd := ⟨2, 8, true, (.cons (.asg (.name 2) (.lc [5] (.name 5) (.seq (.var 0)) (.cst (.bl true)) (.op .len (.cons (.var 5) .nil)))) (.cons (.own 3 (.lst .nil)) (.cons (.while_ (.op .gt (.cons (.op .sum (.cons (.var 2) .nil)) (.cons (.cst (.int 0)) .nil))) (.cons (.asg (.name 4) (.call 35 (.cons (.var 2) (.cons (.var 1) .nil)))) (.cons (.app 3 (.var 4)) (.cons (.asg (.name 2) (.lc [6, 7] (.tup (.cons (.name 6) (.cons (.name 7) .nil))) (.enum (.var 2)) (.cst (.bl true)) (.op .sub (.cons (.var 7) (.cons (.op .toInt (.cons (.op .inn (.cons (.var 6) (.cons (.var 4) .nil))) .nil)) .nil))))) .nil)))) (.cons (.retO 3) .nil))))⟩
def fdis_turn : Fd := ⟨3, 4, false, (.cons (.ife (.or (.not (.op (.isi [.tuple]) (.cons (.var 2) .nil))) (.not (.chain .le .le (.cst (.int 1)) (.op .len (.cons (.var 2) .nil)) (.var 1)))) (.cons (.ret (.cst (.bl false))) .nil) .nil) (.cons (.ife (.not (.op .all (.cons (.lc [3] (.name 3) (.seq (.var 2)) (.cst (.bl true)) (.and (.op (.isi [.int]) (.cons (.var 3) .nil)) (.not (.op (.isi [.bool]) (.cons (.var 3) .nil))))) .nil))) (.cons (.ret (.cst (.bl false))) .nil) .nil) (.cons (.ret (.and (.op .eq (.cons (.op .toLst (.cons (.var 2) .nil)) (.cons (.op .sset (.cons (.var 2) .nil)) .nil))) (.op .all (.cons (.lc [3] (.name 3) (.seq (.var 2)) (.cst (.bl true)) (.chain .le .lt (.cst (.int 0)) (.var 3) (.op .len (.cons (.var 0) .nil)))) .nil)))) .nil)))⟩
def fdis_work : Fd := ⟨3, 8, false, (.cons (.ife (.or (.not (.op (.isi [.list]) (.cons (.var 2) .nil))) (.not (.op .all (.cons (.lc [4] (.name 4) (.seq (.var 2)) (.cst (.bl true)) (.call 52 (.cons (.var 0) (.cons (.var 1) (.cons (.var 4) .nil))))) .nil)))) (.cons (.ret (.cst (.bl false))) .nil) .nil) (.cons (.asg (.name 3) (.lc2 [4, 5] [5] (.name 4) (.seq (.var 2)) (.cst (.bl true)) (.name 5) (.seq (.var 4)) (.cst (.bl true)) (.var 5))) (.cons (.ret (.op .all (.cons (.lc [6, 7] (.tup (.cons (.name 6) (.cons (.name 7) .nil))) (.enum (.var 0)) (.cst (.bl true)) (.op .eq (.cons (.op .cnt (.cons (.var 3) (.cons (.var 6) .nil))) (.cons (.op .len (.cons (.var 7) .nil)) .nil)))) .nil))) .nil)))⟩
def fdwhy : Fd := ⟨2, 5, false, (.cons (.asg (.name 2) (.op .len (.cons (.call 36 (.cons (.var 0) (.cons (.var 1) .nil))) .nil))) (.cons (.for_ (.tup (.cons (.name 3) (.cons (.name 4) .nil))) (.enum (.var 0)) (.cons (.ife (.op .eq (.cons (.op .len (.cons (.var 4) .nil)) (.cons (.var 2) .nil))) (.cons (.ret (.tup (.cons (.cst (.str (Str.ofString "bay"))) (.cons (.var 3) .nil)))) .nil) .nil) .nil)) (.cons (.ret (.tup (.cons (.cst (.str (Str.ofString "all"))) .nil))) .nil)))⟩
/-! ### sums over places -/
theorem sum_le_cnt {α : Type} (f : α → Int) (q : α → Bool) (B : Int) : ∀ l : List α, (∀ x ∈ l, f x ≤ if q x = true then B else 0) → (l.map f).sum ≤ B * (l.countP q : Nat)
  | [], _ => by simp
  | x :: l, h => by
    have ih := sum_le_cnt f q B l fun y hy => h y (List.mem_cons_of_mem _ hy)
    have h1 := h x List.mem_cons_self
    rw [List.map_cons, List.sum_cons, List.countP_cons]
    by_cases hq : q x = true
    · rw [if_pos hq] at h1
      rw [if_pos hq]
      have : B * ((List.countP q l + 1 : Nat) : Int) = B * (List.countP q l : Nat) + B := by push_cast; rw [Int.mul_add, Int.mul_one]
      omega
    · rw [if_neg hq] at h1
      rw [if_neg hq, Nat.add_zero]
      omega
theorem cnt_le_sum {α : Type} (f : α → Int) (q : α → Bool) (B : Int) : ∀ l : List α, (∀ x ∈ l, (if q x = true then B else 0) ≤ f x) → B * (l.countP q : Nat) ≤ (l.map f).sum
  | [], _ => by simp
  | x :: l, h => by
    have ih := cnt_le_sum f q B l fun y hy => h y (List.mem_cons_of_mem _ hy)
    have h1 := h x List.mem_cons_self
    rw [List.map_cons, List.sum_cons, List.countP_cons]
    by_cases hq : q x = true
    · rw [if_pos hq] at h1
      rw [if_pos hq]
      have : B * ((List.countP q l + 1 : Nat) : Int) = B * (List.countP q l : Nat) + B := by push_cast; rw [Int.mul_add, Int.mul_one]
      omega
    · rw [if_neg hq] at h1
      rw [if_neg hq, Nat.add_zero]
      omega
theorem sum_sub {α : Type} (f : α → Int) (q : α → Bool) : ∀ l : List α, (l.map fun x => f x - if q x = true then 1 else 0).sum = (l.map f).sum - (l.countP q : Nat)
  | [] => by simp
  | x :: l => by
    have ih := sum_sub f q l
    rw [List.map_cons, List.sum_cons, List.map_cons, List.sum_cons, List.countP_cons, ih]
    by_cases hq : q x = true <;> simp [hq] <;> omega
theorem range_map (xs : List Int) : xs = (List.range xs.length).map fun i => xs.getD i 0 := by
  apply List.ext_getElem
  · simp
  · intro i h1 h2
    simp [List.getD_eq_getElem?_getD, List.getElem?_eq_getElem h1]
theorem sum_range (xs : List Int) : xs.sum = ((List.range xs.length).map fun i => xs.getD i 0).sum := by
  rw [← range_map]

/-! ### the turns of cranes -/
/-- the places of bays with boxes left -/
def posOf (left : List Int) : List Nat := (List.range left.length).filter fun i => decide (0 < left.getD i 0)
def leKN (left : List Int) (a b : Nat) : Bool := leKey left (a : Int) (b : Int)
def ordOf (left : List Int) : List Nat := (posOf left).mergeSort (leKN left)
def leN (a b : Nat) : Bool := decide (a ≤ b)
def turnL (left : List Int) (c : Nat) : List Nat := ((ordOf left).take c).mergeSort leN
def stepL (left : List Int) (ts : List Nat) : List Int := (List.range left.length).map fun i => left.getD i 0 - if decide (i ∈ ts) = true then 1 else 0
def workN (c : Nat) : Nat → List Int → List (List Nat)
  | 0, _ => []
  | n + 1, left => if 0 < left.sum then turnL left c :: workN c n (stepL left (turnL left c)) else []
def Nn (left : List Int) : Prop := ∀ x ∈ left, 0 ≤ x
theorem leKN_iff {left : List Int} {a b : Nat} : leKN left a b = true ↔ left.getD b 0 < left.getD a 0 ∨ (left.getD a 0 = left.getD b 0 ∧ a ≤ b) := by
  unfold leKN leKey
  rw [decide_eq_true_eq, Int.toNat_natCast, Int.toNat_natCast]
  omega
theorem leKN_trans (left : List Int) : ∀ a b c : Nat, leKN left a b = true → leKN left b c = true → leKN left a c = true := fun a b c h1 h2 => by
  rw [leKN_iff] at *
  omega
theorem leKN_total (left : List Int) : ∀ a b : Nat, (leKN left a b || leKN left b a) = true := fun a b => by
  rw [Bool.or_eq_true, leKN_iff, leKN_iff]
  omega
theorem leN_trans : ∀ a b c : Nat, leN a b = true → leN b c = true → leN a c = true := fun a b c h1 h2 => by
  unfold leN at *
  rw [decide_eq_true_eq] at *
  omega
theorem leN_total : ∀ a b : Nat, (leN a b || leN b a) = true := fun a b => by
  unfold leN
  rw [Bool.or_eq_true, decide_eq_true_eq, decide_eq_true_eq]
  omega
theorem mem_pos {left : List Int} {i : Nat} : i ∈ posOf left ↔ i < left.length ∧ 0 < left.getD i 0 := by
  unfold posOf
  rw [List.mem_filter, List.mem_range, decide_eq_true_eq]
theorem mem_ord {left : List Int} {i : Nat} : i ∈ ordOf left ↔ i ∈ posOf left := by
  unfold ordOf
  rw [List.mem_mergeSort]
theorem pos_nodup (left : List Int) : (posOf left).Nodup := List.Pairwise.filter _ List.nodup_range
theorem ord_nodup (left : List Int) : (ordOf left).Nodup := (List.mergeSort_perm _ _).nodup_iff.mpr (pos_nodup left)
theorem ord_len (left : List Int) : (ordOf left).length = (posOf left).length := List.length_mergeSort _
theorem ord_sorted (left : List Int) : (ordOf left).Pairwise fun a b => leKN left a b = true := List.pairwise_mergeSort (leKN_trans left) (leKN_total left) _
theorem mem_turn {left : List Int} {c i : Nat} : i ∈ turnL left c ↔ i ∈ (ordOf left).take c := by
  unfold turnL
  rw [List.mem_mergeSort]
theorem turn_pos {left : List Int} {c i : Nat} (h : i ∈ turnL left c) : i < left.length ∧ 0 < left.getD i 0 := mem_pos.mp (mem_ord.mp (List.mem_of_mem_take (mem_turn.mp h)))
theorem turn_nodup (left : List Int) (c : Nat) : (turnL left c).Nodup := (List.mergeSort_perm _ _).nodup_iff.mpr ((ord_nodup left).sublist (List.take_sublist _ _))
theorem turn_len (left : List Int) (c : Nat) : (turnL left c).length = min c (posOf left).length := by
  unfold turnL
  rw [List.length_mergeSort, List.length_take, ord_len]
theorem turn_sorted (left : List Int) (c : Nat) : (turnL left c).Pairwise (· < ·) := by
  have h1 : (turnL left c).Pairwise fun a b => leN a b = true := List.pairwise_mergeSort leN_trans leN_total _
  have h2 : (turnL left c).Pairwise (· ≠ ·) := turn_nodup left c
  refine (h1.and h2).imp fun {a b} h => ?_
  unfold leN at h
  rw [decide_eq_true_eq] at h
  omega
/-- who is not taken has no more than who is -/
theorem turn_best {left : List Int} {c p q : Nat} (hp : p ∈ turnL left c) (hq : q ∈ posOf left) (hn : q ∉ turnL left c) : left.getD q 0 ≤ left.getD p 0 := by
  rw [mem_turn] at hp hn
  have hqo := mem_ord.mpr hq
  have hs := ord_sorted left
  rw [← List.take_append_drop c (ordOf left)] at hs hqo
  have hqd : q ∈ (ordOf left).drop c := (List.mem_append.mp hqo).resolve_left hn
  have := (List.pairwise_append.mp hs).2.2 p hp q hqd
  rw [leKN_iff] at this
  omega
theorem cnt_mem {ts : List Nat} {n : Nat} (hd : ts.Nodup) (h : ∀ t ∈ ts, t < n) : (List.range n).countP (fun i => decide (i ∈ ts)) = ts.length := by
  rw [List.countP_eq_length_filter]
  have : ((List.range n).filter fun i => decide (i ∈ ts)).Perm ts := by
    refine (List.perm_ext_iff_of_nodup (List.Pairwise.filter _ List.nodup_range) hd).mpr fun a => ?_
    rw [List.mem_filter, List.mem_range, decide_eq_true_eq]
    exact ⟨fun x => x.2, fun x => ⟨h a x, x⟩⟩
  exact this.length_eq
theorem step_len (left : List Int) (ts : List Nat) : (stepL left ts).length = left.length := by simp [stepL]
theorem step_get {left : List Int} {ts : List Nat} {i : Nat} (h : i < left.length) : (stepL left ts).getD i 0 = left.getD i 0 - if i ∈ ts then 1 else 0 := by
  unfold stepL
  rw [List.getD_eq_getElem?_getD, List.getElem?_map, List.getElem?_range h]
  simp
theorem step_sum {left : List Int} {ts : List Nat} (hd : ts.Nodup) (h : ∀ t ∈ ts, t < left.length) : (stepL left ts).sum = left.sum - (ts.length : Nat) := by
  unfold stepL
  rw [sum_sub (fun i => left.getD i 0) (fun i => decide (i ∈ ts)), cnt_mem hd h, ← sum_range]
theorem nn_get {left : List Int} (h : Nn left) (i : Nat) : 0 ≤ left.getD i 0 := by
  rw [List.getD_eq_getElem?_getD]
  cases e : left[i]? with
  | none => exact Int.le_refl _
  | some x => exact h x (List.mem_of_getElem? e)
theorem step_nn {left : List Int} {c : Nat} (h : Nn left) : Nn (stepL left (turnL left c)) := fun x hx => by
  unfold stepL at hx
  obtain ⟨i, hi, rfl⟩ := List.mem_map.mp hx
  have h1 := nn_get h i
  by_cases ht : i ∈ turnL left c
  · have := (turn_pos ht).2
    simp [ht]
    simp at this
    omega
  · simpa [ht] using h1
theorem sum_nn : ∀ {left : List Int}, Nn left → 0 ≤ left.sum
  | [], _ => Int.le_refl _
  | x :: l, h => by
    have := sum_nn (left := l) fun y hy => h y (List.mem_cons_of_mem _ hy)
    have := h x List.mem_cons_self
    rw [List.sum_cons]; omega
theorem mem_sum : ∀ {left : List Int} {x : Int}, Nn left → x ∈ left → x ≤ left.sum
  | y :: l, x, h, hx => by
    have h1 := sum_nn (left := l) fun y hy => h y (List.mem_cons_of_mem _ hy)
    have h2 := h y List.mem_cons_self
    rw [List.sum_cons]
    rcases List.mem_cons.mp hx with e | e
    · omega
    · have := mem_sum (left := l) (fun y hy => h y (List.mem_cons_of_mem _ hy)) e
      omega
theorem pos_some {left : List Int} (h : Nn left) (hs : 0 < left.sum) : 0 < (posOf left).length := by
  rcases Nat.eq_zero_or_pos (posOf left).length with e | e
  · exfalso
    have e := List.eq_nil_of_length_eq_zero e
    have hz : ∀ i, i < left.length → left.getD i 0 = 0 := fun i hi => by
      have h1 := nn_get h i
      have h2 : ¬ i ∈ posOf left := by rw [e]; simp
      rw [mem_pos] at h2
      omega
    have := sum_le_cnt (fun i => left.getD i 0) (fun _ => false) 0 (List.range left.length) fun i hi => by
      rw [hz i (List.mem_range.mp hi)]; simp
    rw [← sum_range] at this
    omega
  · exact e
/-- what may be done in M hours -/
def Fit (c : Nat) (left : List Int) (M : Int) : Prop := (∀ x ∈ left, x ≤ M) ∧ left.sum ≤ c * M
theorem fit_step {c : Nat} {left : List Int} {M : Int} (hn : Nn left) (hc : 1 ≤ c) (hs : 0 < left.sum) (h : Fit c left M) : Fit c (stepL left (turnL left c)) (M - 1) := by
  obtain ⟨h1, h2⟩ := h
  have hg : ∀ i, i < left.length → left.getD i 0 ≤ M := fun i hi => by
    rw [List.getD_eq_getElem?_getD, List.getElem?_eq_getElem hi]
    exact h1 _ (List.getElem_mem hi)
  have hp := pos_some hn hs
  obtain ⟨p0, hp0⟩ := List.exists_mem_of_length_pos hp
  have hp0' := mem_pos.mp hp0
  have hM : 1 ≤ M := by have := hg p0 hp0'.1; omega
  have hl := turn_len left c
  have hsum := step_sum (turn_nodup left c) (fun t ht => (turn_pos ht).1)
  have hall : (posOf left).length ≤ c → ∀ i, i ∈ posOf left → i ∈ turnL left c := fun hk i hi => by
    rw [mem_turn, List.take_of_length_le (by rw [ord_len]; exact hk)]
    exact mem_ord.mpr hi
  refine ⟨fun x hx => ?_, ?_⟩
  · unfold stepL at hx
    obtain ⟨i, hi, rfl⟩ := List.mem_map.mp hx
    have hi := List.mem_range.mp hi
    have h3 := hg i hi
    by_cases ht : i ∈ turnL left c
    · simp [ht]
      simp at h3
      omega
    · simp only [ht, decide_false, Bool.false_eq_true, if_false, Int.sub_zero]
      by_cases hpos : i ∈ posOf left
      · -- cranes are all at work, on bays of no less
        rcases Nat.lt_or_ge c (posOf left).length with hk | hk
        · rcases Int.lt_or_le (left.getD i 0) M with hlt | hge
          · omega
          · exfalso
            have hci : (i :: turnL left c).Nodup := List.nodup_cons.mpr ⟨ht, turn_nodup left c⟩
            have hsub : (i :: turnL left c) ⊆ (List.range left.length).filter fun j => decide (M ≤ left.getD j 0) := fun j hj => by
              rw [List.mem_filter, List.mem_range, decide_eq_true_eq]
              rcases List.mem_cons.mp hj with e | e
              · exact e ▸ ⟨hi, hge⟩
              · refine ⟨(turn_pos e).1, ?_⟩
                have := turn_best e hpos ht
                omega
            have hlen := List.Nodup.length_le_of_subset hci hsub
            rw [List.length_cons, hl, Nat.min_eq_left (Nat.le_of_lt hk), ← List.countP_eq_length_filter] at hlen
            have hb := cnt_le_sum (fun j => left.getD j 0) (fun j => decide (M ≤ left.getD j 0)) M (List.range left.length) fun j hj => by
              by_cases hq : M ≤ left.getD j 0
              · rw [if_pos (decide_eq_true hq)]; exact hq
              · rw [if_neg (by simpa using hq)]; exact nn_get hn j
            rw [← sum_range] at hb
            have hm : M * ((c + 1 : Nat) : Int) ≤ M * ((List.range left.length).countP fun j => decide (M ≤ left.getD j 0) : Nat) := Int.mul_le_mul_of_nonneg_left (by exact_mod_cast hlen) (by omega)
            have e1 : M * ((c + 1 : Nat) : Int) = c * M + M := by push_cast; rw [Int.mul_add, Int.mul_one, Int.mul_comm]
            omega
        · exact absurd (hall hk i hpos) ht
      · rw [mem_pos] at hpos
        have := nn_get hn i
        omega
  · rw [hsum]
    rcases Nat.lt_or_ge c (posOf left).length with hk | hk
    · rw [hl, Nat.min_eq_left (Nat.le_of_lt hk)]
      have : (c : Int) * (M - 1) = c * M - c := by rw [Int.mul_sub, Int.mul_one]
      omega
    · have hb := sum_le_cnt (fun i => left.getD i 0 - if decide (i ∈ turnL left c) = true then 1 else 0) (fun i => decide (0 < left.getD i 0)) (M - 1) (List.range left.length) fun i hi => by
        have hi := List.mem_range.mp hi
        by_cases hq : 0 < left.getD i 0
        · have ht := hall hk i (mem_pos.mpr ⟨hi, hq⟩)
          have := hg i hi
          rw [if_pos (decide_eq_true hq), if_pos (decide_eq_true ht)]
          omega
        · have ht : ¬ i ∈ turnL left c := fun z => hq (turn_pos z).2
          have := nn_get hn i
          simp only [ht, hq, decide_false, Bool.false_eq_true, if_false]
          omega
      have hcnt : (List.range left.length).countP (fun i => decide (0 < left.getD i 0)) = (posOf left).length := List.countP_eq_length_filter
      rw [hcnt] at hb
      have e1 := step_sum (turn_nodup left c) (fun t ht => (turn_pos ht).1)
      unfold stepL at e1
      rw [e1] at hb
      have : (M - 1) * ((posOf left).length : Int) ≤ c * (M - 1) := by
        rw [Int.mul_comm]
        exact Int.mul_le_mul_of_nonneg_right (by exact_mod_cast hk) (by omega)
      omega
theorem fit_back {c : Nat} {left : List Int} {M : Int} (h : Fit c (stepL left (turnL left c)) M) : Fit c left (M + 1) := by
  obtain ⟨h1, h2⟩ := h
  refine ⟨fun x hx => ?_, ?_⟩
  · obtain ⟨i, hi, rfl⟩ := List.getElem_of_mem hx
    have h3 := step_get (ts := turnL left c) hi
    have h4 : (stepL left (turnL left c)).getD i 0 ≤ M := by
      rw [List.getD_eq_getElem?_getD, List.getElem?_eq_getElem (by rw [step_len]; exact hi)]
      exact h1 _ (List.getElem_mem _)
    have h5 : left.getD i 0 = left[i] := by rw [List.getD_eq_getElem?_getD, List.getElem?_eq_getElem hi]; rfl
    rw [h5] at h3
    split at h3 <;> omega
  · rw [step_sum (turn_nodup left c) (fun t ht => (turn_pos ht).1), turn_len] at h2
    have : (c : Int) * (M + 1) = c * M + c := by rw [Int.mul_add, Int.mul_one]
    omega
theorem workN_le {c : Nat} (hc : 1 ≤ c) : ∀ (n : Nat) (left : List Int) (M : Nat), Nn left → Fit c left M → (workN c n left).length ≤ M
  | 0, _, _, _, _ => Nat.zero_le _
  | n + 1, left, M, hn, h => by
    unfold workN
    split
    · rename_i hs
      have hf := fit_step hn hc hs h
      have hM : 1 ≤ M := by
        rcases Nat.eq_zero_or_pos M with e | e
        · subst e
          have := h.2
          simp at this
          omega
        · exact e
      have := workN_le hc n _ (M - 1) (step_nn hn) (by
        have e : ((M - 1 : Nat) : Int) = (M : Int) - 1 := by omega
        rw [e]; exact hf)
      rw [List.length_cons]
      omega
    · exact Nat.zero_le _
theorem workN_fit {c : Nat} (hc : 1 ≤ c) : ∀ (n : Nat) (left : List Int), Nn left → left.sum ≤ n → Fit c left (workN c n left).length
  | 0, left, hn, h => by
    unfold workN
    refine ⟨fun x hx => ?_, by simpa using h⟩
    have := mem_sum hn hx
    simp at h ⊢
    omega
  | n + 1, left, hn, h => by
    unfold workN
    split
    · rename_i hs
      have h1 := step_sum (turn_nodup left c) (fun t ht => (turn_pos ht).1)
      have h2 := turn_len left c
      have h3 := pos_some hn hs
      have := workN_fit hc n _ (step_nn (c := c) hn) (by rw [h1, h2]; omega)
      rw [List.length_cons]
      have := fit_back this
      push_cast
      exact this
    · rename_i hs
      refine ⟨fun x hx => ?_, by simp; omega⟩
      have := mem_sum hn hx
      simp; omega
/-- how many hours -/
theorem workN_len {c : Nat} (hc : 1 ≤ c) {n : Nat} {left : List Int} (hn : Nn left) (hs : left.sum ≤ n) (M : Nat) : (workN c n left).length ≤ M ↔ Fit c left M := by
  refine ⟨fun h => ?_, workN_le hc n left M hn⟩
  obtain ⟨a, b⟩ := workN_fit hc n left hn hs
  refine ⟨fun x hx => Int.le_trans (a x hx) (by exact_mod_cast h), Int.le_trans b (Int.mul_le_mul_of_nonneg_left (by exact_mod_cast h) (by omega))⟩
/-- each bay is worked as often as it has boxes -/
theorem workN_cnt {c : Nat} (hc : 1 ≤ c) (p : Nat) : ∀ (n : Nat) (left : List Int), Nn left → left.sum ≤ n → p < left.length → ((workN c n left).flatten.count p : Int) = left.getD p 0
  | 0, left, hn, h, hp => by
    unfold workN
    have h1 : left[p] ≤ left.sum := mem_sum hn (List.getElem_mem hp)
    have h2 := nn_get hn p
    rw [List.getD_eq_getElem?_getD, List.getElem?_eq_getElem hp] at h2 ⊢
    simp at h h2 ⊢
    omega
  | n + 1, left, hn, h, hp => by
    unfold workN
    split
    · rename_i hs
      have h1 := step_sum (turn_nodup left c) (fun t ht => (turn_pos ht).1)
      have h2 := turn_len left c
      have h3 := pos_some hn hs
      have ih := workN_cnt hc p n _ (step_nn (c := c) hn) (by rw [h1, h2]; omega) (by rw [step_len]; exact hp)
      rw [List.flatten_cons, List.count_append]
      push_cast
      rw [ih, step_get hp]
      by_cases ht : p ∈ turnL left c
      · rw [if_pos ht]
        have e1 : (turnL left c).count p ≤ 1 := List.nodup_iff_count.mp (turn_nodup left c) p
        have e2 := List.count_pos_iff.mpr ht
        omega
      · rw [if_neg ht, List.count_eq_zero_of_not_mem ht]
        simp
    · rename_i hs
      have h1 : left[p] ≤ left.sum := mem_sum hn (List.getElem_mem hp)
      have h2 := nn_get hn p
      rw [List.getD_eq_getElem?_getD, List.getElem?_eq_getElem hp] at h2 ⊢
      simp at h2 ⊢
      omega
/-- a turn of the work -/
structure TurnOk (n c : Nat) (ts : List Nat) : Prop where
  lo : 1 ≤ ts.length
  hi : ts.length ≤ c
  up : ts.Pairwise (· < ·)
  lt : ∀ t ∈ ts, t < n
theorem workN_turns {c : Nat} (hc : 1 ≤ c) : ∀ (n : Nat) (left : List Int), Nn left → ∀ ts ∈ workN c n left, TurnOk left.length c ts
  | 0, _, _, ts, h => by simp [workN] at h
  | n + 1, left, hn, ts, h => by
    unfold workN at h
    split at h
    · rename_i hs
      rcases List.mem_cons.mp h with e | e
      · subst e
        have := turn_len left c
        have := pos_some hn hs
        exact ⟨by omega, by omega, turn_sorted left c, fun t ht => (turn_pos ht).1⟩
      · have := workN_turns hc n _ (step_nn (c := c) hn) ts e
        rw [step_len] at this
        exact this
    · simp at h

section
variable {T : Nat → Option Fd} {G : Nat → Option D}
theorem sat_flat_on {α : Type} {f : D → Store → Rs (List D)} {P : List D → Store → Prop} (e : α → D) (g : α → List D) : ∀ (xs : List α) (S : Store), (∀ x ∈ xs, ∀ R : List D → Store → Prop, R (g x) S → (f (e x) S).sat R) → P (xs.flatMap g) S → (flat f (xs.map e) S).sat P
  | [], S, _, k => by rw [List.map_nil]; unfold flat; exact k
  | x :: xs, S, st, k => by
    rw [List.map_cons]
    unfold flat
    simp only [sat_bind, sat_ok]
    refine st x List.mem_cons_self _ ?_
    refine sat_flat_on e g xs S (fun y hy => st y (List.mem_cons_of_mem _ hy)) ?_
    simpa [List.flatMap_cons] using k
def natD (n : Nat) : D := .int (n : Int)
theorem enumD_ints (xs : List Int) : enumD (xs.map D.int) = (List.range xs.length).map fun i => D.tup [natD i, .int (xs.getD i 0)] := by
  unfold enumD
  apply List.ext_getElem
  · simp
  · intro i h1 h2
    simp at h1 h2
    simp [natD, List.getD_eq_getElem?_getD, List.getElem?_eq_getElem h2]
theorem nats_ints (ts : List Nat) : ts.map natD = (ts.map fun (t : Nat) => (t : Int)).map D.int := by
  rw [List.map_map]; rfl
theorem nats_pure (ts : List Nat) : D.pures (ts.map natD) = true ∧ D.deps (ts.map natD) ≤ 1 := by
  rw [nats_ints]
  exact pures_ints _
theorem p_srtI {S : Store} {ks : List Int} : prim1 S .srt (.lst (ks.map .int)) = some (.lst ((ks.mergeSort fun a b => decide (a ≤ b)).map .int)) := by
  show srtD (ks.map D.int) = _
  unfold srtD
  obtain ⟨q1, q2⟩ := pures_ints ks
  have q3 : D.pys (ks.map D.int) = ks.map PyData.int := by
    induction ks with
    | nil => rfl
    | cons k ks ih => rw [List.map_cons, D.pys, ih (pures_ints ks).1 (pures_ints ks).2]; rfl
  have a1 : alikeB (D.pys (ks.map D.int)) = true := by
    rw [q3]
    unfold alikeB
    simp [PySem.W.alike]
  have a2 : sortB (D.pys (ks.map D.int)) = true := by
    rw [q3]
    unfold sortB
    simp [flatB]
  rw [if_pos (by rw [q1, a1, a2, decide_eq_true (by omega : D.deps (ks.map D.int) ≤ 60)]; rfl)]
  rw [← List.map_mergeSort (f := D.int) (r := fun a b => decide (a ≤ b)) (s := PySem.W.dataLe false D.py) (fun a _ b _ => ?_)]
  have := congrFun (congrFun (PySem.W.dataLe_int (fun s : Int => s)) a) b
  exact this.symm
theorem p_srtN {S : Store} {ts : List Nat} : prim1 S .srt (.lst (ts.map natD)) = some (.lst ((ts.mergeSort leN).map natD)) := by
  rw [nats_ints, p_srtI, nats_ints]
  congr 3
  exact (List.map_mergeSort (f := fun t : Nat => (t : Int)) (r := leN) (s := fun a b => decide (a ≤ b)) (fun a _ b _ => by unfold leN; simp)).symm
/-- the turn of an hour -/
theorem busiest_ok (hT : T 35 = some fdbusiest) {left : List Int} {c : Nat} {S : Store} {n : Nat} :
    (callN T G (n + 1) 35 [.lst (left.map .int), natD c] S).sat fun d S' => S' = S ∧ d = .tup ((turnL left c).map natD) := by
  refine sat_call hT rfl ?_
  have e1 : (evE (callN T G n) G (.lc [3, 4] (.tup (.cons (.name 3) (.cons (.name 4) .nil))) (.enum (.var 0)) (.op .gt (.cons (.var 4) (.cons (.cst (.int 0)) .nil))) (.var 3)) (env0 5 [.lst (left.map .int), natD c]) S).sat fun d S' => S' = S ∧ d = .lst ((posOf left).map natD) := by
    simp [env0]
    refine ⟨_, rfl, ?_⟩
    rw [enumD_ints]
    refine sat_flat_on _ (fun i => if decide (0 < left.getD i 0) = true then [natD i] else []) _ S (fun i hi R hR => ?_) ?_
    · rw [sat_lcF]
      simp [wipeE, Tg.set, Tgs.set]
      by_cases h : 0 < left.getD i 0
      · simp at h
        simp [h] at hR ⊢
        exact hR
      · simp at h
        have h' : ¬ 0 < left[i]?.getD 0 := by omega
        simp [h'] at hR ⊢
        exact hR
    · refine ⟨rfl, ?_⟩
      congr 1
      unfold posOf
      generalize List.range left.length = l
      induction l with
      | nil => rfl
      | cons i l ih =>
        rw [List.flatMap_cons, ih, List.filter_cons]
        split <;> simp
  have e2 : srtLam S (.lst ((posOf left).map natD)) (.lst (left.map .int)) = some (.lst ((ordOf left).map natD)) := by
    unfold srtLam
    have a1 : (lstOf S (.lst ((posOf left).map natD))).bind intL = some ((posOf left).map fun (t : Nat) => (t : Int)) := by
      show intL ((posOf left).map natD) = _
      rw [nats_ints, intL_map]
    have a2 : (lstOf S (.lst (left.map D.int))).bind intL = some left := by
      show intL (left.map D.int) = _
      rw [intL_map]
    rw [a1, a2]
    show (if _ then _ else _) = _
    rw [if_pos]
    · congr 2
      rw [nats_ints]
      congr 1
      unfold ordOf
      exact (List.map_mergeSort (f := fun t : Nat => (t : Int)) (r := leKN left) (s := leKey left) (fun a _ b _ => rfl)).symm
    · rw [List.all_eq_true]
      intro x hx
      obtain ⟨i, hi, rfl⟩ := List.mem_map.mp hx
      have := (mem_pos.mp hi).1
      rw [decide_eq_true_eq]
      omega
  simp only [fdbusiest, st_scons, st_asg]
  show ((evE (callN T G n) G _ (env0 5 [.lst (left.map .int), natD c]) S).bind fun x S1 => _).sat _
  simp only [sat_bind]
  refine e1.mono ?_
  rintro _ _ ⟨rfl, rfl⟩
  simp [env0, e2, Tg.set]
  refine ⟨_, p_slH, ?_⟩
  rw [cut_hi (by omega), ← List.map_take, Int.toNat_natCast]
  refine ⟨_, p_srtN, ?_⟩
  simp [turnL]
/-! ### the work -/
def bayB : D → Bool
  | .tup _ => true
  | _ => false
theorem bay_of {x : D} (h : bayB x = true) : x = .tup (itemsOf x) := by cases x <;> first | rfl | cases h
def sizesOf (bs : List D) : List Int := bs.map fun b => ((itemsOf b).length : Int)
theorem sizes_nn (bs : List D) : Nn (sizesOf bs) := fun x hx => by
  obtain ⟨b, _, rfl⟩ := List.mem_map.mp hx
  omega
theorem sizes_len (bs : List D) : (sizesOf bs).length = bs.length := List.length_map _
def turnD (ts : List Nat) : D := .tup (ts.map natD)
theorem any_natD (i : Nat) (ts : List Nat) : ((ts.map natD).any fun z => eqD z (natD i)) = decide (i ∈ ts) := by
  induction ts with
  | nil => rfl
  | cons t ts ih =>
    rw [List.map_cons, List.any_cons, ih]
    show (((t : Int) == (i : Int)) || decide (i ∈ ts)) = _
    rw [Bool.eq_iff_iff]
    simp only [Bool.or_eq_true, beq_iff_eq, decide_eq_true_eq, List.mem_cons]
    constructor
    · rintro (h | h)
      · exact .inl (by omega)
      · exact .inr h
    · rintro (h | h)
      · exact .inl (by omega)
      · exact .inr h
theorem okIn_nats (i : Nat) (ts : List Nat) : okIn (natD i) (ts.map natD) = true := by
  obtain ⟨q1, q2⟩ := nats_pure ts
  unfold okIn
  rw [q1, decide_eq_true (⟨Nat.zero_le _, by omega⟩ : D.dep (natD i) ≤ 60 ∧ D.deps (ts.map natD) ≤ 60)]
  rfl
theorem p_innT {S : Store} {i : Nat} {ts : List Nat} : prim2 S .inn (natD i) (.tup (ts.map natD)) = some (.bl (decide (i ∈ ts))) := by
  show (if okIn (natD i) (ts.map natD) = true then some ((ts.map natD).any fun z => eqD z (natD i)) else none).map (fun b => D.bl b) = _
  rw [if_pos (okIn_nats i ts), any_natD]
  rfl
theorem p_innL {S : Store} {i : Nat} {ts : List Nat} : prim2 S .inn (natD i) (.lst (ts.map natD)) = some (.bl (decide (i ∈ ts))) := by
  show (if okIn (natD i) (ts.map natD) = true then some ((ts.map natD).any fun z => eqD z (natD i)) else none).map (fun b => D.bl b) = _
  rw [if_pos (okIn_nats i ts), any_natD]
  rfl
theorem workN_num (c : Nat) : ∀ (n : Nat) (left : List Int), (workN c n left).length ≤ n
  | 0, _ => Nat.le_refl _
  | n + 1, left => by
    unfold workN
    split
    · have := workN_num c n (stepL left (turnL left c))
      rw [List.length_cons]; omega
    · exact Nat.zero_le _
theorem workN_nil {c n : Nat} {left : List Int} (h : ¬ 0 < left.sum) : workN c n left = [] := by
  cases n with
  | zero => rfl
  | succ n => unfold workN; rw [if_neg h]
theorem sizes_flat {f : D → Store → Rs (List D)} {P : List D → Store → Prop} {bs : List D} {S : Store} (hb : ∀ b ∈ bs, bayB b = true) (hf : ∀ xs R, R [.int (xs.length : Int)] S → (f (.tup xs) S).sat R) (k : P ((sizesOf bs).map .int) S) : (flat f bs S).sat P := by
  refine sat_flat_map (fun b => [.int ((itemsOf b).length : Int)]) bs S (fun b hbm R hR => ?_) ?_
  · rw [bay_of (hb b hbm)]
    exact hf _ R hR
  · rw [fm_one]
    unfold sizesOf at k
    rw [List.map_map] at k
    exact k
theorem p_toIntB {S : Store} {b : Bool} : prim1 S .toInt (.bl b) = some (.int (if b = true then 1 else 0)) := rfl
/-- the step of an hour, as it is written -/
theorem step_flat {f : D → Store → Rs (List D)} {P : List D → Store → Prop} {left : List Int} {ts : List Nat} {S : Store} (hf : ∀ (i : Nat) (m : Int) (R : List D → Store → Prop), R [.int (m - if decide (i ∈ ts) = true then 1 else 0)] S → (f (.tup [natD i, .int m]) S).sat R)
    (k : P ((stepL left ts).map .int) S) : (flat f (enumD (left.map .int)) S).sat P := by
  rw [enumD_ints]
  refine sat_flat_on _ (fun i => [.int (left.getD i 0 - if decide (i ∈ ts) = true then 1 else 0)]) _ S (fun i _ R hR => hf i _ R hR) ?_
  rw [fm_one]
  unfold stepL at k
  rw [List.map_map] at k
  exact k
theorem work_ok (h35 : T 35 = some fdbusiest) (h36 : T 36 = some fdwork) {bs : List D} {c m : Nat} {S : Store} {n : Nat} (hc : 1 ≤ c) (hb : ∀ b ∈ bs, bayB b = true) (hm : (sizesOf bs).sum ≤ m) (hm2 : m ≤ 1000) :
    (callN T G (n + 2) 36 [.tup bs, natD c] S).sat fun d S' => S' = S ∧ d = .lst ((workN c m (sizesOf bs)).map turnD) := by
  refine sat_call h36 rfl ?_
  simp [fdwork, env0, Tg.set]
  refine ⟨_, rfl, ?_⟩
  refine sizes_flat hb (fun xs R hR => ?_) ?_
  · rw [sat_lcF]
    simp [wipeE, Tg.set]
    exact hR
  have hnum := workN_num c m (sizesOf bs)
  refine sat_while (fun k v S' => S' = S ∧ ∃ left done c4, v = [.d (.tup bs), .d (natD c), .d (.lst (left.map D.int)), .own (done.map turnD), c4, .non, .non, .non] ∧ Nn left ∧ left.sum ≤ k ∧ done ++ workN c k left = workN c m (sizesOf bs)) m _ _ ⟨rfl, sizesOf bs, [], .non, rfl, sizes_nn bs, hm, rfl⟩ ?_
  rintro k v _ ⟨rfl, left, done, c4, rfl, hn, hk, hd⟩
  simp [p_sumI]
  by_cases hs : 0 < left.sum
  · refine .inr ⟨hs, ?_⟩
    refine (busiest_ok h35).mono ?_
    rintro _ _ ⟨rfl, rfl⟩
    obtain ⟨k, rfl⟩ : ∃ k', k = k' + 1 := ⟨k - 1, by omega⟩
    have hd2 : (done ++ [turnL left c]) ++ workN c k (stepL left (turnL left c)) = workN c m (sizesOf bs) := by
      rw [← hd]
      rw [show workN c (k + 1) left = turnL left c :: workN c k (stepL left (turnL left c)) by
        show (if 0 < left.sum then _ else _) = _
        rw [if_pos hs]]
      simp
    have hlen : done.length < 1000000 := by
      have := congrArg List.length hd2
      simp at this
      omega
    refine ⟨_, rfl, ?_⟩
    simp
    refine ⟨hlen, _, rfl, ?_⟩
    refine step_flat (ts := turnL left c) (fun i mm R hR => ?_) ?_
    · rw [sat_lcF]
      simp [wipeE, Tg.set, Tgs.set, p_innT, p_toIntB]
      simpa using hR
    · have h1 := step_sum (turn_nodup left c) (fun t ht => (turn_pos ht).1)
      have h2 := turn_len left c
      have h3 := pos_some hn hs
      refine ⟨_, rfl, k, Nat.lt_succ_self k, rfl, stepL left (turnL left c), done ++ [turnL left c], ⟨.d (.tup ((turnL left c).map natD)), ?_⟩, step_nn hn, ?_, hd2⟩
      · simp [turnD]
      · rw [h1, h2]; omega
  · refine .inl ⟨by omega, ?_⟩
    rw [workN_nil hs, List.append_nil] at hd
    rw [hd]

/-! ### what is a turn, what is a way -/
theorem sortU_self : ∀ {ks : List Int}, ks.Pairwise (· < ·) → sortU ks = ks
  | [], _ => rfl
  | k :: ks, h => by
    obtain ⟨h1, h2⟩ := List.pairwise_cons.mp h
    show insU k (sortU ks) = _
    rw [sortU_self h2]
    cases ks with
    | nil => rfl
    | cons j js =>
      unfold insU
      rw [if_pos (h1 j List.mem_cons_self)]
theorem sortU_iff {ks : List Int} : ks = sortU ks ↔ ks.Pairwise (· < ·) := by
  constructor
  · intro h
    rw [h]
    exact sortU_up ks
  · intro h
    exact (sortU_self h).symm
def turnB (nb c : Nat) : D → Bool
  | .tup xs => match intL xs with
    | some ks => decide (1 ≤ ks.length ∧ ks.length ≤ c) && decide (ks.Pairwise (· < ·)) && ks.all fun k => decide (0 ≤ k ∧ k < nb)
    | none => false
  | _ => false
theorem turnB_tup {nb c : Nat} {xs : List D} : turnB nb c (.tup xs) = match intL xs with
    | some ks => decide (1 ≤ ks.length ∧ ks.length ≤ c) && decide (ks.Pairwise (· < ·)) && ks.all fun k => decide (0 ≤ k ∧ k < nb)
    | none => false := rfl
def isIntB : D → Bool
  | .int _ => true
  | _ => false
theorem intL_all : ∀ xs : List D, (xs.all isIntB = true ∧ ∃ ks, intL xs = some ks ∧ xs = ks.map D.int) ∨ (xs.all isIntB = false ∧ intL xs = none)
  | [] => .inl ⟨rfl, [], rfl, rfl⟩
  | x :: xs => by
    rcases intL_all xs with ⟨h1, ks, h2, h3⟩ | ⟨h1, h2⟩
    · cases x with
      | int i => exact .inl ⟨by rw [List.all_cons, h1]; rfl, i :: ks, by simp [intL, h2], by rw [h3]; rfl⟩
      | _ => exact .inr ⟨by rw [List.all_cons]; rfl, by simp [intL]⟩
    · cases x with
      | int i => exact .inr ⟨by rw [List.all_cons, h1, Bool.and_false], by simp [intL, h2]⟩
      | _ => exact .inr ⟨by rw [List.all_cons]; rfl, by simp [intL]⟩
theorem p_allL {S : Store} {bs : List Bool} : prim1 S .all (.lst (bs.map .bl)) = some (.bl (bs.all id)) := by
  have := p_all (S := S) id bs
  simpa using this
theorem intL_len {xs : List D} {ks : List Int} (h : intL xs = some ks) : xs = ks.map D.int ∧ xs.length = ks.length := by
  rcases intL_all xs with ⟨_, js, h2, h3⟩ | ⟨_, h2⟩
  · rw [h] at h2; cases h2
    exact ⟨h3, by rw [h3, List.length_map]⟩
  · rw [h] at h2; cases h2
theorem is_turn_ok (h52 : T 52 = some fdis_turn) {bs : List D} {c : Nat} {x : D} {S : Store} {n : Nat} (hc : c ≤ 60) :
    (callN T G (n + 1) 52 [.tup bs, natD c, x] S).sat fun d S' => S' = S ∧ d = .bl (turnB bs.length c x) := by
  refine sat_call h52 rfl ?_
  have no : ∀ y : D, turnB bs.length c y = false → (∀ xs, y ≠ .tup xs) → tyOf S y .tuple = false := fun y _ h => by cases y <;> first | rfl | exact absurd rfl (h _)
  by_cases ht : ∃ xs, x = .tup xs
  · obtain ⟨xs, rfl⟩ := ht
    by_cases hl : 1 ≤ xs.length ∧ xs.length ≤ c
    · have hl1 : (1 : Int) ≤ xs.length := by omega
      have hl2 : (xs.length : Int) ≤ c := by omega
      simp [fdis_turn, env0, tyOf, natD, hl1, hl2, prim]
      refine ⟨_, rfl, ?_⟩
      refine sat_flat_map (fun y => [.bl (isIntB y)]) xs S (fun y hy R hR => ?_) ?_
      · rw [sat_lcF]
        simp [wipeE, Tg.set]
        cases y <;> simp [tyOf] <;> exact hR
      · rw [fm_one]
        rcases intL_all xs with ⟨h1, ks, h2, h3⟩ | ⟨h1, h2⟩
        · refine ⟨_, p_all isIntB xs, ?_⟩
          simp [h1]
          rw [h3]
          have hk : ks.length ≤ c ∧ 1 ≤ ks.length := by rw [h3, List.length_map] at hl; omega
          have e2 : prim1 S .sset (.tup (ks.map D.int)) = some (.lst ((sortU ks).map D.int)) := by
            show (intL (ks.map D.int)).bind _ = _
            rw [intL_map]
            show (if ks.length < 64 then some (D.lst ((sortU ks).map D.int)) else none) = _
            rw [if_pos (by omega)]
          refine ⟨_, e2, _, p_eq_ints, ?_⟩
          have e3 : turnB bs.length c (.tup (ks.map D.int)) = (decide (ks = sortU ks) && ks.all fun k => decide (0 ≤ k ∧ k < bs.length)) := by
            rw [turnB_tup, intL_map]
            simp only [hk, and_self, decide_true, Bool.true_and, decide_eq_decide.mpr (sortU_iff (ks := ks))]
          rw [e3]
          by_cases hs : ks = sortU ks
          · simp [← hs]
            refine ⟨_, rfl, ?_⟩
            refine sat_flat_on D.int (fun k => [.bl (decide (0 ≤ k ∧ k < bs.length))]) ks S (fun k hk R hR => ?_) ?_
            · rw [sat_lcF]
              simp [wipeE, Tg.set, prim]
              by_cases h0 : 0 ≤ k
              · simp [h0] at hR ⊢
                exact hR
              · simp [h0] at hR ⊢
                exact hR
            · rw [fm_one]
              refine ⟨_, p_all (fun k : Int => decide (0 ≤ k ∧ k < (bs.length : Int))) ks, ?_⟩
              simp
          · simp [hs]
        · refine ⟨_, p_all isIntB xs, ?_⟩
          simp [h1, turnB, h2]
    · have e : turnB bs.length c (.tup xs) = false := by
        cases h : intL xs with
        | none => simp [turnB, h]
        | some ks =>
          have := (intL_len h).2
          have hh : ¬ (1 ≤ ks.length ∧ ks.length ≤ c) := by omega
          simp [turnB, h]
          intro a b
          exact absurd ⟨a, b⟩ hh
      rw [e]
      by_cases hl1 : 1 ≤ xs.length
      · have hl1' : (1 : Int) ≤ xs.length := by omega
        have hl2 : ¬ (xs.length : Int) ≤ c := by omega
        simp [fdis_turn, env0, tyOf, natD, hl1', hl2, prim]
      · have hl1' : ¬ (1 : Int) ≤ xs.length := by omega
        simp [fdis_turn, env0, tyOf, natD, hl1', prim]
  · have hn : ∀ xs, x ≠ .tup xs := fun xs e => ht ⟨xs, e⟩
    have e : turnB bs.length c x = false := by cases x <;> first | rfl | exact absurd rfl (hn _)
    have e2 := no x e hn
    rw [e]
    simp [fdis_turn, env0, e2]
/-- how often a bay is worked -/
def doneOf (ts : List D) : List D := ts.flatMap itemsOf
def cntOf (ts : List D) (p : Nat) : Nat := match intL (doneOf ts) with
  | some ks => ks.count (p : Int)
  | none => 0
def workB (bs : List D) (c : Nat) : D → Bool
  | .lst ts => ts.all (turnB bs.length c) && (List.range bs.length).all fun p => decide ((cntOf ts p : Int) = (sizesOf bs).getD p 0)
  | _ => false
theorem enumD_range (xs : List D) : enumD xs = (List.range xs.length).map fun i => D.tup [natD i, xs.getD i .non] := by
  unfold enumD
  apply List.ext_getElem
  · simp
  · intro i h1 h2
    simp at h1 h2
    simp [natD, List.getD_eq_getElem?_getD, List.getElem?_eq_getElem h2]
theorem turn_tup {nb c : Nat} {x : D} (h : turnB nb c x = true) : ∃ ks : List Int, x = .tup (ks.map D.int) ∧ 1 ≤ ks.length ∧ ks.length ≤ c ∧ ks.Pairwise (· < ·) ∧ ∀ k ∈ ks, 0 ≤ k ∧ k < nb := by
  cases x with
  | tup xs =>
    rw [turnB_tup] at h
    cases e : intL xs with
    | none => rw [e] at h; cases h
    | some ks =>
      rw [e] at h
      simp only [Bool.and_eq_true, decide_eq_true_eq, List.all_eq_true] at h
      exact ⟨ks, by rw [(intL_len e).1], h.1.1.1, h.1.1.2, h.1.2, h.2⟩
  | _ => cases h
theorem done_ints {nb c : Nat} : ∀ {ts : List D}, ts.all (turnB nb c) = true → ∃ ks : List Int, doneOf ts = ks.map D.int ∧ ks.length ≤ c * ts.length
  | [], _ => ⟨[], rfl, Nat.zero_le _⟩
  | t :: ts, h => by
    rw [List.all_cons, Bool.and_eq_true] at h
    obtain ⟨js, rfl, _, h2, _⟩ := turn_tup h.1
    obtain ⟨ks, h3, h4⟩ := done_ints h.2
    refine ⟨js ++ ks, ?_, ?_⟩
    · show itemsOf (.tup (js.map D.int)) ++ doneOf ts = _
      rw [h3, List.map_append]; rfl
    · rw [List.length_append, List.length_cons, Nat.mul_add]
      omega
theorem is_work_ok (h52 : T 52 = some fdis_turn) (h53 : T 53 = some fdis_work) {bs : List D} {c : Nat} {x : D} {S : Store} {n : Nat} (hb : ∀ b ∈ bs, bayB b = true) (hc : c ≤ 60) (hx : D.wt x ≤ 8000) (hr : D.pure x = true) :
    (callN T G (n + 2) 53 [.tup bs, natD c, x] S).sat fun d S' => S' = S ∧ d = .bl (workB bs c x) := by
  refine sat_call h53 rfl ?_
  by_cases ht : ∃ ts, x = .lst ts
  · obtain ⟨ts, rfl⟩ := ht
    have hlt : ts.length ≤ 8000 := by
      have h1 := wts_len (xs := ts)
      simp only [D.wt] at hx
      omega
    simp [fdis_work, env0, tyOf]
    refine ⟨_, rfl, ?_⟩
    refine sat_flat_map (fun y => [.bl (turnB bs.length c y)]) ts S (fun y hy R hR => ?_) ?_
    · rw [sat_lcF]
      simp [wipeE, Tg.set]
      refine (is_turn_ok h52 hc).mono ?_
      rintro _ _ ⟨rfl, rfl⟩
      exact hR
    · rw [fm_one]
      refine ⟨_, p_all (turnB bs.length c) ts, ?_⟩
      by_cases hall : ts.all (turnB bs.length c) = true
      · rw [hall]
        simp
        refine ⟨_, rfl, ?_⟩
        obtain ⟨ks, e1, e2⟩ := done_ints hall
        refine sat_flat_map itemsOf ts S (fun y hy R hR => ?_) ?_
        · obtain ⟨js, rfl, _⟩ := turn_tup (List.all_eq_true.mp hall y hy)
          rw [sat_lcF2]
          simp [wipeE, Tg.set]
          refine ⟨_, rfl, ?_⟩
          refine sat_flat_map (fun z => [z]) _ S (fun z hz R hR => ?_) ?_
          · rw [sat_lcF]
            simp [wipeE, Tg.set]
            exact hR
          · rw [fm_one]
            have e0 : List.map (fun z : D => z) (js.map D.int) = js.map D.int := List.map_id _
            rw [e0]
            exact hR
        · show (doneOf ts).length ≤ lim ∧ _
          have hlen : (doneOf ts).length ≤ lim := by
            rw [e1, List.length_map]
            show ks.length ≤ 1000000
            have : c * ts.length ≤ 60 * 8000 := Nat.mul_le_mul hc hlt
            omega
          refine ⟨hlen, ?_⟩
          show ∃ v', (Tg.name 3).set (D.lst (doneOf ts)) _ = some v' ∧ _
          rw [e1]
          refine ⟨_, rfl, ?_⟩
          simp
          refine ⟨_, rfl, ?_⟩
          rw [enumD_range]
          refine sat_flat_on _ (fun p => [.bl (decide ((cntOf ts p : Int) = (sizesOf bs).getD p 0))]) _ S (fun p hp R hR => ?_) ?_
          · have hp := List.mem_range.mp hp
            have hbp := hb _ (List.getElem_mem hp)
            have e3 : bs.getD p .non = bs[p] := by rw [List.getD_eq_getElem?_getD, List.getElem?_eq_getElem hp]; rfl
            have e4 : (sizesOf bs).getD p 0 = ((itemsOf bs[p]).length : Int) := by
              unfold sizesOf
              rw [List.getD_eq_getElem?_getD, List.getElem?_map, List.getElem?_eq_getElem hp]; rfl
            rw [e3, bay_of hbp, sat_lcF]
            rw [e4] at hR
            have e5 : prim2 S .cnt (.lst (ks.map D.int)) (natD p) = some (.int (cntOf ts p : Nat)) := by
              show (intL (ks.map D.int)).bind _ = _
              rw [intL_map]
              unfold cntOf
              rw [e1, intL_map]
              rfl
            simp [wipeE, Tg.set, Tgs.set, e5]
            exact hR
          · rw [fm_one]
            refine ⟨_, p_all _ _, ?_⟩
            simp only [workB, hall, Bool.true_and, true_and]
      · have hall' : ts.all (turnB bs.length c) = false := by simpa using hall
        rw [hall']
        simp [workB, hall']
  · have e : workB bs c x = false := by cases x <;> first | rfl | exact absurd ⟨_, rfl⟩ ht
    have e2 : tyOf S x .list = false := by
      cases x <;> first | rfl | exact absurd ⟨_, rfl⟩ ht | (simp [D.pure] at hr)
    rw [e]
    simp [fdis_work, env0, e2]

/-! ### bays drawn -/
def fd_bays : Fd := ⟨1, 5, false, (.cons (.own 1 (.lst .nil)) (.cons (.for_ (.name 2) (.range1 (.op .add (.cons (.cst (.int 1)) (.cons (.call 10 (.cons (.var 0) (.cons (.cst (.int 6)) .nil))) .nil)))) (.cons (.asg (.name 3) (.op .ix (.cons (.lst (.cons (.call 10 (.cons (.var 0) (.cons (.cst (.int 6)) .nil))) (.cons (.cst (.int 5)) (.cons (.cst (.int 0)) (.cons (.cst (.int 1)) .nil))))) (.cons (.call 10 (.cons (.var 0) (.cons (.cst (.int 4)) .nil))) .nil)))) (.cons (.app 1 (.op .toTup (.cons (.lc [4] (.name 4) (.range1 (.var 3)) (.cst (.bl true)) (.tup (.cons (.op .add (.cons (.op .add (.cons (.cst (.str (Str.ofString "b"))) (.cons (.op .ix (.cons (.cst (.str (Str.ofString "abcdef"))) (.cons (.var 2) .nil))) .nil))) (.cons (.op .ix (.cons (.cst (.str (Str.ofString "abcde"))) (.cons (.var 4) .nil))) .nil))) (.cons (.op .add (.cons (.cst (.int 1)) (.cons (.call 10 (.cons (.var 0) (.cons (.cst (.int 9)) .nil))) .nil))) .nil)))) .nil))) .nil))) (.cons (.ret (.op .toTup (.cons (.ovar 1) .nil))) .nil)))⟩
theorem p_ixS {S : Store} {s : Str} {k : Nat} (h : k < s.cps.toList.length) (hl : s.length ≤ lim) : prim2 S .ix (.str s) (.int (k : Int)) = some (.str ⟨#[s.cps.toList.getD k 0]⟩) := by
  show (if s.length ≤ lim then match ixAt s.cps.toList.length (k : Int) with | some j => (s.cps.toList[j]?).map fun c => D.str ⟨#[c]⟩ | none => none else none) = _
  rw [if_pos hl, ixAt_nn (by omega) (by omega)]
  show (s.cps.toList[(k : Int).toNat]?).map _ = _
  rw [Int.toNat_natCast, List.getD_eq_getElem?_getD, List.getElem?_eq_getElem h]
  rfl
theorem p_addC {S : Store} {s : Str} {c : Nat} (h : s.length ≤ 1000) : prim2 S .add (.str s) (.str ⟨#[c]⟩) = some (.str (s ++ ⟨#[c]⟩)) := p_addS (by
  show s.length + 1 ≤ 1000000
  omega)
theorem len_addC {s : Str} {c : Nat} : (s ++ (⟨#[c]⟩ : Str)).length = s.length + 1 := by
  show (s.cps ++ #[c]).size = s.cps.size + 1
  simp
def BayOk (b : D) : Prop := bayB b = true ∧ (itemsOf b).length ≤ 5 ∧ D.pure b = true
theorem range_get {k : Nat} {i : Nat} {x : D} {lo : Int} (h : (rangeD lo k)[i]? = some x) : x = .int (lo + i) ∧ i < k := rangeD_get h
theorem bays_ok (h10 : T 10 = some fd_pick) (h55 : T 55 = some fd_bays) {n r m : Nat} {S : Store} (h : Dk S r (m + 60)) :
    (callN T G (n + 2) 55 [.ref r] S).sat fun d S' => (∃ bs, d = .tup bs ∧ 1 ≤ bs.length ∧ bs.length ≤ 6 ∧ ∀ b ∈ bs, BayOk b) ∧ Dk S' r m ∧ Nx r S S' := by
  refine sat_call h55 rfl ?_
  simp [fd_bays, env0, Tg.set]
  refine (pick_ok h10 (h.le (by omega) : Dk S r (m + 58 + 1)) (by decide) (by decide)).mono ?_
  rintro _ S1 ⟨k, rfl, k0, k1, d1, x1⟩
  simp
  refine ⟨okRange_of (by omega) (by omega), ?_⟩
  refine sat_forI (fun i v S' => ∃ xs c2 c3 c4, v = [.d (.ref r), .own xs, c2, c3, c4] ∧ xs.length = i ∧ (∀ b ∈ xs, BayOk b) ∧ Dk S' r (m + 3 + 8 * (6 - i)) ∧ Nx r S S') _ _ _ ⟨[], _, _, _, rfl, rfl, (fun b hb => absurd hb List.not_mem_nil), d1.le (by omega), x1⟩ ?_ ?_
  · rintro i x v S2 hx ⟨xs, c2, c3, c4, rfl, hxl, hxs, d2, x2⟩
    obtain ⟨rfl, hil⟩ := rangeD_get hx
    have hi6 : i < 6 := by omega
    rw [sat_forF]
    refine ⟨_, rfl, ?_⟩
    simp
    have e1 : m + 3 + 8 * (6 - i) = m + 3 + 8 * (5 - i) + 6 + 1 + 1 := by omega
    rw [e1] at d2
    generalize m + 3 + 8 * (5 - i) = M at d2
    refine (pick_ok h10 d2 (by decide) (by decide)).mono ?_
    rintro _ S3 ⟨a, rfl, a0, a1, d3, x3⟩
    refine (pick_ok h10 d3 (by decide) (by decide)).mono ?_
    rintro _ S4 ⟨b, rfl, b0, b1, d4, x4⟩
    have hz : ∃ z : Int, prim2 S4 .ix (.lst [.int a, .int 5, .int 0, .int 1]) (.int b) = some (.int z) ∧ 0 ≤ z ∧ z ≤ 5 := by
      have h3 : b = 0 ∨ b = 1 ∨ b = 2 ∨ b = 3 := by omega
      rcases h3 with rfl | rfl | rfl | rfl
      · exact ⟨a, rfl, by omega, by omega⟩
      · exact ⟨5, rfl, by omega, by omega⟩
      · exact ⟨0, rfl, by omega, by omega⟩
      · exact ⟨1, rfl, by omega, by omega⟩
    obtain ⟨z, hz1, hz2, hz3⟩ := hz
    refine ⟨_, hz1, _, rfl, ?_⟩
    simp
    refine ⟨okRange_of (by omega) (by omega), ?_⟩
    refine (flat_dk (fun y => D.pure y = true) 1 _ (fun y hy S m hm => ?_) S4 (M + 1) (d4.le (by rw [rangeD_len]; omega))).mono ?_
    · obtain ⟨j, hj⟩ := List.getElem?_of_mem hy
      obtain ⟨rfl, hjl⟩ := rangeD_get hj
      rw [sat_lcF]
      simp [wipeE, Tg.set]
      have hj5 : j < 5 := by omega
      refine ⟨_, p_ixS (s := Str.ofString "abcdef") (k := i) (Nat.lt_of_lt_of_eq hi6 (by decide +kernel)) (by decide +kernel), _, p_addC (by decide +kernel), ?_⟩
      refine ⟨_, p_ixS (s := Str.ofString "abcde") (k := j) (Nat.lt_of_lt_of_eq hj5 (by decide +kernel)) (by decide +kernel), _, p_addC (by rw [len_addC]; decide +kernel), ?_⟩
      refine (pick_ok h10 hm (by decide) (by decide)).mono ?_
      rintro _ S' ⟨w, rfl, w0, w1, d, x⟩
      exact ⟨_, rfl, rfl, d, x⟩
    · rintro ys S5 ⟨l, q, d5, x5⟩
      rw [rangeD_len] at l
      refine ⟨?_, hxl, fun c hc => ?_, d5.le (by omega), (((x2.trans x3).trans x4).trans x5)⟩
      · rw [hxl]; show i < 1000000; omega
      · rcases hc with hc | hc
        · exact hxs c hc
        · rw [hc]
          refine ⟨rfl, ?_, ?_⟩
          · show ys.length ≤ 5
            omega
          · show D.pures ys = true
            clear d5 x5 l hc
            induction ys with
            | nil => rfl
            | cons y ys ih => rw [D.pures, q y List.mem_cons_self, ih fun z hz => q z (List.mem_cons_of_mem _ hz)]; rfl
  · rintro v S2 ⟨xs, c2, c3, c4, rfl, hxl, hxs, d2, x2⟩
    rw [rangeD_len] at hxl
    simp
    exact ⟨x2.len, ⟨by omega, by omega, hxs⟩, d2.le (by omega), x2⟩
theorem deck_okG (h9 : T 9 = some fd_deck) {n : Nat} {S : Store} {cell turn : Int} : (callN T G (n + 1) 9 [.int cell, .int turn] S).sat fun d S' => S' = S ∧ ∃ a : Int, d = .lst [.int a, .int (cell % 2147483579), .int turn] := by
  refine sat_call h9 rfl ?_
  have s10 : small (10 : Int) = true := by decide
  simp [fd_deck, env0, p_pow s10, p_mod]
/-! ### alike -/
mutual
theorem eqD_self : ∀ x : D, D.pure x = true → eqD x x = true
  | .non, _ => rfl
  | .bl b, _ => by simp [eqD]
  | .int i, _ => by simp [eqD]
  | .str s, _ => by simp [eqD]
  | .tup xs, h => by
    simp only [eqD]
    exact eqDs_self xs (by simpa only [D.pure] using h)
  | .lst xs, h => by
    simp only [eqD]
    exact eqDs_self xs (by simpa only [D.pure] using h)
  | .ref n, h => by simp only [D.pure] at h; cases h
theorem eqDs_self : ∀ xs : List D, D.pures xs = true → eqDs xs xs = true
  | [], _ => rfl
  | x :: xs, h => by
    simp only [D.pures, Bool.and_eq_true] at h
    simp only [eqDs, eqD_self x h.1, eqDs_self xs h.2, Bool.and_self]
end
theorem snap_d {S : Store} {x : D} (h : D.pure x = true) : snapC S (.d x) = .d x := by
  cases x <;> first
    | (simp only [snapC, snapD]; rw [if_pos h])
    | (simp only [D.pure] at h; cases h)
theorem snap_ref {S : Store} {k : Nat} {xs : List D} (h : S[k]? = some (.lst xs)) (hp : D.pures xs = true) : snapC S (.d (.ref k)) = .d (.lst xs) := by
  simp only [snapC, snapD, h]
  rw [if_pos hp]
theorem turns_pure : ∀ ws : List (List Nat), D.pures (ws.map turnD) = true ∧ D.deps (ws.map turnD) ≤ 2
  | [] => ⟨rfl, Nat.zero_le _⟩
  | w :: ws => by
    obtain ⟨h1, h2⟩ := turns_pure ws
    obtain ⟨h3, h4⟩ := nats_pure w
    rw [List.map_cons, D.pures, D.deps]
    refine ⟨?_, Nat.max_le.mpr ⟨?_, h2⟩⟩
    · show (D.pures (w.map natD) && _) = true
      rw [h3, h1]; rfl
    · show D.deps (w.map natD) + 1 ≤ 2
      omega
theorem maxL_some : ∀ {zs : List Int}, zs ≠ [] → ∃ z, maxL zs = some z ∧ z ∈ zs ∧ ∀ y ∈ zs, y ≤ z := by
  intro zs h
  cases zs with
  | nil => exact absurd rfl h
  | cons x xs =>
    refine ⟨_, rfl, ?_⟩
    clear h
    induction xs generalizing x with
    | nil => exact ⟨List.mem_cons_self, fun y hy => by rw [List.mem_singleton.mp hy]; exact Int.le_refl _⟩
    | cons a xs ih =>
      rw [List.foldl_cons]
      obtain ⟨h1, h2⟩ := ih (max x a)
      constructor
      · rcases List.mem_cons.mp h1 with e | e
        · rw [e]
          by_cases hxa : x ≤ a
          · rw [Int.max_eq_right hxa]; exact List.mem_cons_of_mem _ List.mem_cons_self
          · rw [Int.max_eq_left (by omega)]; exact List.mem_cons_self
        · exact List.mem_cons_of_mem _ (List.mem_cons_of_mem _ e)
      · intro y hy
        have h3 := h2 (max x a) List.mem_cons_self
        rcases List.mem_cons.mp hy with e | e
        · rw [e]; omega
        · rcases List.mem_cons.mp e with e | e
          · rw [e]; omega
          · exact h2 y (List.mem_cons_of_mem _ e)
theorem p_max1I {S : Store} {zs : List Int} {z : Int} (h : maxL zs = some z) : prim1 S .max1 (.lst (zs.map .int)) = some (.int z) := by
  show maxD1 (zs.map D.int) = _
  unfold maxD1
  rw [intL_map]
  show (maxL zs).map D.int = _
  rw [h]; rfl
end
end Q
/-! the law: its tables -/
namespace Q
open PySem L2
def top (i : Nat) : Stmt := PySem.Challenge.pw_quaytide_k04_whole_work_of_cranes.main.body.getD i (.Pass ⟨0, 0, 0, 0⟩)
def f_busiest : Fd := ⟨2, 5, false, (.cons (.asg (.name 2) (.srtL 0 (.lc [3, 4] (.tup (.cons (.name 3) (.cons (.name 4) .nil))) (.enum (.var 0)) (.op .gt (.cons (.var 4) (.cons (.cst (.int 0)) .nil))) (.var 3)))) (.cons (.ret (.op .toTup (.cons (.op .srt (.cons (.op .slH (.cons (.var 2) (.cons (.var 1) .nil))) .nil)) .nil))) .nil))⟩
def f_work : Fd := ⟨2, 8, true, (.cons (.asg (.name 2) (.lc [5] (.name 5) (.seq (.var 0)) (.cst (.bl true)) (.op .len (.cons (.var 5) .nil)))) (.cons (.own 3 (.lst .nil)) (.cons (.while_ (.op .gt (.cons (.op .sum (.cons (.var 2) .nil)) (.cons (.cst (.int 0)) .nil))) (.cons (.asg (.name 4) (.call 35 (.cons (.var 2) (.cons (.var 1) .nil)))) (.cons (.app 3 (.var 4)) (.cons (.asg (.name 2) (.lc [6, 7] (.tup (.cons (.name 6) (.cons (.name 7) .nil))) (.enum (.var 2)) (.cst (.bl true)) (.op .sub (.cons (.var 7) (.cons (.op .toInt (.cons (.op .inn (.cons (.var 6) (.cons (.var 4) .nil))) .nil)) .nil))))) .nil)))) (.cons (.retO 3) .nil))))⟩
def f_is_turn : Fd := ⟨3, 4, false, (.cons (.ife (.or (.not (.op (.isi [.tuple]) (.cons (.var 2) .nil))) (.not (.chain .le .le (.cst (.int 1)) (.op .len (.cons (.var 2) .nil)) (.var 1)))) (.cons (.ret (.cst (.bl false))) .nil) .nil) (.cons (.ife (.not (.op .all (.cons (.lc [3] (.name 3) (.seq (.var 2)) (.cst (.bl true)) (.and (.op (.isi [.int]) (.cons (.var 3) .nil)) (.not (.op (.isi [.bool]) (.cons (.var 3) .nil))))) .nil))) (.cons (.ret (.cst (.bl false))) .nil) .nil) (.cons (.ret (.and (.op .eq (.cons (.op .toLst (.cons (.var 2) .nil)) (.cons (.op .sset (.cons (.var 2) .nil)) .nil))) (.op .all (.cons (.lc [3] (.name 3) (.seq (.var 2)) (.cst (.bl true)) (.chain .le .lt (.cst (.int 0)) (.var 3) (.op .len (.cons (.var 0) .nil)))) .nil)))) .nil)))⟩
def f_is_work : Fd := ⟨3, 8, false, (.cons (.ife (.or (.not (.op (.isi [.list]) (.cons (.var 2) .nil))) (.not (.op .all (.cons (.lc [4] (.name 4) (.seq (.var 2)) (.cst (.bl true)) (.call 52 (.cons (.var 0) (.cons (.var 1) (.cons (.var 4) .nil))))) .nil)))) (.cons (.ret (.cst (.bl false))) .nil) .nil) (.cons (.asg (.name 3) (.lc2 [4, 5] [5] (.name 4) (.seq (.var 2)) (.cst (.bl true)) (.name 5) (.seq (.var 4)) (.cst (.bl true)) (.var 5))) (.cons (.ret (.op .all (.cons (.lc [6, 7] (.tup (.cons (.name 6) (.cons (.name 7) .nil))) (.enum (.var 0)) (.cst (.bl true)) (.op .eq (.cons (.op .cnt (.cons (.var 3) (.cons (.var 6) .nil))) (.cons (.op .len (.cons (.var 7) .nil)) .nil)))) .nil))) .nil)))⟩
def f_why : Fd := ⟨2, 5, false, (.cons (.asg (.name 2) (.op .len (.cons (.call 36 (.cons (.var 0) (.cons (.var 1) .nil))) .nil))) (.cons (.for_ (.tup (.cons (.name 3) (.cons (.name 4) .nil))) (.enum (.var 0)) (.cons (.ife (.op .eq (.cons (.op .len (.cons (.var 4) .nil)) (.cons (.var 2) .nil))) (.cons (.ret (.tup (.cons (.cst (.str (Str.ofString "bay"))) (.cons (.var 3) .nil)))) .nil) .nil) .nil)) (.cons (.ret (.tup (.cons (.cst (.str (Str.ofString "all"))) .nil))) .nil)))⟩
def f__law_deck : Fd := ⟨2, 2, true, (.cons (.ife (.op .ge (.cons (.var 0) (.cons (.op .pow (.cons (.cst (.int 10)) (.cons (.cst (.int 18)) .nil))) .nil))) (.cons (.retF (.lst (.cons (.op .sub (.cons (.var 0) (.cons (.op .pow (.cons (.cst (.int 10)) (.cons (.cst (.int 18)) .nil))) .nil))) (.cons (.op .mod (.cons (.var 0) (.cons (.cst (.int 2147483579)) .nil))) (.cons (.var 1) .nil))))) .nil) .nil) (.cons (.retF (.lst (.cons (.cst (.int 0)) (.cons (.op .mod (.cons (.var 0) (.cons (.cst (.int 2147483579)) .nil))) (.cons (.var 1) .nil))))) .nil))⟩
def f__law_pick_10 : Fd := ⟨2, 4, false, (.cons (.ife (.op .gt (.cons (.op .ix (.cons (.var 0) (.cons (.cst (.int 0)) .nil))) (.cons (.cst (.int 1)) .nil))) (.cons (.asg (.name 3) (.op .mod (.cons (.op .ix (.cons (.var 0) (.cons (.cst (.int 0)) .nil))) (.cons (.var 1) .nil)))) (.cons (.setR (.var 0) (.cst (.int 0)) (.op .fdiv (.cons (.op .ix (.cons (.var 0) (.cons (.cst (.int 0)) .nil))) (.cons (.var 1) .nil)))) (.cons (.ret (.var 3)) .nil))) .nil) (.cons (.setR (.var 0) (.cst (.int 2)) (.op .add (.cons (.op .ix (.cons (.var 0) (.cons (.cst (.int 2)) .nil))) (.cons (.cst (.int 1)) .nil)))) (.cons (.asg (.name 2) (.op .mod (.cons (.op .pow (.cons (.op .add (.cons (.op .ix (.cons (.var 0) (.cons (.cst (.int 1)) .nil))) (.cons (.op .mul (.cons (.cst (.int 15485867)) (.cons (.op .ix (.cons (.var 0) (.cons (.cst (.int 2)) .nil))) .nil))) .nil))) (.cons (.cst (.int 5)) .nil))) (.cons (.cst (.int 2147483647)) .nil)))) (.cons (.asg (.name 3) (.op .fdiv (.cons (.op .mod (.cons (.op .pow (.cons (.op .add (.cons (.var 2) (.cons (.op .mul (.cons (.cst (.int 7919)) (.cons (.op .ix (.cons (.var 0) (.cons (.cst (.int 2)) .nil))) .nil))) .nil))) (.cons (.cst (.int 3)) .nil))) (.cons (.cst (.int 2147483629)) .nil))) (.cons (.cst (.int 32)) .nil)))) (.cons (.ife (.op .gt (.cons (.var 1) (.cons (.cst (.int 1000000)) .nil))) (.cons (.ret (.op .mod (.cons (.op .add (.cons (.op .mul (.cons (.var 3) (.cons (.cst (.int 2147483563)) .nil))) (.cons (.var 2) .nil))) (.cons (.var 1) .nil)))) .nil) .nil) (.cons (.ret (.op .mod (.cons (.var 3) (.cons (.var 1) .nil)))) .nil))))))⟩
def f__law_bays : Fd := ⟨1, 5, false, (.cons (.own 1 (.lst .nil)) (.cons (.for_ (.name 2) (.range1 (.op .add (.cons (.cst (.int 1)) (.cons (.call 10 (.cons (.var 0) (.cons (.cst (.int 6)) .nil))) .nil)))) (.cons (.asg (.name 3) (.op .ix (.cons (.lst (.cons (.call 10 (.cons (.var 0) (.cons (.cst (.int 6)) .nil))) (.cons (.cst (.int 5)) (.cons (.cst (.int 0)) (.cons (.cst (.int 1)) .nil))))) (.cons (.call 10 (.cons (.var 0) (.cons (.cst (.int 4)) .nil))) .nil)))) (.cons (.app 1 (.op .toTup (.cons (.lc [4] (.name 4) (.range1 (.var 3)) (.cst (.bl true)) (.tup (.cons (.op .add (.cons (.op .add (.cons (.cst (.str (Str.ofString "b"))) (.cons (.op .ix (.cons (.cst (.str (Str.ofString "abcdef"))) (.cons (.var 2) .nil))) .nil))) (.cons (.op .ix (.cons (.cst (.str (Str.ofString "abcde"))) (.cons (.var 4) .nil))) .nil))) (.cons (.op .add (.cons (.cst (.int 1)) (.cons (.call 10 (.cons (.var 0) (.cons (.cst (.int 9)) .nil))) .nil))) .nil)))) .nil))) .nil))) (.cons (.ret (.op .toTup (.cons (.ovar 1) .nil))) .nil)))⟩
def f__law_due_56 : Fd := ⟨2, 10, false, (.cons (.asg (.name 2) (.lc [6] (.name 6) (.seq (.var 0)) (.cst (.bl true)) (.op .len (.cons (.var 6) .nil)))) (.cons (.own 3 (.lst .nil)) (.cons (.while_ (.op .gt (.cons (.op .max1 (.cons (.var 2) .nil)) (.cons (.cst (.int 0)) .nil))) (.cons (.asg (.name 4) (.op .srt (.cons (.lc [7, 8] (.tup (.cons (.name 7) (.cons (.name 8) .nil))) (.enum (.var 2)) (.op .gt (.cons (.var 8) (.cons (.cst (.int 0)) .nil))) (.tup (.cons (.op .sub (.cons (.cst (.int 0)) (.cons (.var 8) .nil))) (.cons (.var 7) .nil)))) .nil))) (.cons (.asg (.name 5) (.op .srt (.cons (.lc [7, 9] (.tup (.cons (.name 9) (.cons (.name 7) .nil))) (.seq (.op .slH (.cons (.var 4) (.cons (.var 1) .nil)))) (.cst (.bl true)) (.var 7)) .nil))) (.cons (.app 3 (.op .toTup (.cons (.var 5) .nil))) (.cons (.asg (.name 2) (.lc [7, 8] (.tup (.cons (.name 7) (.cons (.name 8) .nil))) (.enum (.var 2)) (.cst (.bl true)) (.op .sub (.cons (.var 8) (.cons (.op .toInt (.cons (.op .inn (.cons (.var 7) (.cons (.var 5) .nil))) .nil)) .nil))))) .nil))))) (.cons (.frz 3) (.cons (.ret (.var 3)) .nil)))))⟩
def f_law_57 : Fd := ⟨1, 13, false, (.cons (.for_ (.name 1) (.seq (.op .add (.cons (.lst (.cons (.cst (.int 0)) .nil)) (.cons (.op .slH (.cons (.var 0) (.cons (.cst (.int 8)) .nil))) .nil)))) (.cons (.alloc 2 (.call 9 (.cons (.var 1) (.cons (.cst (.int 0)) .nil)))) (.cons (.asg (.name 3) (.call 55 (.cons (.var 2) .nil))) (.cons (.asg (.name 4) (.cst .non)) (.cons (.for_ (.name 5) (.seq (.tup (.cons (.cst (.int 1)) (.cons (.cst (.int 2)) (.cons (.cst (.int 3)) (.cons (.cst (.int 4)) .nil)))))) (.cons (.asg (.name 6) (.call 56 (.cons (.var 3) (.cons (.var 5) .nil)))) (.cons (.alloc 7 (.call 36 (.cons (.var 3) (.cons (.var 5) .nil)))) (.cons (.asg (.name 8) (.lc [10] (.name 10) (.seq (.var 3)) (.cst (.bl true)) (.op .len (.cons (.var 10) .nil)))) (.cons (.ife (.or (.not (.op (.isi [.list]) (.cons (.var 7) .nil))) (.op .ne (.cons (.var 7) (.cons (.var 6) .nil)))) (.cons (.ret (.cst (.bl false))) .nil) .nil) (.cons (.ife (.op .ne (.cons (.op .len (.cons (.var 7) .nil)) (.cons (.op .max2 (.cons (.op .max1 (.cons (.var 8) .nil)) (.cons (.op .fdiv (.cons (.op .sub (.cons (.op .add (.cons (.op .sum (.cons (.var 8) .nil)) (.cons (.var 5) .nil))) (.cons (.cst (.int 1)) .nil))) (.cons (.var 5) .nil))) .nil))) .nil))) (.cons (.ret (.cst (.bl false))) .nil) .nil) (.cons (.ife (.or (.op .notB (.cons (.pure (.call 53 (.cons (.var 3) (.cons (.var 5) (.cons (.var 7) .nil))))) (.cons (.cst (.bl true)) .nil))) (.and (.op .notN (.cons (.var 4) .nil)) (.op .gt (.cons (.op .len (.cons (.var 7) .nil)) (.cons (.var 4) .nil))))) (.cons (.ret (.cst (.bl false))) .nil) .nil) (.cons (.asg (.name 4) (.op .len (.cons (.var 7) .nil))) (.cons (.ife (.op .gt (.cons (.op .sum (.cons (.var 8) .nil)) (.cons (.cst (.int 0)) .nil))) (.cons (.asg (.name 9) (.lc [11, 12] (.tup (.cons (.name 11) (.cons (.name 12) .nil))) (.enum (.var 8)) (.op .eq (.cons (.var 12) (.cons (.op .len (.cons (.var 7) .nil)) .nil))) (.var 11))) (.cons (.ife (.op .ne (.cons (.call 54 (.cons (.var 3) (.cons (.var 5) .nil))) (.cons (.ife (.op .ne (.cons (.var 9) (.cons (.lst .nil) .nil))) (.tup (.cons (.cst (.str (Str.ofString "bay"))) (.cons (.op .ix (.cons (.var 9) (.cons (.cst (.int 0)) .nil))) .nil))) (.tup (.cons (.cst (.str (Str.ofString "all"))) .nil))) .nil))) (.cons (.ret (.cst (.bl false))) .nil) .nil) .nil)) .nil) (.cons (.appR (.var 7) (.cst .non)) (.cons (.ife (.op .ne (.cons (.call 36 (.cons (.var 3) (.cons (.var 5) .nil))) (.cons (.var 6) .nil))) (.cons (.ret (.cst (.bl false))) .nil) .nil) .nil))))))))))) .nil))))) (.cons (.ret (.cst (.bl true))) .nil))⟩
abbrev d_busiest : Dn := ⟨"busiest", 35, ["left", "cranes"], ["left", "cranes", "order", "place", "many"], top 1, f_busiest, true⟩
abbrev d_work : Dn := ⟨"work", 36, ["bays", "cranes"], ["bays", "cranes", "left", "found", "places", "bay", "place", "many"], top 2, f_work, false⟩
abbrev d_is_turn : Dn := ⟨"is_turn", 52, ["bays", "cranes", "thing"], ["bays", "cranes", "thing", "part"], top 3, f_is_turn, false⟩
abbrev d_is_work : Dn := ⟨"is_work", 53, ["bays", "cranes", "thing"], ["bays", "cranes", "thing", "done", "turn", "part", "place", "bay"], top 4, f_is_work, false⟩
abbrev d_why : Dn := ⟨"why", 54, ["bays", "cranes"], ["bays", "cranes", "many", "place", "bay"], top 5, f_why, false⟩
abbrev d__law_deck : Dn := ⟨"_law_deck", 9, ["cell", "turn"], ["cell", "turn"], top 7, f__law_deck, false⟩
abbrev d__law_pick : Dn := ⟨"_law_pick", 10, ["deck", "many"], ["deck", "many", "number", "found"], top 8, f__law_pick_10, false⟩
abbrev d__law_bays : Dn := ⟨"_law_bays", 55, ["deck"], ["deck", "found", "k", "size", "j"], top 9, f__law_bays, false⟩
abbrev d__law_due : Dn := ⟨"_law_due", 56, ["bays", "cranes"], ["bays", "cranes", "left", "found", "order", "places", "bay", "place", "many", "less"], top 10, f__law_due_56, false⟩
abbrev d_law : Dn := ⟨"law", 57, ["script"], ["script", "cell", "deck", "bays", "before", "cranes", "due", "told", "sizes", "some", "bay", "place", "size"], top 11, f_law_57, false⟩
def tb : Tb := ⟨[d_busiest, d_work, d_is_turn, d_is_work, d_why, d__law_deck, d__law_pick, d__law_bays, d__law_due, d_law],
  [], ["all", "bool", "enumerate", "int", "isinstance", "len", "list", "max", "range", "set", "sorted", "sum", "tuple"]⟩
def gd : Nat → Option D
  | _ => none
theorem tb_ck : tb.ds.all tb.chk = true := by decide +kernel
end Q
namespace Q
open PySem
/-! the work of cranes: the plain law -/
theorem h9 : tb.T 9 = some fd_deck := rfl
theorem h10 : tb.T 10 = some fd_pick := rfl
theorem h35 : tb.T 35 = some fdbusiest := rfl
theorem h36 : tb.T 36 = some fdwork := rfl
theorem h52 : tb.T 52 = some fdis_turn := rfl
theorem h53 : tb.T 53 = some fdis_work := rfl
theorem h55 : tb.T 55 = some fd_bays := rfl
def keyD (left : List Int) (p : Nat) : D := .tup [.int (0 - left.getD p 0), natD p]
theorem keys_pure (left : List Int) : ∀ ps : List Nat, D.pures (ps.map (keyD left)) = true ∧ D.deps (ps.map (keyD left)) ≤ 1 ∧ D.pys (ps.map (keyD left)) = ps.map fun p => .tuple [.int (0 - left.getD p 0), .int (p : Int)]
  | [] => ⟨rfl, Nat.zero_le _, rfl⟩
  | p :: ps => by
    obtain ⟨h1, h2, h3⟩ := keys_pure left ps
    rw [List.map_cons, D.pures, D.deps, D.pys, h1, h3]
    exact ⟨rfl, Nat.max_le.mpr ⟨Nat.le_refl _, h2⟩, rfl⟩
theorem p_srtK {S : Store} {left : List Int} {ps : List Nat} : prim1 S .srt (.lst (ps.map (keyD left))) = some (.lst ((ps.mergeSort (leKN left)).map (keyD left))) := by
  show srtD (ps.map (keyD left)) = _
  unfold srtD
  obtain ⟨q1, q2, q3⟩ := keys_pure left ps
  have a1 : alikeB (D.pys (ps.map (keyD left))) = true := by
    rw [q3]
    unfold alikeB
    simp [PySem.W.alike, PySem.W.alikeAll]
  have a2 : sortB (D.pys (ps.map (keyD left))) = true := by
    rw [q3]
    unfold sortB
    simp [tupB]
  rw [if_pos (by rw [q1, a1, a2, decide_eq_true (by omega : D.deps (ps.map (keyD left)) ≤ 60)]; rfl)]
  rw [← List.map_mergeSort (f := keyD left) (r := leKN left) (s := PySem.W.dataLe false D.py) (fun a _ b _ => ?_)]
  have := congrFun (congrFun (PySem.W.dataLe_ii (fun p : Nat => 0 - left.getD p 0) (fun p : Nat => (p : Int))) a) b
  rw [show PySem.W.dataLe false D.py (keyD left a) (keyD left b) = _ from this, Bool.eq_iff_iff, leKN_iff, decide_eq_true_eq]
  omega
theorem due_ok {bs : List D} {c m : Nat} {S : Store} {n : Nat} (hc : 1 ≤ c) (hb : ∀ b ∈ bs, bayB b = true) (h1 : bs ≠ []) (hm : (sizesOf bs).sum ≤ m) (hm2 : m ≤ 1000) :
    (callN tb.T gd (n + 1) 56 [.tup bs, natD c] S).sat fun d S' => S' = S ∧ d = .lst ((workN c m (sizesOf bs)).map turnD) := by
  refine sat_call (F := f__law_due_56) rfl rfl ?_
  simp [f__law_due_56, env0, Tg.set]
  refine ⟨_, rfl, ?_⟩
  refine sizes_flat hb (fun xs R hR => ?_) ?_
  · rw [sat_lcF]
    simp [wipeE, Tg.set]
    exact hR
  have hnum := workN_num c m (sizesOf bs)
  refine sat_while (fun k v S' => S' = S ∧ ∃ left done c4 c5, v = [.d (.tup bs), .d (natD c), .d (.lst (left.map D.int)), .own (done.map turnD), c4, c5, .non, .non, .non, .non] ∧ Nn left ∧ left ≠ [] ∧ left.sum ≤ k ∧ done ++ workN c k left = workN c m (sizesOf bs)) m _ _ ⟨rfl, sizesOf bs, [], .non, .non, rfl, sizes_nn bs, (fun e => h1 (List.map_eq_nil_iff.mp e)), hm, rfl⟩ ?_
  rintro k v _ ⟨rfl, left, done, c4, c5, rfl, hn, hne, hk, hd⟩
  obtain ⟨mx, e1, e2, e3⟩ := maxL_some hne
  simp [p_max1I e1]
  have hms : 0 < mx ↔ 0 < left.sum := by
    constructor
    · intro h
      have := mem_sum hn e2
      omega
    · intro h
      rcases Int.lt_or_le 0 mx with z | z
      · exact z
      · obtain ⟨p, hp⟩ := List.exists_mem_of_length_pos (pos_some hn h)
        have hp := mem_pos.mp hp
        have := e3 left[p] (List.getElem_mem hp.1)
        have hg : left.getD p 0 = left[p] := by rw [List.getD_eq_getElem?_getD, List.getElem?_eq_getElem hp.1]; rfl
        omega
  by_cases hs : 0 < left.sum
  · refine .inr ⟨hms.mpr hs, ?_⟩
    obtain ⟨k, rfl⟩ : ∃ k', k = k' + 1 := ⟨k - 1, by omega⟩
    have hd2 : (done ++ [turnL left c]) ++ workN c k (stepL left (turnL left c)) = workN c m (sizesOf bs) := by
      rw [← hd]
      rw [show workN c (k + 1) left = turnL left c :: workN c k (stepL left (turnL left c)) by
        show (if 0 < left.sum then _ else _) = _
        rw [if_pos hs]]
      simp
    have hlen : done.length < 1000000 := by
      have := congrArg List.length hd2
      simp at this
      omega
    refine ⟨_, rfl, ?_⟩
    rw [enumD_ints]
    refine sat_flat_on _ (fun i => if decide (0 < left.getD i 0) = true then [keyD left i] else []) _ _ (fun i hi R hR => ?_) ?_
    · rw [sat_lcF]
      simp [wipeE, Tg.set, Tgs.set]
      by_cases h : 0 < left.getD i 0
      · simp at h
        simp [h, keyD] at hR ⊢
        exact hR
      · simp at h
        have h' : ¬ 0 < left[i]?.getD 0 := by omega
        simp [h'] at hR ⊢
        exact hR
    have e4 : (List.range left.length).flatMap (fun i => if decide (0 < left.getD i 0) = true then [keyD left i] else []) = (posOf left).map (keyD left) := by
      unfold posOf
      generalize List.range left.length = l
      induction l with
      | nil => rfl
      | cons i l ih =>
        rw [List.flatMap_cons, ih, List.filter_cons]
        split <;> simp
    rw [e4]
    refine ⟨_, p_srtK, _, rfl, ?_⟩
    simp
    refine ⟨_, p_slH, _, rfl, ?_⟩
    rw [cut_hi (by omega), ← List.map_take, Int.toNat_natCast]
    refine sat_flat_on _ (fun p => [natD p]) _ _ (fun p hp R hR => ?_) ?_
    · rw [sat_lcF]
      simp [wipeE, Tg.set, Tgs.set, keyD]
      exact hR
    rw [fm_one]
    refine ⟨_, p_srtN, _, rfl, ?_⟩
    simp
    refine ⟨hlen, _, rfl, ?_⟩
    refine step_flat (ts := turnL left c) (fun i mm R hR => ?_) ?_
    · rw [sat_lcF]
      simp [wipeE, Tg.set, Tgs.set]
      refine ⟨_, p_innL, _, p_toIntB, ?_⟩
      simpa [turnL, ordOf] using hR
    · have h1 := step_sum (turn_nodup left c) (fun t ht => (turn_pos ht).1)
      have h2 := turn_len left c
      have h3 := pos_some hn hs
      refine ⟨_, rfl, k, Nat.lt_succ_self k, rfl, stepL left (turnL left c), done ++ [turnL left c], ⟨.d (.lst ((ordOf left).map (keyD left))), .d (.lst ((turnL left c).map natD)), ?_⟩, step_nn hn, ?_, ?_, hd2⟩
      · simp [turnD, turnL, ordOf]
      · intro e
        have := congrArg List.length e
        rw [step_len] at this
        exact hne (List.eq_nil_of_length_eq_zero this)
      · rw [h1, h2]; omega
  · refine .inl ⟨Int.not_lt.mp fun h => hs (hms.mp h), ?_⟩
    rw [workN_nil hs, List.append_nil] at hd
    rw [hd]

/-! ### why -/
def sameB (left : List Int) (many : Nat) (i : Nat) : Bool := decide (left.getD i 0 = (many : Int))
def whyD (left : List Int) (many : Nat) : D := match (List.range left.length).find? (sameB left many) with
  | some i => .tup [.str (Str.ofString "bay"), natD i]
  | none => .tup [.str (Str.ofString "all")]
theorem sizes_get {bs : List D} {i : Nat} (h : i < bs.length) : (sizesOf bs).getD i 0 = ((itemsOf bs[i]).length : Int) := by
  unfold sizesOf
  rw [List.getD_eq_getElem?_getD, List.getElem?_map, List.getElem?_eq_getElem h]; rfl
theorem why_ok {bs : List D} {c m : Nat} {S : Store} {n : Nat} (hc : 1 ≤ c) (hb : ∀ b ∈ bs, bayB b = true) (hm : (sizesOf bs).sum ≤ m) (hm2 : m ≤ 1000) :
    (callN tb.T gd (n + 3) 54 [.tup bs, natD c] S).sat fun d S' => S' = S ∧ d = whyD (sizesOf bs) (workN c m (sizesOf bs)).length := by
  refine sat_call (F := f_why) rfl rfl ?_
  simp [f_why, env0, Tg.set]
  refine (work_ok h35 h36 hc hb hm hm2).mono ?_
  rintro _ S1 ⟨hS1, rfl⟩
  subst hS1
  simp
  generalize hmany : (workN c m (sizesOf bs)).length = many
  refine ⟨_, rfl, ?_⟩
  rw [enumD_range]
  refine sat_forI (fun i v S' => S' = S1 ∧ (∃ c3 c4, v = [.d (.tup bs), .d (natD c), .d (.int many), c3, c4]) ∧ ∀ j, j < i → sameB (sizesOf bs) many j = false) _ _ _ ⟨rfl, ⟨_, _, rfl⟩, fun j hj => absurd hj (Nat.not_lt_zero _)⟩ ?_ ?_
  · rintro i x v _ hx ⟨rfl, ⟨c3, c4, rfl⟩, hj⟩
    rw [List.getElem?_map] at hx
    cases hr : (List.range bs.length)[i]? with
    | none => rw [hr] at hx; cases hx
    | some j =>
      have hil := (List.getElem?_eq_some_iff.mp hr).1
      rw [List.length_range] at hil
      rw [List.getElem?_range hil] at hr
      cases hr
      rw [List.getElem?_range hil] at hx
      cases hx
      have e3 : bs.getD i .non = bs[i] := by rw [List.getD_eq_getElem?_getD, List.getElem?_eq_getElem hil]; rfl
      show (forF _ _ _ _ (D.tup [natD i, bs.getD i .non]) _ _).sat _
      rw [e3, bay_of (hb _ (List.getElem_mem hil)), sat_forF]
      refine ⟨_, rfl, ?_⟩
      simp
      by_cases hs : ((itemsOf bs[i]).length : Int) = (many : Int)
      · have hp : sameB (sizesOf bs) many i = true := decide_eq_true (by rw [sizes_get hil]; exact hs)
        have hs' : (itemsOf bs[i]).length = many := by omega
        simp [hs']
        unfold whyD
        have : (List.range (sizesOf bs).length).find? (sameB (sizesOf bs) many) = some i := by
          rw [List.find?_range_eq_some]
          exact ⟨hp, by rw [List.mem_range, sizes_len]; exact hil, fun j h => by rw [hj j h]; rfl⟩
        rw [this]
      · have hs' : ¬ (itemsOf bs[i]).length = many := by omega
        rw [if_neg hs]
        intro j h
        rcases Nat.lt_succ_iff_lt_or_eq.mp h with h | h
        · exact hj j h
        · subst h
          exact decide_eq_false (by rw [sizes_get hil]; exact hs)
  · rintro v _ ⟨rfl, ⟨c3, c4, rfl⟩, hj⟩
    simp
    unfold whyD
    have : (List.range (sizesOf bs).length).find? (sameB (sizesOf bs) many) = none := by
      rw [List.find?_eq_none]
      intro x hx
      rw [List.mem_range, sizes_len] at hx
      rw [hj x (by rw [List.length_map, List.length_range]; exact hx)]
      simp
    rw [this]
/-! ### the law -/
theorem work_turns_ok {bs : List D} {c m : Nat} (hc : 1 ≤ c) (hm : (sizesOf bs).sum ≤ m) : workB bs c (.lst ((workN c m (sizesOf bs)).map turnD)) = true := by
  have hn := sizes_nn bs
  have hts := workN_turns hc m (sizesOf bs) hn
  rw [sizes_len] at hts
  unfold workB
  rw [Bool.and_eq_true]
  constructor
  · rw [List.all_eq_true]
    intro x hx
    obtain ⟨ts, ht, rfl⟩ := List.mem_map.mp hx
    have h := hts ts ht
    unfold turnD
    rw [nats_ints, turnB_tup, intL_map]
    simp only [List.length_map, Bool.and_eq_true, decide_eq_true_eq, List.all_eq_true]
    refine ⟨⟨⟨h.lo, h.hi⟩, ?_⟩, fun k hk => ?_⟩
    · rw [List.pairwise_map]
      exact h.up.imp fun {a b} q => by omega
    · obtain ⟨t, ht2, rfl⟩ := List.mem_map.mp hk
      have := h.lt t ht2
      omega
  · rw [List.all_eq_true]
    intro p hp
    have hp := List.mem_range.mp hp
    rw [decide_eq_true_eq, ← workN_cnt hc p m (sizesOf bs) hn hm (by rw [sizes_len]; exact hp)]
    generalize workN c m (sizesOf bs) = ws
    have e : doneOf (ws.map turnD) = (ws.flatten.map fun (t : Nat) => (t : Int)).map D.int := by
      induction ws with
      | nil => rfl
      | cons w ws ih =>
        show (w.map natD) ++ doneOf (ws.map turnD) = _
        rw [ih, nats_ints, List.flatten_cons, List.map_append, List.map_append]
    unfold cntOf
    rw [e, intL_map]
    show (List.count (p : Int) (ws.flatten.map fun (t : Nat) => (t : Int)) : Int) = _
    congr 1
    rw [List.count_eq_countP, List.countP_map, List.count_eq_countP]
    congr 1
    funext t
    simp only [Function.comp]
    rw [Bool.eq_iff_iff, beq_iff_eq, beq_iff_eq]
    omega
theorem sum_le_len : ∀ {bs : List D}, (∀ b ∈ bs, BayOk b) → (sizesOf bs).sum ≤ 5 * bs.length
  | [], _ => by simp [sizesOf]
  | b :: bs, h => by
    have ih := sum_le_len (bs := bs) fun x hx => h x (List.mem_cons_of_mem _ hx)
    have h1 := (h b List.mem_cons_self).2.1
    show ((itemsOf b).length : Int) + (sizesOf bs).sum ≤ _
    rw [List.length_cons]
    push_cast
    omega
theorem pures_of : ∀ {bs : List D}, (∀ b ∈ bs, D.pure b = true) → D.pures bs = true
  | [], _ => rfl
  | b :: bs, h => by rw [D.pures, h b List.mem_cons_self, pures_of fun x hx => h x (List.mem_cons_of_mem _ hx)]; rfl
theorem bays_ne {bs : List D} (h : 1 ≤ bs.length) : bs ≠ [] := by
  rintro rfl
  exact absurd h (by decide)
theorem turns_wt {nb c : Nat} : ∀ {ws : List (List Nat)}, (∀ w ∈ ws, TurnOk nb c w) → D.wts (ws.map turnD) ≤ (2 * c + 2) * ws.length
  | [], _ => Nat.zero_le _
  | w :: ws, h => by
    have ih := turns_wt (ws := ws) fun x hx => h x (List.mem_cons_of_mem _ hx)
    have h1 := (h w List.mem_cons_self).hi
    have h2 : ∀ ts : List Nat, D.wts (ts.map natD) = 2 * ts.length := fun ts => by
      induction ts with
      | nil => rfl
      | cons t ts ih =>
        rw [List.map_cons, D.wts, ih, List.length_cons]
        show 1 + 1 + 2 * ts.length = _
        omega
    rw [List.map_cons, D.wts, List.length_cons]
    show D.wts (w.map natD) + 1 + 1 + D.wts (ws.map turnD) ≤ _
    rw [h2, Nat.mul_add]
    omega
theorem fm_if_map {α β : Type} (p : α → Bool) (g : α → β) : ∀ xs : List α, xs.flatMap (fun x => if p x = true then [g x] else []) = (xs.filter p).map g
  | [] => rfl
  | x :: xs => by
    rw [List.flatMap_cons, fm_if_map p g xs, List.filter_cons]
    split <;> simp
theorem p_neRL {S : Store} {k : Nat} {xs ys : List D} (e : S[k]? = some (.lst xs)) (h1 : D.pures xs = true) (h2 : D.deps xs ≤ 60) (h3 : D.pures ys = true) (h4 : D.deps ys ≤ 60) : prim2 S .ne (.ref k) (.lst ys) = some (.bl (!eqDs xs ys)) := by
  have e0 : deref S (.ref k) = .lst xs := by simp [deref, e]
  show (if okEq (deref S (.ref k)) (deref S (.lst ys)) = true then some (eqD (deref S (.ref k)) (deref S (.lst ys))) else none).map (fun b => D.bl (!b)) = _
  rw [e0]
  show (if okEq (.lst xs) (.lst ys) = true then some (eqD (.lst xs) (.lst ys)) else none).map (fun b => D.bl (!b)) = _
  rw [if_pos (okEq_of (x := .lst xs) (y := .lst ys) (by simpa only [D.pure] using h1) (by simpa only [D.pure] using h3) (by simp only [D.dep]; omega) (by simp only [D.dep]; omega))]
  rfl
theorem len_eq {bs : List D} {c : Nat} {mx : Int} (hc : 1 ≤ c) (hs : (sizesOf bs).sum ≤ (30 : Nat)) (h : maxL (sizesOf bs) = some mx) (hne : sizesOf bs ≠ []) :
    ((workN c 30 (sizesOf bs)).length : Int) = if ((sizesOf bs).sum + c - 1) / (c : Int) > mx then ((sizesOf bs).sum + c - 1) / (c : Int) else mx := by
  have hn := sizes_nn bs
  obtain ⟨z, e1, e2, e3⟩ := maxL_some hne
  rw [h] at e1; cases e1
  have h0 := hn mx e2
  generalize hq : ((sizesOf bs).sum + c - 1) / (c : Int) = q
  have hc0 : (0 : Int) < c := by omega
  have hq1 := Int.lt_ediv_add_one_mul_self ((sizesOf bs).sum + c - 1) hc0
  rw [hq, Int.add_mul, Int.one_mul] at hq1
  have hfit := workN_fit hc 30 (sizesOf bs) hn hs
  generalize hE : (if q > mx then q else mx) = E
  have hE1 : mx ≤ E ∧ q ≤ E := by rw [← hE]; split <;> omega
  have hL1 : (workN c 30 (sizesOf bs)).length ≤ E.toNat := by
    rw [workN_len hc hn hs]
    have e4 : ((E.toNat : Nat) : Int) = E := Int.toNat_of_nonneg (by omega)
    rw [e4]
    refine ⟨fun x hx => Int.le_trans (e3 x hx) hE1.1, ?_⟩
    have := Int.mul_le_mul_of_nonneg_right hE1.2 (Int.le_of_lt hc0)
    rw [Int.mul_comm (c : Int) E]
    omega
  have hm := hfit.1 mx e2
  have hq2 : q < (workN c 30 (sizesOf bs)).length + 1 := by
    rw [← hq]
    refine Int.ediv_lt_of_lt_mul hc0 ?_
    have := hfit.2
    rw [Int.add_mul, Int.one_mul, Int.mul_comm]
    omega
  rw [← hE]
  rw [← hE] at hL1
  split at hL1 <;> split <;> omega
theorem law_holds : ∀ ns : List Int, ns.length ≤ 63 → ∃ S, callN tb.T gd 60 d_law.f [.lst (ns.map D.int)] [] = .ok (.bl true) S := by
  intro ns hn
  suffices h : (callN tb.T gd 60 57 [.lst (ns.map D.int)] []).sat fun d _ => d = .bl true by
    obtain ⟨d, S, e, rfl⟩ := h.get
    exact ⟨S, e⟩
  refine sat_callX (F := f_law_57) rfl rfl ?_
  simp [f_law_57, env0, Tg.set]
  refine ⟨_, p_slH, _, p_cat ?_, _, rfl, ?_⟩
  · have := (cut_sub (xs := ns.map D.int) (lo := none) (hi := some 8)).1
    rw [List.length_map] at this
    show 1 + _ ≤ 1000000
    omega
  have hcells : ∀ x ∈ [D.int 0] ++ cut (ns.map D.int) none (some 8), ∃ c : Int, x = .int c := fun x hx => by
    rcases List.mem_append.mp hx with h | h
    · exact ⟨0, List.mem_singleton.mp h⟩
    · obtain ⟨c, _, rfl⟩ := List.mem_map.mp (cut_sub.2 x h)
      exact ⟨c, rfl⟩
  generalize [D.int 0] ++ cut (ns.map D.int) none (some 8) = cells at hcells
  refine sat_forI (fun i v S => ∃ c1 c2 c3 c4 c5 c6 c7 c8 c9, v = [.d (.lst (ns.map D.int)), c1, c2, c3, c4, c5, c6, c7, c8, c9, .non, .non, .non]) _ _ _ ⟨_, _, _, _, _, _, _, _, _, rfl⟩ ?_ ?_
  · rintro i x v S hi ⟨c1, c2, c3, c4, c5, c6, c7, c8, c9, rfl⟩
    obtain ⟨c, rfl⟩ := hcells x (List.mem_of_getElem? hi)
    rw [sat_forF]
    refine ⟨_, rfl, ?_⟩
    simp
    refine (deck_okG h9 (n := 58)).mono ?_
    rintro _ S1 ⟨rfl, a, rfl⟩
    refine ⟨_, rfl, ?_⟩
    have dk := dk_new (S := S1) (a := a) (b := c) (turn := 0) (m := 0) (by decide) (by decide)
    generalize S1 ++ [Ob.lst [D.int a, D.int (c % 2147483579), D.int 0]] = S2 at dk
    generalize S1.length = r at dk
    refine (bays_ok (n := 57) h10 h55 (dk.le (by decide) : Dk S2 r (100000 + 60))).mono ?_
    rintro _ S3 ⟨⟨bs, rfl, hb1, hb2, hb⟩, d3, x3⟩
    have hbb : ∀ b ∈ bs, bayB b = true := fun b h => (hb b h).1
    have hbp : D.pures bs = true := pures_of fun b h => (hb b h).2.2
    have hsum := sum_le_len hb
    have hsum : (sizesOf bs).sum ≤ (30 : Nat) := by omega
    simp [Tg.set]
    refine ⟨_, rfl, ?_⟩
    clear dk d3 x3
    refine sat_forI (fun j v S => ∃ c5 c6 c7 c8 c9, v = [.d (.lst (ns.map D.int)), .d (.int c), .d (.ref r), .d (.tup bs), .d (if j = 0 then .non else .int (workN j 30 (sizesOf bs)).length), c5, c6, c7, c8, c9, .non, .non, .non]) _ _ _ ⟨_, _, _, _, _, rfl⟩ ?_ ?_
    · rintro j x v S hj ⟨c5, c6, c7, c8, c9, rfl⟩
      obtain ⟨hj4, rfl⟩ : j < 4 ∧ x = natD (j + 1) := by
        match j, hj with
        | 0, h => cases h; exact ⟨by decide, rfl⟩
        | 1, h => cases h; exact ⟨by decide, rfl⟩
        | 2, h => cases h; exact ⟨by decide, rfl⟩
        | 3, h => cases h; exact ⟨by decide, rfl⟩
        | (j + 4), h => simp at h
      generalize hbv : (if j = 0 then D.non else D.int ↑(workN j 30 (sizesOf bs)).length) = bv
      generalize hcr : j + 1 = cr
      have hcr1 : 1 ≤ cr := by omega
      rw [sat_forF]
      refine ⟨_, rfl, ?_⟩
      simp
      refine (due_ok (n := 58) hcr1 hbb (bays_ne hb1) hsum (by decide)).mono ?_
      rintro _ S4 ⟨hS4, rfl⟩
      subst hS4
      refine ⟨_, rfl, ?_⟩
      simp
      refine (work_ok (n := 57) h35 h36 hcr1 hbb hsum (by decide)).mono ?_
      rintro _ S5 ⟨hS5, rfl⟩
      subst hS5
      generalize hW : workN cr 30 (sizesOf bs) = W
      have hne : sizesOf bs ≠ [] := fun e => bays_ne hb1 (List.map_eq_nil_iff.mp e)
      obtain ⟨wp1, wp2⟩ := turns_pure W
      have hget : (S5 ++ [Ob.lst (W.map turnD)])[S5.length]? = some (.lst (W.map turnD)) := by
        rw [List.getElem?_append_right (Nat.le_refl _), Nat.sub_self]; rfl
      generalize hS6 : S5 ++ [Ob.lst (W.map turnD)] = S6 at hget
      generalize hr2 : S5.length = t at hget
      refine ⟨_, rfl, ?_⟩
      rw [hS6]
      refine ⟨_, rfl, ?_⟩
      refine sizes_flat hbb (fun xs R hR => ?_) ?_
      · rw [sat_lcF]
        simp [wipeE, Tg.set]
        exact hR
      refine ⟨_, rfl, ?_⟩
      simp
      refine ⟨by simp [tyOf, hget], _, p_neRL hget wp1 (by omega) wp1 (by omega), ?_⟩
      rw [eqDs_self _ wp1]
      obtain ⟨mx, hmx, _⟩ := maxL_some hne
      simp [p_sumI, p_max1I hmx, p_lenR hget, natD]
      refine ⟨_, p_fdiv (by omega) (by omega), ?_⟩
      have hleq := len_eq hcr1 hsum hmx hne
      rw [hW] at hleq
      simp
      refine ⟨hleq, ?_⟩
      have hb' : bv = .non ∨ ∃ L : Int, bv = .int L ∧ ¬ L < W.length := by
        rw [← hbv]
        by_cases hj0 : j = 0
        · exact .inl (if_pos hj0)
        · rw [if_neg hj0]
          refine .inr ⟨_, rfl, ?_⟩
          have h1 : 1 ≤ j := by omega
          have hf := workN_fit h1 30 (sizesOf bs) (sizes_nn bs) hsum
          have : W.length ≤ (workN j 30 (sizesOf bs)).length := by
            rw [← hW, workN_len hcr1 (sizes_nn bs) hsum]
            exact ⟨hf.1, Int.le_trans hf.2 (Int.mul_le_mul_of_nonneg_right (by omega) (by omega))⟩
          omega
      have hturn : ∀ w ∈ W, TurnOk bs.length cr w := fun w hw => by
        have := workN_turns hcr1 30 (sizesOf bs) (sizes_nn bs) w (by rw [hW]; exact hw)
        rw [sizes_len] at this
        exact this
      have hWl : W.length ≤ 30 := by
        rw [← hW]
        exact workN_num cr 30 (sizesOf bs)
      have hwt : D.wt (.lst (W.map turnD)) ≤ 8000 := by
        have h1 := turns_wt hturn
        have h2 : (2 * cr + 2) * W.length ≤ 10 * 30 := Nat.mul_le_mul (by omega) hWl
        simp only [D.wt]
        omega
      have hbp' : D.pure (.tup bs) = true := by simpa only [D.pure] using hbp
      have hwk : workB bs cr (.lst (W.map turnD)) = true := by
        rw [← hW]
        exact work_turns_ok hcr1 hsum
      rw [st_pure]
      simp [snap_d hbp', snap_ref hget wp1, snap_d (S := S6) (x := .int (cr : Int)) rfl]
      refine (is_work_ok (n := 57) h52 h53 hbb (by omega : cr ≤ 60) hwt (by simpa only [D.pure] using wp1)).mono ?_
      rintro _ S7 ⟨hS7, rfl⟩
      subst hS7
      refine ⟨rfl, rfl, ?_⟩
      simp [hwk]
      generalize hF : (List.range (sizesOf bs).length).filter (sameB (sizesOf bs) W.length) = F
      have hwhy : whyD (sizesOf bs) W.length = match F with
        | i :: _ => .tup [.str (Str.ofString "bay"), natD i]
        | [] => .tup [.str (Str.ofString "all")] := by
        unfold whyD
        rw [← List.head?_filter]
        simp only [hF]
        cases F <;> rfl
      have hsplit : ∀ {A B : Prop}, A → (isNon bv = false → A → B) → (if isNon bv = true then A else B) := fun hA hB => by
        split
        · exact hA
        · rename_i h
          exact hB (by simpa using h) hA
      refine hsplit ?_ fun hb2 hA => ?_
      case refine_2 =>
        rcases hb' with rfl | ⟨L, rfl, hL⟩
        · cases hb2
        · refine ⟨_, p_lenR hget, _, rfl, ?_⟩
          simp [hL]
          simpa using hA
      refine ⟨_, p_lenR hget, _, rfl, ?_⟩
      simp [p_sumI]
      have hj1 : ¬ cr = 0 := by omega
      by_cases h0 : 0 < (sizesOf bs).sum
      · rw [if_pos h0]
        refine ⟨_, rfl, ?_⟩
        rw [enumD_ints]
        refine sat_flat_on _ (fun i => if sameB (sizesOf bs) W.length i = true then [natD i] else []) _ _ (fun i hi R hR => ?_) ?_
        · rw [sat_lcF]
          simp only [wipeE, Tg.set, Tgs.set]
          refine ⟨_, rfl, ?_⟩
          simp
          refine ⟨_, p_lenR hget, _, p_eq_int, ?_⟩
          unfold sameB at hR
          simp at hR ⊢
          by_cases hq : (sizesOf bs)[i]?.getD 0 = (W.length : Int)
          · rw [if_pos hq] at hR ⊢
            exact hR
          · rw [if_neg hq] at hR ⊢
            exact hR
        rw [fm_if_map, hF]
        refine ⟨_, rfl, ?_⟩
        simp
        refine (why_ok (n := 56) hcr1 hbb hsum (by decide)).mono ?_
        rintro _ S7 ⟨hS7, rfl⟩
        subst hS7
        rw [hW, hwhy]
        obtain ⟨f1, f2⟩ := nats_pure F
        refine ⟨_, p_neL f1 (by omega), ?_⟩
        cases F with
        | nil =>
          simp
          refine ⟨_, p_ne_of (by rfl) (by rfl) (by decide) (by decide), ?_⟩
          rw [eqD_self _ (by rfl)]
          simp
          refine ⟨_, hget, ?_, ?_⟩
          · rw [List.length_map]; show W.length < 1000000; omega
          refine (work_ok (n := 57) h35 h36 hcr1 hbb hsum (by decide)).mono ?_
          rintro _ S8 ⟨hS8, rfl⟩
          subst hS8
          refine ⟨_, p_ne_of (x := .lst ((workN cr 30 (sizesOf bs)).map turnD)) (y := .lst (W.map turnD)) ?_ ?_ ?_ ?_, ?_⟩
          · rw [hW]; simpa only [D.pure] using wp1
          · simpa only [D.pure] using wp1
          · rw [hW]; simp only [D.dep]; omega
          · simp only [D.dep]; omega
          rw [hW, eqD_self (.lst (W.map turnD)) (by simpa only [D.pure] using wp1)]
          simp
          exact hj1
        | cons f fs =>
          simp
          refine ⟨_, p_ix_l (n := 0) (by simp [ixAt]), ?_⟩
          refine ⟨_, p_ne_of (by rfl) (by rfl) (by simp [D.dep, D.deps, natD]) (by simp [D.dep, D.deps, natD]), ?_⟩
          rw [eqD_self _ (by rfl)]
          simp
          refine ⟨_, hget, ?_, ?_⟩
          · rw [List.length_map]; show W.length < 1000000; omega
          refine (work_ok (n := 57) h35 h36 hcr1 hbb hsum (by decide)).mono ?_
          rintro _ S8 ⟨hS8, rfl⟩
          subst hS8
          refine ⟨_, p_ne_of (x := .lst ((workN cr 30 (sizesOf bs)).map turnD)) (y := .lst (W.map turnD)) ?_ ?_ ?_ ?_, ?_⟩
          · rw [hW]; simpa only [D.pure] using wp1
          · simpa only [D.pure] using wp1
          · rw [hW]; simp only [D.dep]; omega
          · simp only [D.dep]; omega
          rw [hW, eqD_self (.lst (W.map turnD)) (by simpa only [D.pure] using wp1)]
          simp
          exact hj1
      · rw [if_neg h0]
        refine ⟨_, hget, ?_, ?_⟩
        · rw [List.length_map]; show W.length < 1000000; omega
        refine (work_ok (n := 57) h35 h36 hcr1 hbb hsum (by decide)).mono ?_
        rintro _ S8 ⟨hS8, rfl⟩
        subst hS8
        refine ⟨_, p_ne_of (x := .lst ((workN cr 30 (sizesOf bs)).map turnD)) (y := .lst (W.map turnD)) ?_ ?_ ?_ ?_, ?_⟩
        · rw [hW]; simpa only [D.pure] using wp1
        · simpa only [D.pure] using wp1
        · rw [hW]; simp only [D.dep]; omega
        · simp only [D.dep]; omega
        rw [hW, eqD_self (.lst (W.map turnD)) (by simpa only [D.pure] using wp1)]
        simp
        exact hj1
    · rintro v S ⟨c5, c6, c7, c8, c9, rfl⟩
      exact ⟨_, _, _, _, _, _, _, _, _, rfl⟩
  · rintro v S ⟨c1, c2, c3, c4, c5, c6, c7, c8, c9, rfl⟩
    simp [D.under]
end Q
/-! the law: its end -/
namespace Q
open PySem L2
def gv : Nat → V
  | _ => .non
theorem all_mk {l : PySem.W.OpenLaw} {w : World} {K : Fg} {h : Heap} {mg : Str → Option Value} {fa f0 f1 f2 f3 f4 f5 f6 f7 f8 f9 : Addr} (X : K.In h) (G : h.Ns mainGlobals mg) (hfa : mg "law" = some (.ref fa))
    {od0 an0 od1 an1 od2 an2 od3 an3 od4 an4 od5 an5 od6 an6 od7 an7 od8 an8 od9 an9 : Option Addr} {sl0 sl1 sl2 sl3 sl4 sl5 sl6 sl7 sl8 sl9 : Array (Option Value)} {oc0 kV0 dc0 pm0 cd0 ct0 oc1 kV1 dc1 pm1 cd1 ct1 oc2 kV2 dc2 pm2 cd2 ct2 oc3 kV3 dc3 pm3 cd3 ct3 oc4 kV4 dc4 pm4 cd4 ct4 oc5 kV5 dc5 pm5 cd5 ct5 oc6 kV6 dc6 pm6 cd6 ct6 oc7 kV7 dc7 pm7 cd7 ct7 oc8 kV8 dc8 pm8 cd8 ct8 oc9 kV9 dc9 pm9 cd9 ct9 : Value}
    (a0 : PySem.W.nsIn K mainGlobals "busiest" = some (some (.ref f0))) (l0 : K.lookup f0 = some ⟨oc0, od0, .func (PySem.W.fnOf "busiest" "busiest" (defArgs (top 1)) (defBody (top 1)) (defScope (top 1)) .none kV0 dc0 pm0 an0 cd0 ct0), sl0⟩) (c0 : PySem.W.codeIn K cd0 "busiest" = true) (k0 : PySem.W.keepIn K (.ref f0) = true)
    (a1 : PySem.W.nsIn K mainGlobals "work" = some (some (.ref f1))) (l1 : K.lookup f1 = some ⟨oc1, od1, .func (PySem.W.fnOf "work" "work" (defArgs (top 2)) (defBody (top 2)) (defScope (top 2)) .none kV1 dc1 pm1 an1 cd1 ct1), sl1⟩) (c1 : PySem.W.codeIn K cd1 "work" = true) (k1 : PySem.W.keepIn K (.ref f1) = true)
    (a2 : PySem.W.nsIn K mainGlobals "is_turn" = some (some (.ref f2))) (l2 : K.lookup f2 = some ⟨oc2, od2, .func (PySem.W.fnOf "is_turn" "is_turn" (defArgs (top 3)) (defBody (top 3)) (defScope (top 3)) .none kV2 dc2 pm2 an2 cd2 ct2), sl2⟩) (c2 : PySem.W.codeIn K cd2 "is_turn" = true) (k2 : PySem.W.keepIn K (.ref f2) = true)
    (a3 : PySem.W.nsIn K mainGlobals "is_work" = some (some (.ref f3))) (l3 : K.lookup f3 = some ⟨oc3, od3, .func (PySem.W.fnOf "is_work" "is_work" (defArgs (top 4)) (defBody (top 4)) (defScope (top 4)) .none kV3 dc3 pm3 an3 cd3 ct3), sl3⟩) (c3 : PySem.W.codeIn K cd3 "is_work" = true) (k3 : PySem.W.keepIn K (.ref f3) = true)
    (a4 : PySem.W.nsIn K mainGlobals "why" = some (some (.ref f4))) (l4 : K.lookup f4 = some ⟨oc4, od4, .func (PySem.W.fnOf "why" "why" (defArgs (top 5)) (defBody (top 5)) (defScope (top 5)) .none kV4 dc4 pm4 an4 cd4 ct4), sl4⟩) (c4 : PySem.W.codeIn K cd4 "why" = true) (k4 : PySem.W.keepIn K (.ref f4) = true)
    (a5 : PySem.W.nsIn K mainGlobals "_law_deck" = some (some (.ref f5))) (l5 : K.lookup f5 = some ⟨oc5, od5, .func (PySem.W.fnOf "_law_deck" "_law_deck" (defArgs (top 7)) (defBody (top 7)) (defScope (top 7)) .none kV5 dc5 pm5 an5 cd5 ct5), sl5⟩) (c5 : PySem.W.codeIn K cd5 "_law_deck" = true) (k5 : PySem.W.keepIn K (.ref f5) = true)
    (a6 : PySem.W.nsIn K mainGlobals "_law_pick" = some (some (.ref f6))) (l6 : K.lookup f6 = some ⟨oc6, od6, .func (PySem.W.fnOf "_law_pick" "_law_pick" (defArgs (top 8)) (defBody (top 8)) (defScope (top 8)) .none kV6 dc6 pm6 an6 cd6 ct6), sl6⟩) (c6 : PySem.W.codeIn K cd6 "_law_pick" = true) (k6 : PySem.W.keepIn K (.ref f6) = true)
    (a7 : PySem.W.nsIn K mainGlobals "_law_bays" = some (some (.ref f7))) (l7 : K.lookup f7 = some ⟨oc7, od7, .func (PySem.W.fnOf "_law_bays" "_law_bays" (defArgs (top 9)) (defBody (top 9)) (defScope (top 9)) .none kV7 dc7 pm7 an7 cd7 ct7), sl7⟩) (c7 : PySem.W.codeIn K cd7 "_law_bays" = true) (k7 : PySem.W.keepIn K (.ref f7) = true)
    (a8 : PySem.W.nsIn K mainGlobals "_law_due" = some (some (.ref f8))) (l8 : K.lookup f8 = some ⟨oc8, od8, .func (PySem.W.fnOf "_law_due" "_law_due" (defArgs (top 10)) (defBody (top 10)) (defScope (top 10)) .none kV8 dc8 pm8 an8 cd8 ct8), sl8⟩) (c8 : PySem.W.codeIn K cd8 "_law_due" = true) (k8 : PySem.W.keepIn K (.ref f8) = true)
    (a9 : PySem.W.nsIn K mainGlobals "law" = some (some (.ref f9))) (l9 : K.lookup f9 = some ⟨oc9, od9, .func (PySem.W.fnOf "law" "law" (defArgs (top 11)) (defBody (top 11)) (defScope (top 11)) .none kV9 dc9 pm9 an9 cd9 ct9), sl9⟩) (c9 : PySem.W.codeIn K cd9 "law" = true) (k9 : PySem.W.keepIn K (.ref f9) = true)
    (b0 : PySem.W.nsIn K mainGlobals "all" = some none)
    (b1 : PySem.W.nsIn K mainGlobals "bool" = some none)
    (b2 : PySem.W.nsIn K mainGlobals "enumerate" = some none)
    (b3 : PySem.W.nsIn K mainGlobals "int" = some none)
    (b4 : PySem.W.nsIn K mainGlobals "isinstance" = some none)
    (b5 : PySem.W.nsIn K mainGlobals "len" = some none)
    (b6 : PySem.W.nsIn K mainGlobals "list" = some none)
    (b7 : PySem.W.nsIn K mainGlobals "max" = some none)
    (b8 : PySem.W.nsIn K mainGlobals "range" = some none)
    (b9 : PySem.W.nsIn K mainGlobals "set" = some none)
    (b10 : PySem.W.nsIn K mainGlobals "sorted" = some none)
    (b11 : PySem.W.nsIn K mainGlobals "sum" = some none)
    (b12 : PySem.W.nsIn K mainGlobals "tuple" = some none)
    {tc0 tp0 : Addr} (t0 : PySem.W.tabIn K "busiest" = some (tc0, tp0)) (n0 : K.lookup tp0 = none)
    : LawAtT l w K 60 63 "script" mg fa ["busiest"] := by
  have e := hfa.symm.trans (PySem.W.mg_of X G a9)
  cases e
  have F0 := fun_mk (st := top 1) l0 c0 k0
  have D0 : DnAt K mg d_busiest f0 _ := ⟨F0, PySem.W.mg_of X G a0, F0.binds fun _ _ _ _ _ _ us hl => match us, hl with | [_, _], _ => rfl⟩
  have F1 := fun_mk (st := top 2) l1 c1 k1
  have D1 : DnAt K mg d_work f1 _ := ⟨F1, PySem.W.mg_of X G a1, F1.binds fun _ _ _ _ _ _ us hl => match us, hl with | [_, _], _ => rfl⟩
  have F2 := fun_mk (st := top 3) l2 c2 k2
  have D2 : DnAt K mg d_is_turn f2 _ := ⟨F2, PySem.W.mg_of X G a2, F2.binds fun _ _ _ _ _ _ us hl => match us, hl with | [_, _, _], _ => rfl⟩
  have F3 := fun_mk (st := top 4) l3 c3 k3
  have D3 : DnAt K mg d_is_work f3 _ := ⟨F3, PySem.W.mg_of X G a3, F3.binds fun _ _ _ _ _ _ us hl => match us, hl with | [_, _, _], _ => rfl⟩
  have F4 := fun_mk (st := top 5) l4 c4 k4
  have D4 : DnAt K mg d_why f4 _ := ⟨F4, PySem.W.mg_of X G a4, F4.binds fun _ _ _ _ _ _ us hl => match us, hl with | [_, _], _ => rfl⟩
  have F5 := fun_mk (st := top 7) l5 c5 k5
  have D5 : DnAt K mg d__law_deck f5 _ := ⟨F5, PySem.W.mg_of X G a5, F5.binds fun _ _ _ _ _ _ us hl => match us, hl with | [_, _], _ => rfl⟩
  have F6 := fun_mk (st := top 8) l6 c6 k6
  have D6 : DnAt K mg d__law_pick f6 _ := ⟨F6, PySem.W.mg_of X G a6, F6.binds fun _ _ _ _ _ _ us hl => match us, hl with | [_, _], _ => rfl⟩
  have F7 := fun_mk (st := top 9) l7 c7 k7
  have D7 : DnAt K mg d__law_bays f7 _ := ⟨F7, PySem.W.mg_of X G a7, F7.binds fun _ _ _ _ _ _ us hl => match us, hl with | [_], _ => rfl⟩
  have F8 := fun_mk (st := top 10) l8 c8 k8
  have D8 : DnAt K mg d__law_due f8 _ := ⟨F8, PySem.W.mg_of X G a8, F8.binds fun _ _ _ _ _ _ us hl => match us, hl with | [_, _], _ => rfl⟩
  have F9 := fun_mk (st := top 11) l9 c9 k9
  have D9 : DnAt K mg d_law fa _ := ⟨F9, PySem.W.mg_of X G a9, F9.binds fun _ _ _ _ _ _ us hl => match us, hl with | [_], _ => rfl⟩
  have T : TbAt K mg tb gd gv := ⟨List.forall_mem_cons.mpr ⟨⟨f0, _, D0⟩, List.forall_mem_cons.mpr ⟨⟨f1, _, D1⟩, List.forall_mem_cons.mpr ⟨⟨f2, _, D2⟩, List.forall_mem_cons.mpr ⟨⟨f3, _, D3⟩, List.forall_mem_cons.mpr ⟨⟨f4, _, D4⟩, List.forall_mem_cons.mpr ⟨⟨f5, _, D5⟩, List.forall_mem_cons.mpr ⟨⟨f6, _, D6⟩, List.forall_mem_cons.mpr ⟨⟨f7, _, D7⟩, List.forall_mem_cons.mpr ⟨⟨f8, _, D8⟩, List.forall_mem_cons.mpr ⟨⟨fa, _, D9⟩, List.forall_mem_nil _⟩⟩⟩⟩⟩⟩⟩⟩⟩⟩,
    fun x k e => lookup_all (l := tb.gl) (Q := fun x k => ∃ u d, mg x = some u ∧ RelV (gv k) u ∧ gd k = some d ∧ ∀ N μ H, VD K N μ H (gv k) d) (List.forall_mem_nil _) e,
    List.forall_mem_cons.mpr ⟨PySem.W.mg_none_of X G b0, List.forall_mem_cons.mpr ⟨PySem.W.mg_none_of X G b1, List.forall_mem_cons.mpr ⟨PySem.W.mg_none_of X G b2, List.forall_mem_cons.mpr ⟨PySem.W.mg_none_of X G b3, List.forall_mem_cons.mpr ⟨PySem.W.mg_none_of X G b4, List.forall_mem_cons.mpr ⟨PySem.W.mg_none_of X G b5, List.forall_mem_cons.mpr ⟨PySem.W.mg_none_of X G b6, List.forall_mem_cons.mpr ⟨PySem.W.mg_none_of X G b7, List.forall_mem_cons.mpr ⟨PySem.W.mg_none_of X G b8, List.forall_mem_cons.mpr ⟨PySem.W.mg_none_of X G b9, List.forall_mem_cons.mpr ⟨PySem.W.mg_none_of X G b10, List.forall_mem_cons.mpr ⟨PySem.W.mg_none_of X G b11, List.forall_mem_cons.mpr ⟨PySem.W.mg_none_of X G b12, List.forall_mem_nil _⟩⟩⟩⟩⟩⟩⟩⟩⟩⟩⟩⟩⟩,
    fun d hd => List.all_eq_true.mp tb_ck d hd, by decide⟩
  exact law_at (ts := [("busiest", tc0, tp0)]) X G T (d := d_law) (n := 60) (List.mem_of_getElem? (i := 9) rfl) D9 rfl
    (List.forall_mem_cons.mpr ⟨⟨t0, n0⟩, (fun _ h => absurd h List.not_mem_nil)⟩)
    (List.forall_mem_cons.mpr ⟨(fun _ => List.mem_of_getElem? (i := 0) rfl), List.forall_mem_cons.mpr ⟨(fun h => nomatch h), List.forall_mem_cons.mpr ⟨(fun h => nomatch h), List.forall_mem_cons.mpr ⟨(fun h => nomatch h), List.forall_mem_cons.mpr ⟨(fun h => nomatch h), List.forall_mem_cons.mpr ⟨(fun h => nomatch h), List.forall_mem_cons.mpr ⟨(fun h => nomatch h), List.forall_mem_cons.mpr ⟨(fun h => nomatch h), List.forall_mem_cons.mpr ⟨(fun h => nomatch h), List.forall_mem_cons.mpr ⟨(fun h => nomatch h), (fun _ h => absurd h List.not_mem_nil)⟩⟩⟩⟩⟩⟩⟩⟩⟩⟩)
    (by simp) (fun s u => .of_eq rfl) law_holds
theorem walk {l : PySem.W.OpenLaw} {q : Program} {loose : List Str} {XP : (Str → Option Value) → Heap → Prop} {YP : World → Heap → Prop} {d : DefRec} {K : Params → PySem.W.Frag} {names : List Str} (hn : l.most = some 63) (hdf : d.params.defaults = [])
    (hrec : (names.all fun y => ((PyProof.Rows.recsOf q).find? fun e => e.name == y).isSome) = true) (hY : ∀ (w : World) (h : Heap), YP w h → (K w.params).In h)
    (F : ∀ (w : World) (mg : Str → Option Value) (fa : Addr) (h : Heap), (K w.params).In h → h.Ns mainGlobals mg → mg d.name = some (.ref fa) → LawAtT l w (K w.params) 60 63 "script" mg fa names) :
    PySem.W.WalkO q loose XP YP l.row.toRowW d [] (fun f vs => PySem.call f vs) :=
  walk_ofT hn (by decide) hdf ⟨rfl, by decide, by decide⟩ (fun y hy => Option.isSome_iff_exists.mp (List.all_eq_true.mp hrec y hy)) hY F
end Q
open PySem PySem.W PyProof.Rows
set_option maxRecDepth 100000 in
set_option maxHeartbeats 0 in
theorem PySem.Challenge.cw_quaytide_k04_whole_work_of_cranes_holds : PySem.Challenge.rw_quaytide_k04_whole_work_of_cranes.Holds := by
  w_on; o_law; k_head; (case hw => w_witness2)
  k_fill
  refine Q.walk (l := PySem.Challenge.rw_quaytide_k04_whole_work_of_cranes) (names := ["busiest"]) rfl rfl ?hrec (fun w h Y => PySem.W.km_in_of Y) ?F
  case hrec => decide +kernel
  case F =>
    intro w mg fa h KX G hmg
    refine' Q.all_mk KX G hmg ?a0 ?l0 ?c0 ?k0 ?a1 ?l1 ?c1 ?k1 ?a2 ?l2 ?c2 ?k2 ?a3 ?l3 ?c3 ?k3 ?a4 ?l4 ?c4 ?k4 ?a5 ?l5 ?c5 ?k5 ?a6 ?l6 ?c6 ?k6 ?a7 ?l7 ?c7 ?k7 ?a8 ?l8 ?c8 ?k8 ?a9 ?l9 ?c9 ?k9 ?b0 ?b1 ?b2 ?b3 ?b4 ?b5 ?b6 ?b7 ?b8 ?b9 ?b10 ?b11 ?b12 ?t0 ?n0
    (case a0 => k_is)
    (case l0 => k_is)
    (case c0 => k_is)
    (case k0 => k_is)
    (case a1 => k_is)
    (case l1 => k_is)
    (case c1 => k_is)
    (case k1 => k_is)
    (case a2 => k_is)
    (case l2 => k_is)
    (case c2 => k_is)
    (case k2 => k_is)
    (case a3 => k_is)
    (case l3 => k_is)
    (case c3 => k_is)
    (case k3 => k_is)
    (case a4 => k_is)
    (case l4 => k_is)
    (case c4 => k_is)
    (case k4 => k_is)
    (case a5 => k_is)
    (case l5 => k_is)
    (case c5 => k_is)
    (case k5 => k_is)
    (case a6 => k_is)
    (case l6 => k_is)
    (case c6 => k_is)
    (case k6 => k_is)
    (case a7 => k_is)
    (case l7 => k_is)
    (case c7 => k_is)
    (case k7 => k_is)
    (case a8 => k_is)
    (case l8 => k_is)
    (case c8 => k_is)
    (case k8 => k_is)
    (case a9 => k_is)
    (case l9 => k_is)
    (case c9 => k_is)
    (case k9 => k_is)
    (case b0 => k_is)
    (case b1 => k_is)
    (case b2 => k_is)
    (case b3 => k_is)
    (case b4 => k_is)
    (case b5 => k_is)
    (case b6 => k_is)
    (case b7 => k_is)
    (case b8 => k_is)
    (case b9 => k_is)
    (case b10 => k_is)
    (case b11 => k_is)
    (case b12 => k_is)
    (case t0 => exact rfl)
    (case n0 => exact rfl)
