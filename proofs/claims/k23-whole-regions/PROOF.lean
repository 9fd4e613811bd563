import PyProof.Rows.All
import Wide.All
import OpenK.AllK
import Wide.FinOn
import KE.GoesNew
import HandS.ForMost
import HandS.Zip
import HandS.TupAny
import HandS.Style
import HandS.Gcd
import HandS.SortKw
import HandS.FStrTup
import KE.DataMinMax
import Flt.RightSqrt
import KE.KMathG
import PySem.Challenge.RW_nonearer_k23_whole_regions_in_regions
set_option Elab.async false
set_option linter.all false
set_option maxRecDepth 100000
set_option maxHeartbeats 1000000
/-! zip of three tuples of one length, as something that a comprehension walks. -/
namespace Ng
open PySem PySem.Spec PyProof.Rows L2
/-- three tuples as they stand at each turn; the items come in a new tuple of three -/
def It3 (K : PySem.W.Frag) (a b c : Addr) : It where
  go i H := ∃ (xs ys zs : List V) (x y u : V), (SqT K H a xs ∧ SqT K H b ys ∧ SqT K H c zs) ∧ xs[i]? = some x ∧ ys[i]? = some y ∧ zs[i]? = some u
  yld i H v H' := ∃ T x y u, v = .ref T ∧ H T = none ∧ H' = upd H T (.tup [x, y, u]) ∧
    (∀ xs, SqT K H a xs → xs[i]? = some x) ∧ (∀ ys, SqT K H b ys → ys[i]? = some y) ∧ ∀ zs, SqT K H c zs → zs[i]? = some u
  stop i H := ∃ xs ys zs : List V, (SqT K H a xs ∧ SqT K H b ys ∧ SqT K H c zs) ∧ xs.length = i ∧ ys.length = i ∧ zs.length = i
def St3 (z TI TO i1 i2 i3 a b c : Addr) (i : Nat) (h : Heap) : Prop :=
  IsZip h z TI TO .none ∧ IsTupOf3 h TI (.ref i1) (.ref i2) (.ref i3) ∧ (∃ q1 q2 q3, IsTupOf3 h TO q1 q2 q3) ∧ h.IsTupleIter i1 a i ∧ h.IsTupleIter i2 b i ∧ h.IsTupleIter i3 c i
theorem mem6 {x z TI TO i1 i2 i3 : Addr} (h : x ∈ [z, TI, TO, i1, i2, i3]) : x = z ∨ x = TI ∨ x = TO ∨ x = i1 ∨ x = i2 ∨ x = i3 := by simpa using h
theorem turn3 {P : Program} {w : World} {K : PySem.W.Frag} {elts : List Expr} {kk : Nat} {tpos : Pos} {a b c z TI TO i1 i2 i3 : Addr}
    (S : ZipSep3 z TI TO i1 i2 i3 [i1, a] [i2, b] [i3, c]) (na : a ≠ i1) (nb : b ≠ i2) (nc : c ≠ i3) :
    Turn P w K (.Tuple elts kk tpos) (It3 K a b c) [z, TI, TO, i1, i2, i3] z (St3 z TI TO i1 i2 i3 a b c) where
  mem := by simp
  obj := by
    rintro i h ⟨hz, hT, ⟨q1, q2, q3, hO⟩, ⟨o1, e1, _, d1⟩, ⟨o2, e2, _, d2⟩, ⟨o3, e3, _, d3⟩⟩ x hx
    rcases mem6 hx with rfl | rfl | rfl | rfl | rfl | rfl
    · exact ⟨_, hz, fun v q => nomatch q⟩
    · exact ⟨_, hT, fun v q => nomatch q⟩
    · exact ⟨_, hO, fun v q => nomatch q⟩
    · exact ⟨o1, e1, fun v q => by rw [d1] at q; cases q⟩
    · exact ⟨o2, e2, fun v q => by rw [d2] at q; cases q⟩
    · exact ⟨o3, e3, fun v q => by rw [d3] at q; cases q⟩
  keep := by
    rintro i h h' ⟨hz, hT, ⟨q1, q2, q3, hO⟩, s1, s2, s3⟩ k
    exact ⟨k z (by simp) _ hz, k TI (by simp) _ hT, ⟨q1, q2, q3, k TO (by simp) _ hO⟩, s1.at fun o e => k i1 (by simp) o e, s2.at fun o e => k i2 (by simp) o e, s3.at fun o e => k i3 (by simp) o e⟩
  item := by
    rintro X rfl rfl rfl hc i pins s σ H E I hf ⟨hz, hT, hO, s1, s2, s3⟩ ⟨xs, ys, zs, x, y, u, ⟨qa, qb, qc⟩, hx, hy, hu⟩
    obtain ⟨v1, r1, p1, _⟩ := I.tuple qa
    obtain ⟨v2, r2, p2, _⟩ := I.tuple qb
    obtain ⟨v3, r3, p3, _⟩ := I.tuple qc
    have hh : X.A.in1.handled = none := I.ok.hd hc
    have G := GoesN.zip3 (elts := elts) (x1 := kk) (pos := tpos) S (Draws.tuple (prog := X.prog) (w := X.w) hh i1 a na v1.toArray) (Draws.tuple hh i2 b nb v2.toArray) (Draws.tuple hh i3 c nc v3.toArray)
    have l1 := r1.length
    have l2 := r2.length
    have l3 := r3.length
    have b1 := (List.getElem?_eq_some_iff.mp hx).1
    have b2 := (List.getElem?_eq_some_iff.mp hy).1
    have b3 := (List.getElem?_eq_some_iff.mp hu).1
    obtain ⟨w1, hw1, rw1⟩ := r1.get hx
    obtain ⟨w2, hw2, rw2⟩ := r2.get hy
    obtain ⟨w3, hw3, rw3⟩ := r3.get hu
    have lts : ∀ q ∈ [z, TI, TO, i1, i2, i3], q < s.heap.objs.size := by
      obtain ⟨q1, q2, q3, hO'⟩ := hO
      obtain ⟨_, e1, _⟩ := id s1
      obtain ⟨_, e2, _⟩ := id s2
      obtain ⟨_, e3, _⟩ := id s3
      intro q hq
      rcases mem6 hq with rfl | rfl | rfl | rfl | rfl | rfl
      · exact Heap.lt_size hz
      · exact Heap.lt_size hT
      · exact Heap.lt_size hO'
      · exact Heap.lt_size e1
      · exact Heap.lt_size e2
      · exact Heap.lt_size e3
    refine thn (G.goes i s (E := E) (by simp only [List.size_toArray]; omega) ⟨hz, hT, hO, ⟨s1, p1⟩, ⟨s2, p2⟩, ⟨s3, p3⟩⟩ (Q := fun v s2 => ∃ (xv : V) (H' : Hp), Inv X pins σ H' s2 ∧ RelV xv v ∧ (It3 X.K a b c).yld i H xv H' ∧ St3 z TI TO i1 i2 i3 a b c (i + 1) s2.heap ∧ ∀ q ∈ [z, TI, TO, i1, i2, i3], H' q = none) ?_) fun r s1 ⟨v, e, q⟩ => ⟨v, e, q⟩
    rintro v h' tk ⟨T, y1, y2, y3, rfl, hnew, e1, e2, e3, hTup⟩ ⟨hz', hT', hO', ⟨t1, _⟩, ⟨t2, _⟩, ⟨t3, _⟩⟩ hk _
    have E1 : y1 = w1 := Option.some.inj ((show v1[i]? = some y1 by simpa using e1).symm.trans hw1)
    have E2 : y2 = w2 := Option.some.inj ((show v2[i]? = some y2 by simpa using e2).symm.trans hw2)
    have E3 : y3 = w3 := Option.some.inj ((show v3[i]? = some y3 by simpa using e3).symm.trans hw3)
    subst E1 E2 E3
    have new : ObjOk X.prog X.w (upd H T (.tup [x, y, u])) h' T (.tup [x, y, u]) :=
      ⟨by show 3 ≤ sizeLine; decide, [y1, y2, y3], .cons rw1 (.cons rw2 (.cons rw3 .nil)), hTup⟩
    have I1 : Inv X pins σ (upd H T (.tup [x, y, u])) { s with heap := h', toks := tk } :=
      I.turnedNew (ch := [z, TI, TO, i1, i2, i3]) (fun q o hq e => hk q o (fun hm => hq (by simp only [List.mem_cons, List.not_mem_nil, or_false] at hm ⊢; rcases hm with r | r | r | r | r <;> simp [r])) e) hf hnew new
    refine ⟨.ref T, _, I1, rfl, ⟨T, x, y, u, rfl, I.hok.fresh hnew, rfl, fun l hl => by rw [I.tuple_inj hl qa]; exact hx, fun l hl => by rw [I.tuple_inj hl qb]; exact hy, fun l hl => by rw [I.tuple_inj hl qc]; exact hu⟩, ⟨hz', hT', hO', t1, t2, t3⟩, fun q hq => ?_⟩
    rw [upd_ne (Nat.ne_of_lt (Nat.lt_of_lt_of_le (lts q hq) hnew))]
    exact (hf q hq).1
  done := by
    rintro X rfl rfl rfl hc i pins s σ H E I hf ⟨hz, hT, hO, s1, s2, s3⟩ ⟨xs, ys, zs, ⟨qa, qb, qc⟩, hx, hy, hu⟩
    obtain ⟨v1, r1, p1, _⟩ := I.tuple qa
    obtain ⟨v2, r2, p2, _⟩ := I.tuple qb
    obtain ⟨v3, r3, p3, _⟩ := I.tuple qc
    have hh : X.A.in1.handled = none := I.ok.hd hc
    have G := GoesN.zip3 (elts := elts) (x1 := kk) (pos := tpos) S (Draws.tuple (prog := X.prog) (w := X.w) hh i1 a na v1.toArray) (Draws.tuple hh i2 b nb v2.toArray) (Draws.tuple hh i3 c nc v3.toArray)
    have l1 := r1.length
    have l2 := r2.length
    have l3 := r3.length
    have en : min (min v1.toArray.size v2.toArray.size) v3.toArray.size = i := by simp only [List.size_toArray]; omega
    refine thn (G.stops s (fun s' => Inv X pins σ H s') E (by rw [en]; exact ⟨hz, hT, hO, ⟨s1, p1⟩, ⟨s2, p2⟩, ⟨s3, p3⟩⟩) fun h' tk hk _ => ?_) fun r s1 q => q
    exact I.turnedL (ch := [z, TI, TO, i1, i2, i3]) (fun q o hq e => hk q o (fun hm => hq (by simp only [List.mem_cons, List.not_mem_nil, or_false] at hm ⊢; rcases hm with r | r | r | r | r <;> simp [r])) e) hf
  self := fun _ _ _ _ _ st h => wpAny_pyIter_zip st.1 h
def iZip3 (K : PySem.W.Frag) (ta : TA) : TI := fun σ H R => ta σ H fun vs H1 => ∃ a b c xs ys zs, vs = [.ref a, .ref b, .ref c] ∧ (SqT K H1 a xs ∧ SqT K H1 b ys ∧ SqT K H1 c zs) ∧ R (It3 K a b c) H1
theorem pi_zip3 {X : Cx} {e e2 e3 : Expr} {ta : TA} {p pos tpos : Pos} {elts : List Expr} {kk : Nat} (hg : Gl X "zip") (hm : X.mg "zip" = none) (ha : PA X [e, e2, e3] ta)
    (hs : starEach [e, e2, e3] X.env = (false, eval e X.env) :: starEach [e2, e3] X.env := by rfl) (hpl : (backTo pos (starEach [e2, e3] X.env)).any (·.1) = false := by rfl) :
    PI X (.Tuple elts kk tpos) (.Call (.Name "zip" p) [e, e2, e3] [] pos) (iZip3 X.K ta) := by
  constructor
  intro pins s σ H R I h
  refine Call_ (ld_blt I hg hm PyProof.Rows.boot_zip (PyProof.Rows.callWith_type1 (thn (ha.run pos pins s σ H _ I h) fun us s1 q0 => ?_) hs hpl))
  obtain ⟨vs, H1, I1, r1, a, b, c, xs, ys, zs, rfl, ⟨qa, qb, qc⟩, q⟩ := q0
  obtain ⟨rfl⟩ : us = [.ref a, .ref b, .ref c] := by
    cases r1 with
    | cons t1 r1 =>
      cases r1 with
      | cons t2 r1 =>
        cases r1 with
        | cons t3 r1 =>
          cases r1
          cases t1
          cases t2
          cases t3
          rfl
  obtain ⟨v1, _, p1, _⟩ := I1.tuple qa
  obtain ⟨v2, _, p2, _⟩ := I1.tuple qb
  obtain ⟨v3, _, p3, _⟩ := I1.tuple qc
  have la : a < s1.heap.objs.size := p1.lt
  have lb : b < s1.heap.objs.size := p2.lt
  have lc : c < s1.heap.objs.size := p3.lt
  refine zip_begins3 (begins_tuple a v1.toArray) (begins_tuple b v2.toArray) (begins_tuple c v3.toArray) p1 p2 p3 fun h' hz hT hO g1 g2 g3 hsz hk => wpAny_pyIter_zip hz ?_
  have I2 : Inv X pins σ H1 { s1 with heap := h' } := I1.kept (t' := s1.toks) hk
  have sep := zip_sep3 (N := s1.heap.objs.size) (fp1 := [a]) (fp2 := [b]) (fp3 := [c]) (by simpa using la) (by simpa using lb) (by simpa using lc)
  refine ⟨s1.heap.objs.size + 5, [s1.heap.objs.size + 5, s1.heap.objs.size + 3, s1.heap.objs.size + 4, s1.heap.objs.size, s1.heap.objs.size + 1, s1.heap.objs.size + 2], _, _, H1, rfl, I2,
    turn3 sep (Nat.ne_of_lt la) (Nat.ne_of_lt (Nat.lt_succ_of_lt lb)) (Nat.ne_of_lt (Nat.lt_succ_of_lt (Nat.lt_succ_of_lt lc))), ⟨hz, hT, ⟨_, _, _, hO⟩, ⟨_, g1, rfl, rfl⟩, ⟨_, g2, rfl, rfl⟩, ⟨_, g3, rfl, rfl⟩⟩, fun x hx => ?_, q⟩
  have hle : s1.heap.objs.size ≤ x := by
    rcases mem6 hx with r | r | r | r | r | r <;> rw [r]
    · exact Nat.le_add_right _ _
    · exact Nat.le_add_right _ _
    · exact Nat.le_add_right _ _
    · exact Nat.le_refl _
    · exact Nat.le_add_right _ _
    · exact Nat.le_add_right _ _
  exact I1.fpOk hle (I1.hok.fresh hle)
end Ng

set_option Elab.async false
set_option linter.all false
set_option maxRecDepth 100000
set_option maxHeartbeats 1000000
/-! The data level: what an expression evaluates to, as data, wherever the slots hold data. -/
namespace Ng
open PySem PySem.Spec PyProof.Rows L2

/-! ### data in the heap -/
mutual
inductive Dt (K : PySem.W.Frag) (M : Addr → Prop) (hp : Addr) (H : Hp) : V → PyData → Prop
  | non : Dt K M hp H .non .none
  | bl (b : Bool) : Dt K M hp H (.bl b) (.bool b)
  | int (i : Int) : Dt K M hp H (.int i) (.int i)
  | str (x : Str) : Dt K M hp H (.str x) (.str x)
  | lst {a : Addr} {xs : List V} {ds : List PyData} : H a = some (.lst xs) → ¬ M a → DtL K M hp H xs ds → Dt K M hp H (.ref a) (.list ds)
  | scr {a : Addr} {xs : List V} {ds : List PyData} : SqL K H a xs → ¬ M a → DtL K M hp H xs ds → Dt K M hp H (.ref a) (.dict [(.none, .list ds)])
  | tup {a : Addr} {xs : List V} {ds : List PyData} : SqT K H a xs → ¬ M a → DtL K M hp H xs ds → Dt K M hp H (.ref a) (.tuple ds)
  | heap : Dt K M hp H (.ref hp) (.dict [])
inductive DtL (K : PySem.W.Frag) (M : Addr → Prop) (hp : Addr) (H : Hp) : List V → List PyData → Prop
  | nil : DtL K M hp H [] []
  | cons {v : V} {vs : List V} {d : PyData} {ds : List PyData} : Dt K M hp H v d → DtL K M hp H vs ds → DtL K M hp H (v :: vs) (d :: ds)
end
section
variable {K : PySem.W.Frag} {M : Addr → Prop} {hp : Addr} {H H' : Hp} {v : V} {d : PyData} {vs : List V} {ds : List PyData}
theorem Dt.int_inv {i : Int} (h : Dt K M hp H v (.int i)) : v = .int i := by cases h; rfl
theorem Dt.str_inv {x : Str} (h : Dt K M hp H v (.str x)) : v = .str x := by cases h; rfl
theorem Dt.bl_inv {b : Bool} (h : Dt K M hp H v (.bool b)) : v = .bl b := by cases h; rfl
theorem Dt.non_inv (h : Dt K M hp H v .none) : v = .non := by cases h; rfl
theorem Dt.tup_inv (h : Dt K M hp H v (.tuple ds)) : ∃ a xs, v = .ref a ∧ SqT K H a xs ∧ ¬ M a ∧ DtL K M hp H xs ds := by
  cases h with
  | tup a b c => exact ⟨_, _, rfl, a, b, c⟩
theorem Dt.lst_inv (h : Dt K M hp H v (.list ds)) : ∃ a xs, v = .ref a ∧ H a = some (.lst xs) ∧ ¬ M a ∧ DtL K M hp H xs ds := by
  cases h with
  | lst a b c => exact ⟨_, _, rfl, a, b, c⟩
theorem Dt.scr_inv (h : Dt K M hp H v (.dict [(.none, .list ds)])) : ∃ a xs, v = .ref a ∧ SqL K H a xs ∧ ¬ M a ∧ DtL K M hp H xs ds := by
  cases h with
  | scr a b c => exact ⟨_, _, rfl, a, b, c⟩
theorem Dt.heap_inv (h : Dt K M hp H v (.dict [])) : v = .ref hp := by cases h; rfl
theorem DtL.len : ∀ {vs : List V} {ds : List PyData}, DtL K M hp H vs ds → vs.length = ds.length
  | _, _, .nil => rfl
  | _, _, .cons _ t => by rw [List.length_cons, List.length_cons, DtL.len t]
theorem DtL.get : ∀ {vs : List V} {ds : List PyData} {i : Nat} {d : PyData}, DtL K M hp H vs ds → ds[i]? = some d → ∃ v, vs[i]? = some v ∧ Dt K M hp H v d
  | _, _, _, _, .nil, e => by simp at e
  | _, _, 0, _, .cons r _, e => by simp at e; subst e; exact ⟨_, rfl, r⟩
  | _, _, i + 1, _, .cons _ t, e => by
    obtain ⟨v, h1, h2⟩ := DtL.get (i := i) t (by simpa using e)
    exact ⟨v, by simpa using h1, h2⟩
theorem DtL.getV : ∀ {vs : List V} {ds : List PyData} {i : Nat} {v : V}, DtL K M hp H vs ds → vs[i]? = some v → ∃ d, ds[i]? = some d ∧ Dt K M hp H v d
  | _, _, _, _, .nil, e => by simp at e
  | _, _, 0, _, .cons r _, e => by simp at e; subst e; exact ⟨_, rfl, r⟩
  | _, _, i + 1, _, .cons _ t, e => by
    obtain ⟨v, h1, h2⟩ := DtL.getV (i := i) t (by simpa using e)
    exact ⟨v, by simpa using h1, h2⟩
theorem DtL.append : ∀ {vs ws : List V} {ds es : List PyData}, DtL K M hp H vs ds → DtL K M hp H ws es → DtL K M hp H (vs ++ ws) (ds ++ es)
  | _, _, _, _, .nil, s => s
  | _, _, _, _, .cons r t, s => .cons r (DtL.append t s)
theorem DtL.take : ∀ {vs : List V} {ds : List PyData} (n : Nat), DtL K M hp H vs ds → DtL K M hp H (vs.take n) (ds.take n)
  | _, _, 0, _ => .nil
  | _, _, _ + 1, .nil => .nil
  | _, _, n + 1, .cons r t => .cons r (DtL.take n t)
theorem DtL.drop : ∀ {vs : List V} {ds : List PyData} (n : Nat), DtL K M hp H vs ds → DtL K M hp H (vs.drop n) (ds.drop n)
  | _, _, 0, r => r
  | _, _, _ + 1, .nil => .nil
  | _, _, n + 1, .cons _ t => DtL.drop n t
theorem DtL.rev : ∀ {vs : List V} {ds : List PyData}, DtL K M hp H vs ds → DtL K M hp H vs.reverse ds.reverse
  | _, _, .nil => .nil
  | _, _, .cons r t => by
    rw [List.reverse_cons, List.reverse_cons]
    exact (DtL.rev t).append (.cons r .nil)
theorem sqL_keep {a : Addr} {xs : List V} (k : ∀ b o, H b = some o → ¬ M b → H' b = some o) (n : ¬ M a) (h : SqL K H a xs) : SqL K H' a xs := by
  rcases h with (h | ⟨o, h⟩) | h
  · exact .inl (.inl (k a _ h n))
  · exact .inl (.inr ⟨o, k a _ h n⟩)
  · exact .inr h
theorem sqT_keep {a : Addr} {xs : List V} (k : ∀ b o, H b = some o → ¬ M b → H' b = some o) (n : ¬ M a) (h : SqT K H a xs) : SqT K H' a xs := by
  rcases h with (h | ⟨o, h⟩) | h
  · exact .inl (.inl (k a _ h n))
  · exact .inl (.inr ⟨o, k a _ h n⟩)
  · exact .inr h
mutual
theorem Dt.keep (k : ∀ b o, H b = some o → ¬ M b → H' b = some o) : ∀ {v : V} {d : PyData}, Dt K M hp H v d → Dt K M hp H' v d
  | _, _, .non => .non
  | _, _, .bl b => .bl b
  | _, _, .int i => .int i
  | _, _, .str x => .str x
  | _, _, .lst a n l => .lst (k _ _ a n) n (DtL.keep k l)
  | _, _, .scr a n l => .scr (sqL_keep k n a) n (DtL.keep k l)
  | _, _, .tup a n l => .tup (sqT_keep k n a) n (DtL.keep k l)
  | _, _, .heap => .heap
theorem DtL.keep (k : ∀ b o, H b = some o → ¬ M b → H' b = some o) : ∀ {vs : List V} {ds : List PyData}, DtL K M hp H vs ds → DtL K M hp H' vs ds
  | _, _, .nil => .nil
  | _, _, .cons r t => .cons (Dt.keep k r) (DtL.keep k t)
end
end
/-! data without lists -/
mutual
inductive Fl : PyData → Prop
  | non : Fl .none
  | bl (b : Bool) : Fl (.bool b)
  | int (i : Int) : Fl (.int i)
  | str (x : Str) : Fl (.str x)
  | tup {ds : List PyData} : FlL ds → Fl (.tuple ds)
inductive FlL : List PyData → Prop
  | nil : FlL []
  | cons {d : PyData} {ds : List PyData} : Fl d → FlL ds → FlL (d :: ds)
end
theorem FlL.of : ∀ {ds : List PyData}, (∀ d ∈ ds, Fl d) → FlL ds
  | [], _ => .nil
  | _ :: _, h => .cons (h _ List.mem_cons_self) (FlL.of fun d m => h d (List.mem_cons_of_mem _ m))
section
variable {K : PySem.W.Frag} {M : Addr → Prop} {hp : Addr} {H : Hp} {p : Addr} {old new : List V}
theorem sqT_upd {a : Addr} {xs : List V} (hd : H p = some (.lst old)) (h : SqT K H a xs) : SqT K (upd H p (.lst new)) a xs := by
  rcases h with (h | ⟨o, h⟩) | h
  · exact .inl (.inl (by rw [upd_ne (ne_of h hd (by intro q; cases q))]; exact h))
  · exact .inl (.inr ⟨o, by rw [upd_ne (ne_of h hd (by intro q; cases q))]; exact h⟩)
  · exact .inr h
mutual
theorem Dt.upd (hd : H p = some (.lst old)) : ∀ (d : PyData) (v : V), Fl d → Dt K M hp H v d → Dt K M hp (L2.upd H p (.lst new)) v d
  | .none, _, _, h => by cases h; exact .non
  | .bool b, _, _, h => by cases h; exact .bl b
  | .int i, _, _, h => by cases h; exact .int i
  | .str x, _, _, h => by cases h; exact .str x
  | .tuple ds, _, f, h => by
    cases f with
    | tup f =>
      cases h with
      | tup a n l => exact .tup (sqT_upd hd a) n (DtL.upd hd ds _ f l)
  | .list _, _, f, _ => by cases f
  | .dict _, _, f, _ => by cases f
theorem DtL.upd (hd : H p = some (.lst old)) : ∀ (ds : List PyData) (vs : List V), FlL ds → DtL K M hp H vs ds → DtL K M hp (L2.upd H p (.lst new)) vs ds
  | [], _, _, h => by cases h; exact .nil
  | d :: ds, _, f, h => by
    cases f with
    | cons f g =>
      cases h with
      | cons r t => exact .cons (Dt.upd hd d _ f r) (DtL.upd hd ds _ g t)
end
end

/-! ### a world: which addresses may change, how heaps follow one another -/
structure Wd (K : PySem.W.Frag) where
  M : Addr → Prop
  hp : Addr
  R : Hp → Hp → Prop
  Z : Hp → Prop
  refl : ∀ H, R H H
  trans : ∀ {H H1 H2}, R H H1 → R H1 H2 → R H H2
  ext : ∀ {H H'}, Z H → Same H H' → R H H'
  keepZ : ∀ {H H'}, Z H → R H H' → Z H'
  al : ∀ {H}, Z H → ∀ a, M a → H a ≠ none
  keep : ∀ {H H'}, R H H' → ∀ b o, H b = some o → ¬ M b → H' b = some o
  wr : ∀ {H H' p o}, Z H → R H H' → H p = none → R H (upd H' p o)
abbrev Wd.D {K : PySem.W.Frag} (W : Wd K) (H : Hp) (v : V) (d : PyData) : Prop := Dt K W.M W.hp H v d
abbrev Wd.L {K : PySem.W.Frag} (W : Wd K) (H : Hp) (vs : List V) (ds : List PyData) : Prop := DtL K W.M W.hp H vs ds
def Al (M : Addr → Prop) (H : Hp) : Prop := ∀ a, M a → H a ≠ none
/-- nothing that was tracked changes -/
def pw (K : PySem.W.Frag) (M : Addr → Prop) (hp : Addr) : Wd K where
  M := M
  hp := hp
  R := Same
  Z := Al M
  refl := Same.refl
  trans := Same.trans
  ext := fun _ e => e
  keepZ := fun {H H'} z r a m e => by
    cases q : H a with
    | none => exact z a m q
    | some o =>
      rw [r a o q] at e
      cases e
  al := fun z => z
  keep := fun r b o e _ => r b o e
  wr := fun _ r n b o e => by
    rw [upd_ne (ne_of_none e n)]
    exact r b o e
theorem Wd.free {K : PySem.W.Frag} {W : Wd K} {H H' : Hp} {p : Addr} (z : W.Z H) (r : W.R H H') (n : H' p = none) : H p = none := by
  cases q : H p with
  | none => rfl
  | some o =>
    by_cases m : W.M p
    · exact absurd n (W.al (W.keepZ z r) p m)
    · rw [W.keep r p o q m] at n
      cases n
theorem Wd.notM {K : PySem.W.Frag} {W : Wd K} {H : Hp} {p : Addr} (z : W.Z H) (n : H p = none) : ¬ W.M p := fun m => W.al z p m n
theorem Wd.new {K : PySem.W.Frag} {W : Wd K} {H : Hp} {p : Addr} {o : HO} (z : W.Z H) (n : H p = none) : W.R H (upd H p o) := W.wr z (W.refl H) n

/-! ### environments of data -/
abbrev Gm := List (Option PyData)
structure En {K : PySem.W.Frag} (W : Wd K) (H : Hp) (σ : L2.St) (Γ : Gm) : Prop where
  z : W.Z H
  len : σ.length = Γ.length
  at_ : ∀ (i : Nat) (d : PyData), Γ[i]? = some (some d) → ∃ v, σ[i]? = some (some v) ∧ W.D H v d
section
variable {K : PySem.W.Frag} {W : Wd K} {H H' : Hp} {σ : L2.St} {Γ : Gm}
theorem En.mono (e : En W H σ Γ) (r : W.R H H') : En W H' σ Γ :=
  ⟨W.keepZ e.z r, e.len, fun i d h => let ⟨v, a, b⟩ := e.at_ i d h; ⟨v, a, b.keep (W.keep r)⟩⟩
theorem En.set (e : En W H σ Γ) {i : Nat} {v : V} {d : PyData} (h : W.D H v d) : En W H (σ.set i (some v)) (Γ.set i (some d)) := by
  refine ⟨e.z, by rw [List.length_set, List.length_set, e.len], fun j d' q => ?_⟩
  by_cases hj : i = j
  · subst hj
    have hl : i < Γ.length := by
      have := (List.getElem?_eq_some_iff.mp q).1
      rwa [List.length_set] at this
    rw [List.getElem?_set_self hl] at q
    cases q
    exact ⟨v, List.getElem?_set_self (by rw [e.len]; exact hl), h⟩
  · rw [List.getElem?_set_ne hj] at q ⊢
    exact e.at_ j d' q
def wipeG (Γ : Gm) : List Nat → Gm
  | [] => Γ
  | v :: vs => (wipeG Γ vs).set v none
theorem En.drop1 (e : En W H σ Γ) {i : Nat} {o : Option V} : En W H (σ.set i o) (Γ.set i none) := by
  refine ⟨e.z, by rw [List.length_set, List.length_set, e.len], fun j d' q => ?_⟩
  by_cases hj : i = j
  · subst hj
    have hl : i < Γ.length := by
      have := (List.getElem?_eq_some_iff.mp q).1
      rwa [List.length_set] at this
    rw [List.getElem?_set_self hl] at q
    cases q
  · rw [List.getElem?_set_ne hj] at q ⊢
    exact e.at_ j d' q
theorem En.wipe (e : En W H σ Γ) : ∀ vs : List Nat, En W H (wipe σ vs) (wipeG Γ vs)
  | [] => e
  | v :: vs => (En.wipe e vs).drop1
/-- less is known -/
theorem En.less (e : En W H σ Γ) {Δ : Gm} (hl : Δ.length = Γ.length) (h : ∀ (i : Nat) (d : PyData), Δ[i]? = some (some d) → Γ[i]? = some (some d)) : En W H σ Δ :=
  ⟨e.z, e.len.trans hl.symm, fun i d q => e.at_ i d (h i d q)⟩
end

/-! ### running -/
structure XOk (X : Cx) : Prop where
  calm : X.calm = true
  nd : X.N.Nodup
  room : Room 0 X.A
  po : PassesOwn (model X.prog X.w) X.A X.env X.xe
section
variable (X : Cx)
def RunE (e : Expr) : TE := fun σ H Q => ∀ (pins : List (Addr × Obj)) (s : Shared), Inv X pins σ H s → wpAny (model X.prog X.w) X.A (eval e X.env) (EP X pins σ Q) X.xe s
def RunT (e : Expr) : TT := fun σ H Q => ∀ (pins : List (Addr × Obj)) (s : Shared), Inv X pins σ H s → wpAny (model X.prog X.w) X.A (isTrue e X.env (eval e X.env)) (TP X pins σ Q) X.xe s
def RunW (e : Expr) : TT := fun σ H Q => ∀ (wh : Sem Value) (pins : List (Addr × Obj)) (s : Shared), Inv X pins σ H s → wpAny (model X.prog X.w) X.A (isTrue e X.env wh) (TP X pins σ Q) X.xe s
def RunA (es : List Expr) : TA := fun σ H Q => ∀ (pos : Pos) (pins : List (Addr × Obj)) (s : Shared), Inv X pins σ H s → wpAny (model X.prog X.w) X.A (spliced (backTo pos (starEach es X.env))) (AP X pins σ Q) X.xe s
def RunS (st : Stmt) : TS := fun D σ H => ∀ (pins : List (Addr × Obj)) (s : Shared), Inv X pins σ H s → wpAny (model X.prog X.w) X.A (exec st X.env) (SP X pins D) X.xe s
def RunB (st : List Stmt) : TS := fun D σ H => ∀ (pins : List (Addr × Obj)) (s : Shared), Inv X pins σ H s → wpAny (model X.prog X.w) X.A (execs st X.env) (SP X pins D) X.xe s
def RunG (tg : Expr) : TG := fun v σ H Q => ∀ (pins : List (Addr × Obj)) (s : Shared) (u : Value), Inv X pins σ H s → RelV v u →
  wpAny (model X.prog X.w) X.A (assign tg X.env u) (fun _ s' => ∃ σ' H', Inv X pins σ' H' s' ∧ Q σ' H') X.xe s
def RunI (tg iter : Expr) : TI := fun σ H R => ∀ (pins : List (Addr × Obj)) (s : Shared), Inv X pins σ H s →
  wpAny (model X.prog X.w) X.A (eval iter X.env) (fun v s1 => wpAny (model X.prog X.w) X.A (pyIter v) (PIE X pins σ tg R) X.xe s1) X.xe s
variable {X}
theorem peR {e : Expr} : PE X e (RunE X e) := ⟨fun pins s _ _ _ I h => h pins s I⟩
theorem ptR {e : Expr} : PT X e (RunT X e) := ⟨fun pins s _ _ _ I h => h pins s I⟩
theorem pwR {e : Expr} : PW X e (RunW X e) := ⟨fun wh pins s _ _ _ I h => h wh pins s I⟩
theorem paR {es : List Expr} : PA X es (RunA X es) := ⟨fun pos pins s _ _ _ I h => h pos pins s I⟩
theorem psR {st : Stmt} : PS X st (RunS X st) := ⟨fun pins s _ _ _ I h => h pins s I⟩
theorem pbR {st : List Stmt} : PSs X st (RunB X st) := ⟨fun pins s _ _ _ I h => h pins s I⟩
theorem pgR {tg : Expr} : PG X tg (RunG X tg) := ⟨fun pins s _ _ _ u _ I r h => h pins s u I r⟩
theorem piR {tg iter : Expr} : PI X tg iter (RunI X tg iter) := ⟨fun pins s _ _ _ I h => h pins s I⟩
theorem runE {e : Expr} {t : TE} (p : PE X e t) {σ : L2.St} {H : Hp} {Q : VK} (h : t σ H Q) : RunE X e σ H Q := fun pins s I => p.run pins s σ H Q I h
theorem runT {e : Expr} {t : TT} (p : PT X e t) {σ : L2.St} {H : Hp} {Q : Bool → Hp → Prop} (h : t σ H Q) : RunT X e σ H Q := fun pins s I => p.run pins s σ H Q I h
theorem runW {e : Expr} {t : TT} (p : PW X e t) {σ : L2.St} {H : Hp} {Q : Bool → Hp → Prop} (h : t σ H Q) : RunW X e σ H Q := fun wh pins s I => p.run wh pins s σ H Q I h
theorem runA {es : List Expr} {t : TA} (p : PA X es t) {σ : L2.St} {H : Hp} {Q : List V → Hp → Prop} (h : t σ H Q) : RunA X es σ H Q := fun pos pins s I => p.run pos pins s σ H Q I h
theorem runB {st : List Stmt} {t : TS} (p : PSs X st t) {σ : L2.St} {H : Hp} {D : Ends} (h : t D σ H) : RunB X st D σ H := fun pins s I => p.run pins s σ H D I h
theorem runG {tg : Expr} {t : TG} (p : PG X tg t) {v : V} {σ : L2.St} {H : Hp} {Q : L2.St → Hp → Prop} (h : t v σ H Q) : RunG X tg v σ H Q := fun pins s u I r => p.run pins s σ H v u Q I r h
theorem runI {tg iter : Expr} {t : TI} (p : PI X tg iter t) {σ : L2.St} {H : Hp} {R : It → Hp → Prop} (h : t σ H R) : RunI X tg iter σ H R := fun pins s I => p.run pins s σ H R I h
end

/-! ### the judgements -/
section
variable (X : Cx) (W : Wd X.K)
/-- e evaluates to some data of which P holds -/
def EvE (Γ : Gm) (e : Expr) (P : PyData → Prop) : Prop := XOk X → ∀ σ H, En W H σ Γ → ∀ Q : VK, (∀ v d H', W.R H H' → W.D H' v d → P d → Q v H') → RunE X e σ H Q
/-- e evaluates to d -/
def EvD (Γ : Gm) (e : Expr) (d : PyData) : Prop := EvE X W Γ e fun x => x = d
def EvA (Γ : Gm) (es : List Expr) (P : List PyData → Prop) : Prop := XOk X → ∀ σ H, En W H σ Γ → ∀ Q : List V → Hp → Prop, (∀ vs ds H', W.R H H' → W.L H' vs ds → P ds → Q vs H') → RunA X es σ H Q
def EvT (Γ : Gm) (e : Expr) (b : Bool) : Prop := XOk X → ∀ σ H, En W H σ Γ → ∀ Q : Bool → Hp → Prop, (∀ H', W.R H H' → Q b H') → RunT X e σ H Q
def EvW (Γ : Gm) (e : Expr) (b : Bool) : Prop := XOk X → ∀ σ H, En W H σ Γ → ∀ Q : Bool → Hp → Prop, (∀ H', W.R H H' → Q b H') → RunW X e σ H Q
/-- n turns, f i at turn i -/
structure WalkD (H0 : Hp) (J : It) (n : Nat) (f : Nat → PyData) : Prop where
  go : ∀ H, W.R H0 H → ∀ i, i < n → J.go i H
  stop : ∀ H, W.R H0 H → J.stop n H
  yld : ∀ H, W.R H0 H → ∀ i x H', i < n → J.yld i H x H' → W.R H H' ∧ W.D H' x (f i)
def EvI (Γ : Gm) (tg iter : Expr) (n : Nat) (f : Nat → PyData) : Prop := XOk X → ∀ σ H, En W H σ Γ → ∀ Rr : It → Hp → Prop, (∀ J H', W.R H H' → WalkD X W H' J n f → Rr J H') → RunI X tg iter σ H Rr
/-- target = d, from Γ to Γ'; the slots that it writes -/
def AsG (Γ : Gm) (tg : Expr) (d : PyData) (Γ' : Gm) (js : List Nat) : Prop := XOk X → ∀ σ H v, En W H σ Γ → W.D H v d → ∀ Q : L2.St → Hp → Prop,
  (∀ σ' H', W.R H H' → En W H' σ' Γ' → (∀ i, i ∉ js → σ'[i]? = σ[i]?) → σ'.length = σ.length → Q σ' H') → RunG X tg v σ H Q
structure Post where
  nx : Gm → Prop
  rt : PyData → Prop
  bk : Gm → Prop := fun _ => False
  ct : Gm → Prop := fun _ => False
structure Sat (H : Hp) (P : Post) (D : Ends) : Prop where
  nx : ∀ σ' H' Γ', W.R H H' → En W H' σ' Γ' → P.nx Γ' → D.nx σ' H'
  rt : ∀ v d H', W.R H H' → W.D H' v d → P.rt d → D.rt v H'
  bk : ∀ σ' H' Γ', W.R H H' → En W H' σ' Γ' → P.bk Γ' → D.bk σ' H'
  ct : ∀ σ' H' Γ', W.R H H' → En W H' σ' Γ' → P.ct Γ' → D.ct σ' H'
/-- a block -/
def ExB (Γ : Gm) (sts : List Stmt) (P : Post) : Prop := XOk X → ∀ σ H, En W H σ Γ → ∀ D : Ends, Sat X W H P D → RunB X sts D σ H
end
section
variable {X : Cx} {W : Wd X.K} {Γ Γ' : Gm}
theorem Sat.mono {H H' : Hp} {P : Post} {D : Ends} (s : Sat X W H P D) (r : W.R H H') : Sat X W H' P D :=
  ⟨fun σ' H2 Γ' q e p => s.nx σ' H2 Γ' (W.trans r q) e p, fun v d H2 q e p => s.rt v d H2 (W.trans r q) e p, fun σ' H2 Γ' q e p => s.bk σ' H2 Γ' (W.trans r q) e p, fun σ' H2 Γ' q e p => s.ct σ' H2 Γ' (W.trans r q) e p⟩
theorem EvE.imp {e : Expr} {P P' : PyData → Prop} (h : EvE X W Γ e P) (k : ∀ d, P d → P' d) : EvE X W Γ e P' := fun ok σ H E Q hQ => h ok σ H E Q fun v d H' r a p => hQ v d H' r a (k d p)
theorem EvE.less {e : Expr} {P : PyData → Prop} {Δ : Gm} (h : EvE X W Δ e P) (hl : Δ.length = Γ.length) (k : ∀ (i : Nat) (d : PyData), Δ[i]? = some (some d) → Γ[i]? = some (some d)) : EvE X W Γ e P := fun ok σ H E Q hQ => h ok σ H (E.less hl k) Q hQ
theorem ExB.less {sts : List Stmt} {P : Post} {Δ : Gm} (h : ExB X W Δ sts P) (hl : Δ.length = Γ.length) (k : ∀ (i : Nat) (d : PyData), Δ[i]? = some (some d) → Γ[i]? = some (some d)) : ExB X W Γ sts P := fun ok σ H E D s => h ok σ H (E.less hl k) D s
theorem EvT.of {e : Expr} {b c : Bool} (h : EvT X W Γ e b) (q : b = c) : EvT X W Γ e c := q ▸ h
theorem EvE.of {e : Expr} {d d' : PyData} (h : EvD X W Γ e d) (q : d = d') : EvD X W Γ e d' := q ▸ h

/-! ### names, constants -/
theorem ev_n (i : Nat) {x : Str} {pos : Pos} {d : PyData} (hd : Γ[i]? = some (some d) := by rfl) (hN : X.N[i]? = some x := by rfl)
    (hv : Vis X.env.scope x := by first | exact Or.inl rfl | exact Or.inr (Or.inl rfl) | exact Or.inr (Or.inr rfl)) (h1 : (x == ("__debug__" : Str)) = false := by decide)
    (h2 : (x == ("__classdict__" : Str)) = false := by decide) : EvD X W Γ (.Name x pos) d := fun ok σ H E Q hQ =>
  let ⟨v, a, b⟩ := E.at_ i d hd
  runE (pe_var hN hv h1 h2) ⟨v, a, hQ v d H (W.refl H) b rfl⟩
theorem ev_i {i : Int} {j pos} : EvD X W Γ (.Constant (.int i) j pos) (.int i) := fun _ _ H _ _ hQ => runE pe_int (hQ _ _ H (W.refl H) (.int i) rfl)
theorem ev_s {x : Str} {j pos} : EvD X W Γ (.Constant (.str x) j pos) (.str x) := fun _ _ H _ _ hQ => runE pe_str (hQ _ _ H (W.refl H) (.str x) rfl)
theorem ev_b {b : Bool} {j pos} : EvD X W Γ (.Constant (.bool b) j pos) (.bool b) := fun _ _ H _ _ hQ => runE pe_bl (hQ _ _ H (W.refl H) (.bl b) rfl)
theorem ev_non {j pos} : EvD X W Γ (.Constant .none j pos) .none := fun _ _ H _ _ hQ => runE pe_non (hQ _ _ H (W.refl H) .non rfl)

/-! ### two operands -/
/-- by values: r makes of x, y something of which P holds -/
def RvD (X : Cx) (W : Wd X.K) (r : R2) (x y : PyData) (P : PyData → Prop) : Prop := ∀ vx vy H, W.Z H → W.D H vx x → W.D H vy y → ∀ Q : VK, (∀ v d H', W.R H H' → W.D H' v d → P d → Q v H') → r vx vy H Q
section
variable {a b : Expr} {pos : Pos} {Pa Pb P : PyData → Prop} {r : R2}
theorem ex_two (h : EvE X W Γ a Pa) (k : EvE X W Γ b Pb) (hr : ∀ x y, Pa x → Pb y → RvD X W r x y P) (ok : XOk X) {σ : L2.St} {H : Hp} (E : En W H σ Γ) {Q : VK} (hQ : ∀ v d H', W.R H H' → W.D H' v d → P d → Q v H') :
    tOp r (RunE X a) (RunE X b) σ H Q :=
  h ok σ H E _ fun v d H1 r1 d1 p1 => k ok σ H1 (E.mono r1) _ fun v2 d2 H2 r2 d2' p2 => hr d d2 p1 p2 v v2 H2 ((E.mono r1).mono r2).z (d1.keep (W.keep r2)) d2' Q fun v3 d3 H3 r3 => hQ v3 d3 H3 (W.trans r1 (W.trans r2 r3))
theorem ex_op {op : Operator} (ho : OpR X (binaryOp op) r) (h : EvE X W Γ a Pa) (k : EvE X W Γ b Pb) (hr : ∀ x y, Pa x → Pb y → RvD X W r x y P) : EvE X W Γ (.BinOp a op b pos) P :=
  fun ok σ H E Q hQ => runE (pe_op ho peR peR) (ex_two h k hr ok E hQ)
theorem ex_cmp {op : CmpOp} (ho : OpR X (compareOp op) r) (hm : behindInMarks op b = false) (h : EvE X W Γ a Pa) (k : EvE X W Γ b Pb) (hr : ∀ x y, Pa x → Pb y → RvD X W r x y P) : EvE X W Γ (.Compare a [op] [b] pos) P :=
  fun ok σ H E Q hQ => runE (pe_cmpR ho peR peR hm) (ex_two h k hr ok E hQ)
theorem rv_I0 {g : Int → Int → V} {i j : Int} {d : PyData} (hg : ∀ H, W.D H (g i j) d) : RvD X W (rI0 g) (.int i) (.int j) fun x => x = d := fun vx vy H z d1 d2 Q hQ =>
  ⟨i, j, d1.int_inv, d2.int_inv, hQ _ _ H (W.refl H) (hg H) rfl⟩
theorem rv_I {C : Int → Int → Prop} {g : Int → Int → V} {i j : Int} {d : PyData} (hc : C i j) (hg : ∀ H, W.D H (g i j) d) : RvD X W (rI C g) (.int i) (.int j) fun x => x = d := fun vx vy H z d1 d2 Q hQ =>
  ⟨i, j, d1.int_inv, d2.int_inv, hc, hQ _ _ H (W.refl H) (hg H) rfl⟩
/-- both operands known -/
theorem ev_op {op : Operator} {x y d : PyData} (ho : OpR X (binaryOp op) r) (h : EvD X W Γ a x) (k : EvD X W Γ b y) (hr : RvD X W r x y fun z => z = d) : EvD X W Γ (.BinOp a op b pos) d := ex_op ho h k fun _ _ e1 e2 => e1 ▸ e2 ▸ hr
theorem ev_cmp {op : CmpOp} {x y d : PyData} (ho : OpR X (compareOp op) r) (h : EvD X W Γ a x) (k : EvD X W Γ b y) (hr : RvD X W r x y fun z => z = d) (hm : behindInMarks op b = false := by exact nomark _) : EvD X W Γ (.Compare a [op] [b] pos) d :=
  ex_cmp ho hm h k fun _ _ e1 e2 => e1 ▸ e2 ▸ hr
variable {i j : Int}
theorem ev_add (h : EvD X W Γ a (.int i)) (k : EvD X W Γ b (.int j)) : EvD X W Γ (.BinOp a .Add b pos) (.int (i + j)) := ev_op op_add h k (rv_I0 fun _ => .int _)
theorem ev_sub (h : EvD X W Γ a (.int i)) (k : EvD X W Γ b (.int j)) : EvD X W Γ (.BinOp a .Sub b pos) (.int (i - j)) := ev_op op_sub h k (rv_I0 fun _ => .int _)
theorem ev_mulL (h : EvD X W Γ a (.int i)) (k : EvD X W Γ b (.int j)) (hc : -(2 ^ 64) < i ∧ i < 2 ^ 64) : EvD X W Γ (.BinOp a .Mult b pos) (.int (i * j)) := ev_op op_mul h k (rv_I (.inl hc) fun _ => .int _)
theorem ev_mulR (h : EvD X W Γ a (.int i)) (k : EvD X W Γ b (.int j)) (hc : -(2 ^ 64) < j ∧ j < 2 ^ 64) : EvD X W Γ (.BinOp a .Mult b pos) (.int (i * j)) := ev_op op_mul h k (rv_I (.inr hc) fun _ => .int _)
theorem ev_div (h : EvD X W Γ a (.int i)) (k : EvD X W Γ b (.int j)) (h0 : 0 < j) (h1 : j < 1073741824) : EvD X W Γ (.BinOp a .FloorDiv b pos) (.int (i / j)) := ev_op op_fdiv h k (rv_I ⟨h0, h1⟩ fun _ => .int _)
theorem ev_mod (h : EvD X W Γ a (.int i)) (k : EvD X W Γ b (.int j)) (h0 : 0 < j) : EvD X W Γ (.BinOp a .Mod b pos) (.int (i % j)) := ev_op op_mod h k (rv_I h0 fun _ => .int _)
theorem ev_lt (h : EvD X W Γ a (.int i)) (k : EvD X W Γ b (.int j)) : EvD X W Γ (.Compare a [.Lt] [b] pos) (.bool (decide (i < j))) := ev_cmp op_lt h k (rv_I0 fun _ => .bl _)
theorem ev_le (h : EvD X W Γ a (.int i)) (k : EvD X W Γ b (.int j)) : EvD X W Γ (.Compare a [.LtE] [b] pos) (.bool (decide (i ≤ j))) := ev_cmp op_le h k (rv_I0 fun _ => .bl _)
theorem ev_gt (h : EvD X W Γ a (.int i)) (k : EvD X W Γ b (.int j)) : EvD X W Γ (.Compare a [.Gt] [b] pos) (.bool (decide (j < i))) := ev_cmp op_gt h k (rv_I0 fun _ => .bl _)
theorem ev_ge (h : EvD X W Γ a (.int i)) (k : EvD X W Γ b (.int j)) : EvD X W Γ (.Compare a [.GtE] [b] pos) (.bool (decide (j ≤ i))) := ev_cmp op_ge h k (rv_I0 fun _ => .bl _)
theorem rv_eqI : RvD X W rEq (.int i) (.int j) fun z => z = .bool (decide (i = j)) := fun vx vy H z d1 d2 Q hQ => by
  rw [d1.int_inv, d2.int_inv]
  refine ⟨rfl, hQ _ _ H (W.refl H) (.bl _) ?_⟩
  simp
theorem rv_neI : RvD X W rNe (.int i) (.int j) fun z => z = .bool (decide (i ≠ j)) := fun vx vy H z d1 d2 Q hQ => by
  rw [d1.int_inv, d2.int_inv]
  refine ⟨rfl, hQ _ _ H (W.refl H) (.bl _) ?_⟩
  simp
theorem rv_eqS {x y : Str} : RvD X W rEq (.str x) (.str y) fun z => z = .bool (decide (x = y)) := fun vx vy H z d1 d2 Q hQ => by
  rw [d1.str_inv, d2.str_inv]
  refine ⟨rfl, hQ _ _ H (W.refl H) (.bl _) ?_⟩
  simp
theorem rv_neS {x y : Str} : RvD X W rNe (.str x) (.str y) fun z => z = .bool (decide (x ≠ y)) := fun vx vy H z d1 d2 Q hQ => by
  rw [d1.str_inv, d2.str_inv]
  refine ⟨rfl, hQ _ _ H (W.refl H) (.bl _) ?_⟩
  simp
theorem ev_eqI (h : EvD X W Γ a (.int i)) (k : EvD X W Γ b (.int j)) : EvD X W Γ (.Compare a [.Eq] [b] pos) (.bool (decide (i = j))) := ev_cmp op_eq h k rv_eqI
theorem ev_neI (h : EvD X W Γ a (.int i)) (k : EvD X W Γ b (.int j)) : EvD X W Γ (.Compare a [.NotEq] [b] pos) (.bool (decide (i ≠ j))) := ev_cmp op_ne h k rv_neI
theorem ev_eqS {x y : Str} (h : EvD X W Γ a (.str x)) (k : EvD X W Γ b (.str y)) : EvD X W Γ (.Compare a [.Eq] [b] pos) (.bool (decide (x = y))) := ev_cmp op_eq h k rv_eqS
theorem ev_neS {x y : Str} (h : EvD X W Γ a (.str x)) (k : EvD X W Γ b (.str y)) : EvD X W Γ (.Compare a [.NotEq] [b] pos) (.bool (decide (x ≠ y))) := ev_cmp op_ne h k rv_neS
/-- a comparison as a test -/
theorem et_cmp {op : CmpOp} {x y : PyData} {q : Bool} (ho : XOk X → OpR X (compareOp op) r) (h : EvD X W Γ a x) (k : EvD X W Γ b y) (hr : RvD X W r x y fun z => z = .bool q) (hm : behindInMarks op b = false := by exact nomark _) : EvT X W Γ (.Compare a [op] [b] pos) q := fun ok σ H E Q hQ =>
  runT (pt_cmpR (ho ok) peR peR hm) (ex_two (P := fun z => z = .bool q) h k (fun _ _ e1 e2 => e1 ▸ e2 ▸ hr) ok E fun v d H' r1 d1 e => ⟨q, by subst e; exact d1.bl_inv, hQ H' r1⟩)
theorem et_lt (h : EvD X W Γ a (.int i)) (k : EvD X W Γ b (.int j)) : EvT X W Γ (.Compare a [.Lt] [b] pos) (decide (i < j)) := et_cmp (fun _ => op_lt) h k (rv_I0 fun _ => .bl _)
theorem et_le (h : EvD X W Γ a (.int i)) (k : EvD X W Γ b (.int j)) : EvT X W Γ (.Compare a [.LtE] [b] pos) (decide (i ≤ j)) := et_cmp (fun _ => op_le) h k (rv_I0 fun _ => .bl _)
theorem et_gt (h : EvD X W Γ a (.int i)) (k : EvD X W Γ b (.int j)) : EvT X W Γ (.Compare a [.Gt] [b] pos) (decide (j < i)) := et_cmp (fun _ => op_gt) h k (rv_I0 fun _ => .bl _)
theorem et_ge (h : EvD X W Γ a (.int i)) (k : EvD X W Γ b (.int j)) : EvT X W Γ (.Compare a [.GtE] [b] pos) (decide (j ≤ i)) := et_cmp (fun _ => op_ge) h k (rv_I0 fun _ => .bl _)
theorem et_eqI (h : EvD X W Γ a (.int i)) (k : EvD X W Γ b (.int j)) : EvT X W Γ (.Compare a [.Eq] [b] pos) (decide (i = j)) := et_cmp (fun _ => op_eq) h k rv_eqI
theorem et_neI (h : EvD X W Γ a (.int i)) (k : EvD X W Γ b (.int j)) : EvT X W Γ (.Compare a [.NotEq] [b] pos) (decide (i ≠ j)) := et_cmp (fun _ => op_ne) h k rv_neI
theorem et_eqS {x y : Str} (h : EvD X W Γ a (.str x)) (k : EvD X W Γ b (.str y)) : EvT X W Γ (.Compare a [.Eq] [b] pos) (decide (x = y)) := et_cmp (fun _ => op_eq) h k rv_eqS
theorem et_neS {x y : Str} (h : EvD X W Γ a (.str x)) (k : EvD X W Γ b (.str y)) : EvT X W Γ (.Compare a [.NotEq] [b] pos) (decide (x ≠ y)) := et_cmp (fun _ => op_ne) h k rv_neS
theorem ev_neg (h : EvD X W Γ a (.int i)) : EvD X W Γ (.UnaryOp .USub a pos) (.int (-i)) := fun ok σ H E Q hQ =>
  runE (pe_un un_neg peR) (h ok σ H E _ fun v d H1 r1 d1 e => ⟨i, by subst e; exact d1.int_inv, hQ _ _ H1 r1 (.int _) rfl⟩)
end

/-! ### tests -/
section
variable {a b c : Expr} {pos : Pos} {p q : Bool}
/-- an expression that is True or False, as a test -/
theorem et_v (h : EvD X W Γ a (.bool p)) (he : ∀ whole, isTrue a X.env whole = (do let v ← whole; standAt a.pos; holding [v] (truthy v)) := by intro _; rfl) : EvT X W Γ a p := fun ok σ H E Q hQ =>
  runT (pt_val peR he) (h ok σ H E _ fun v d H1 r1 d1 e => ⟨p, by subst e; exact d1.bl_inv, hQ H1 r1⟩)
theorem et_not (h : EvT X W Γ a p) : EvT X W Γ (.UnaryOp .Not a pos) (!p) := fun ok σ H E Q hQ => runT (pt_not ptR) (h ok σ H E _ fun H1 r1 => hQ H1 r1)
theorem ew_and1 (h : EvT X W Γ a p) : EvW X W Γ (.BoolOp .And [a] pos) p := fun ok σ H E Q hQ => runW (pw_and1 ptR) (h ok σ H E _ fun H1 r1 => hQ H1 r1)
theorem ew_or1 (h : EvT X W Γ a p) : EvW X W Γ (.BoolOp .Or [a] pos) p := fun ok σ H E Q hQ => runW (pw_or1 ptR) (h ok σ H E _ fun H1 r1 => hQ H1 r1)
theorem ew_and {rest : List Expr} (h : EvT X W Γ a p) (k : p = true → EvW X W Γ (.BoolOp .And (b :: rest) pos) q) : EvW X W Γ (.BoolOp .And (a :: b :: rest) pos) (p && q) := fun ok σ H E Q hQ =>
  runW (pw_and ptR pwR) (h ok σ H E _ fun H1 r1 => by
    cases p with
    | true => exact k rfl ok σ H1 (E.mono r1) Q fun H2 r2 => hQ H2 (W.trans r1 r2)
    | false => exact hQ H1 r1)
theorem ew_or {rest : List Expr} (h : EvT X W Γ a p) (k : p = false → EvW X W Γ (.BoolOp .Or (b :: rest) pos) q) : EvW X W Γ (.BoolOp .Or (a :: b :: rest) pos) (p || q) := fun ok σ H E Q hQ =>
  runW (pw_or ptR pwR) (h ok σ H E _ fun H1 r1 => by
    cases p with
    | true => exact hQ H1 r1
    | false => exact k rfl ok σ H1 (E.mono r1) Q fun H2 r2 => hQ H2 (W.trans r1 r2))
theorem et_w (h : EvW X W Γ a p) : EvT X W Γ a p := fun ok σ H E Q hQ => runT pwR.pt (h ok σ H E Q hQ)
/-- as values -/
theorem ev_one {op} {d : PyData} (h : EvD X W Γ a d) : EvD X W Γ (.BoolOp op [a] pos) d := fun ok σ H E Q hQ => runE (pe_one peR) (h ok σ H E Q hQ)
theorem ev_and {rest : List Expr} (h : EvD X W Γ a (.bool p)) (k : p = true → EvD X W Γ (.BoolOp .And (b :: rest) pos) (.bool q)) : EvD X W Γ (.BoolOp .And (a :: b :: rest) pos) (.bool (p && q)) := fun ok σ H E Q hQ =>
  runE (pe_and peR peR) (h ok σ H E _ fun v d H1 r1 d1 e => ⟨p, by subst e; exact d1.bl_inv, by
    cases p with
    | true => exact k rfl ok σ H1 (E.mono r1) Q fun v2 d2 H2 r2 => hQ v2 d2 H2 (W.trans r1 r2)
    | false => exact hQ _ _ H1 r1 (.bl false) rfl⟩)
theorem ev_if {d : PyData} (h : EvT X W Γ c p) (h1 : p = true → EvD X W Γ a d) (h2 : p = false → EvD X W Γ b d) : EvD X W Γ (.IfExp c a b pos) d := fun ok σ H E Q hQ =>
  runE (pe_ifExp ptR peR peR) (h ok σ H E _ fun H1 r1 => by
    cases p with
    | true => exact h1 rfl ok σ H1 (E.mono r1) Q fun v2 d2 H2 r2 => hQ v2 d2 H2 (W.trans r1 r2)
    | false => exact h2 rfl ok σ H1 (E.mono r1) Q fun v2 d2 H2 r2 => hQ v2 d2 H2 (W.trans r1 r2))
theorem ex_if {P : PyData → Prop} (h : EvT X W Γ c p) (h1 : p = true → EvE X W Γ a P) (h2 : p = false → EvE X W Γ b P) : EvE X W Γ (.IfExp c a b pos) P := fun ok σ H E Q hQ =>
  runE (pe_ifExp ptR peR peR) (h ok σ H E _ fun H1 r1 => by
    cases p with
    | true => exact h1 rfl ok σ H1 (E.mono r1) Q fun v2 d2 H2 r2 => hQ v2 d2 H2 (W.trans r1 r2)
    | false => exact h2 rfl ok σ H1 (E.mono r1) Q fun v2 d2 H2 r2 => hQ v2 d2 H2 (W.trans r1 r2))
/-- a if c else b, told by one if -/
theorem ev_ite {d e : PyData} {C : Prop} [Decidable C] (h : EvT X W Γ c (decide C)) (h1 : C → EvD X W Γ a d) (h2 : ¬ C → EvD X W Γ b e) : EvD X W Γ (.IfExp c a b pos) (if C then d else e) := by
  by_cases hc : C
  · rw [if_pos hc]
    exact ev_if h (fun _ => h1 hc) fun z => absurd hc (of_decide_eq_false z)
  · rw [if_neg hc]
    exact ev_if h (fun z => absurd (of_decide_eq_true z) hc) fun _ => h2 hc
end
end
end Ng

set_option Elab.async false
set_option linter.all false
set_option maxRecDepth 100000
set_option maxHeartbeats 1000000
/-! Rules of the data level: argument lists, displays, subscripts, slices, built-in calls. -/
namespace Ng
open PySem PySem.Spec PyProof.Rows L2
theorem szl {n : Nat} (h : n ≤ 100000) : n ≤ sizeLine := Nat.le_trans h (by decide)
theorem szl' {n : Nat} (h : n < 100000) : n < sizeLine := Nat.lt_of_lt_of_le h (by decide)
def isNone : PyData → Bool
  | .none => true
  | _ => false
section
variable {X : Cx} {W : Wd X.K} {Γ : Gm}
/-- a new tuple -/
theorem new_tup {H : Hp} {vs : List V} {ds : List PyData} (z : W.Z H) (l : W.L H vs ds) {p : Addr} (n : H p = none) : W.R H (upd H p (.tup vs)) ∧ W.D (upd H p (.tup vs)) (.ref p) (.tuple ds) :=
  have r : W.R H (upd H p (.tup vs)) := W.new z n
  ⟨r, .tup (.of upd_same) (W.notM z n) (l.keep (W.keep r))⟩
theorem new_lst {H : Hp} {vs : List V} {ds : List PyData} (z : W.Z H) (l : W.L H vs ds) {p : Addr} (n : H p = none) : W.R H (upd H p (.lst vs)) ∧ W.D (upd H p (.lst vs)) (.ref p) (.list ds) :=
  have r : W.R H (upd H p (.lst vs)) := W.new z n
  ⟨r, .lst upd_same (W.notM z n) (l.keep (W.keep r))⟩

/-! ### argument lists, displays -/
theorem ea_nil : EvA X W Γ [] fun ds => ds = [] := fun ok σ H E Q hQ => runA pa_nil (hQ [] [] H (W.refl H) .nil rfl)
theorem ex_cons {e : Expr} {es : List Expr} {P : PyData → Prop} {Pr : List PyData → Prop} (h : EvE X W Γ e P) (k : EvA X W Γ es Pr) (hs : starEach (e :: es) X.env = (false, eval e X.env) :: starEach es X.env := by rfl) :
    EvA X W Γ (e :: es) fun ds => ∃ d r, ds = d :: r ∧ P d ∧ Pr r := fun ok σ H E Q hQ =>
  runA (pa_cons peR paR hs) (h ok σ H E _ fun v d H1 r1 d1 p1 => k ok σ H1 (E.mono r1) _ fun vs ds H2 r2 l2 p2 => hQ (v :: vs) (d :: ds) H2 (W.trans r1 r2) (.cons (d1.keep (W.keep r2)) l2) ⟨d, ds, rfl, p1, p2⟩)
theorem EvA.imp {es : List Expr} {P P' : List PyData → Prop} (h : EvA X W Γ es P) (k : ∀ d, P d → P' d) : EvA X W Γ es P' := fun ok σ H E Q hQ => h ok σ H E Q fun v d H' r a p => hQ v d H' r a (k d p)
theorem ea_cons {e : Expr} {es : List Expr} {d : PyData} {ds : List PyData} (h : EvD X W Γ e d) (k : EvA X W Γ es fun r => r = ds) (hs : starEach (e :: es) X.env = (false, eval e X.env) :: starEach es X.env := by rfl) :
    EvA X W Γ (e :: es) fun r => r = d :: ds := (ex_cons h k hs).imp fun _ ⟨_, _, e1, e2, e3⟩ => by rw [e1, e2, e3]
theorem ex_tup {es : List Expr} {P : List PyData → Prop} {x1 : Nat} {pos : Pos} (h : EvA X W Γ es P) (hl : ∀ ds, P ds → ds.length ≤ 100000) : EvE X W Γ (.Tuple es x1 pos) fun d => ∃ ds, d = .tuple ds ∧ P ds := fun ok σ H E Q hQ =>
  runE (pe_tup paR) (h ok σ H E _ fun vs ds H1 r1 l1 p1 => ⟨szl (by rw [l1.len]; exact hl ds p1), fun p n =>
    have q := new_tup (E.mono r1).z l1 n
    hQ _ _ _ (W.trans r1 q.1) q.2 ⟨ds, rfl, p1⟩⟩)
theorem ex_lst {es : List Expr} {P : List PyData → Prop} {pos : Pos} (h : EvA X W Γ es P) (hl : ∀ ds, P ds → ds.length ≤ 100000) : EvE X W Γ (.List es pos) fun d => ∃ ds, d = .list ds ∧ P ds := fun ok σ H E Q hQ =>
  runE (pe_lst paR) (h ok σ H E _ fun vs ds H1 r1 l1 p1 => ⟨szl (by rw [l1.len]; exact hl ds p1), fun p n =>
    have q := new_lst (E.mono r1).z l1 n
    hQ _ _ _ (W.trans r1 q.1) q.2 ⟨ds, rfl, p1⟩⟩)
theorem ev_tup {es : List Expr} {ds : List PyData} {x1 : Nat} {pos : Pos} (h : EvA X W Γ es fun r => r = ds) (hl : ds.length ≤ 100000 := by first | decide | simp) : EvD X W Γ (.Tuple es x1 pos) (.tuple ds) :=
  (ex_tup h fun _ e => by rw [e]; exact hl).imp fun _ ⟨_, e1, e2⟩ => by rw [e1, e2]
theorem ev_lst {es : List Expr} {ds : List PyData} {pos : Pos} (h : EvA X W Γ es fun r => r = ds) (hl : ds.length ≤ 100000 := by first | decide | simp) : EvD X W Γ (.List es pos) (.list ds) :=
  (ex_lst h fun _ e => by rw [e]; exact hl).imp fun _ ⟨_, e1, e2⟩ => by rw [e1, e2]

/-! ### subscripts -/
section
variable {a b : Expr} {pos p2 : Pos} {Pb : PyData → Prop} {ds es : List PyData} {d : PyData} {i j : Nat}
/-- an item, told by the data -/
theorem at_get {H : Hp} {xs : List V} (l : W.L H xs ds) (h : ds[i]? = some d) : ∃ v, atI xs (i : Int) = some v ∧ W.D H v d :=
  let ⟨v, a, b⟩ := l.get h
  ⟨v, atI_nat a, b⟩
theorem ix_two (ok : XOk X) {σ : L2.St} {H : Hp} (E : En W H σ Γ) {r : R2} {Pa P : PyData → Prop} (h : EvE X W Γ a Pa) (k : EvE X W Γ b Pb) (hr : ∀ x y, Pa x → Pb y → RvD X W r x y P) {Q : VK} (hQ : ∀ v d H', W.R H H' → W.D H' v d → P d → Q v H') :
    tOp r (RunE X a) (RunE X b) σ H Q := ex_two h k hr ok E hQ
theorem ex_ixT {P : PyData → Prop} (h : EvD X W Γ a (.tuple ds)) (k : EvE X W Γ b fun y => ∃ i : Nat, y = .int i ∧ ∃ d, ds[i]? = some d ∧ P d) (hs : PlainIx b := by exact fun _ _ => rfl) : EvE X W Γ (.Subscript a b pos) P := fun ok σ H E Q hQ =>
  runE (pe_ix ix_tup peR peR hs) (ex_two h k (fun x y e1 e2 vx vy H z d1 d2 Q hQ => by
    subst e1
    obtain ⟨i, rfl, d, hd, hP⟩ := e2
    obtain ⟨p, xs, rfl, hq, _, l⟩ := d1.tup_inv
    obtain ⟨v, ha, hv⟩ := at_get l hd
    exact ⟨p, xs, i, v, rfl, d2.int_inv, hq, ha, hQ v d H (W.refl H) hv hP⟩) ok E hQ)
theorem ex_ixL {P : PyData → Prop} {Pa : PyData → Prop} (h : EvE X W Γ a Pa) (k : EvE X W Γ b Pb) (hp : ∀ x y, Pa x → Pb y → ∃ ds, x = .list ds ∧ ∃ i : Nat, y = .int i ∧ ∃ d, ds[i]? = some d ∧ P d) (hs : PlainIx b := by exact fun _ _ => rfl) : EvE X W Γ (.Subscript a b pos) P := fun ok σ H E Q hQ =>
  runE (pe_ix ix_list peR peR hs) (ex_two h k (fun x y e1 e2 vx vy H z d1 d2 Q hQ => by
    obtain ⟨ds, rfl, i, rfl, d, hd, hP⟩ := hp x y e1 e2
    obtain ⟨p, xs, rfl, hq, _, l⟩ := d1.lst_inv
    obtain ⟨v, ha, hv⟩ := at_get l hd
    exact ⟨p, xs, i, v, rfl, d2.int_inv, .of hq, ha, hQ v d H (W.refl H) hv hP⟩) ok E hQ)
theorem ev_ixT (h : EvD X W Γ a (.tuple ds)) (k : EvD X W Γ b (.int (i : Int))) (hd : ds[i]? = some d) (hs : PlainIx b := by exact fun _ _ => rfl) : EvD X W Γ (.Subscript a b pos) d :=
  ex_ixT h (k.imp fun _ e => ⟨i, e, d, hd, rfl⟩) hs
theorem ev_ix0 {j : Nat} {p3 : Pos} (h : EvD X W Γ a (.tuple ds)) (hd : ds[0]? = some d) : EvD X W Γ (.Subscript a (.Constant (.int 0) j p3) pos) d := ev_ixT (i := 0) h ev_i hd
theorem ev_ix1 {j : Nat} {p3 : Pos} (h : EvD X W Γ a (.tuple ds)) (hd : ds[1]? = some d) : EvD X W Γ (.Subscript a (.Constant (.int 1) j p3) pos) d := ev_ixT (i := 1) h ev_i hd
theorem ev_ix2 {j : Nat} {p3 : Pos} (h : EvD X W Γ a (.tuple ds)) (hd : ds[2]? = some d) : EvD X W Γ (.Subscript a (.Constant (.int 2) j p3) pos) d := ev_ixT (i := 2) h ev_i hd
theorem ev_ix3 {j : Nat} {p3 : Pos} (h : EvD X W Γ a (.tuple ds)) (hd : ds[3]? = some d) : EvD X W Γ (.Subscript a (.Constant (.int 3) j p3) pos) d := ev_ixT (i := 3) h ev_i hd

/-! ### slices, concatenations -/
theorem cut_to (xs : List V) (k : Nat) : cutV xs none (some (k : Int)) = xs.take k := by
  unfold cutV
  rw [HT.sIx_none, HT.sIx_nat, List.drop_zero, Nat.sub_zero]
  by_cases h : k ≤ xs.length
  · rw [Nat.min_eq_left h]
  · rw [Nat.min_eq_right (by omega), List.take_length, List.take_of_length_le (by omega)]
theorem cut_from (xs : List V) (k : Nat) : cutV xs (some (k : Int)) none = xs.drop k := by
  unfold cutV
  rw [HT.sIx_none, HT.sIx_nat]
  by_cases h : k ≤ xs.length
  · rw [Nat.min_eq_left h, List.take_of_length_le (by rw [List.length_drop]; omega)]
  · rw [Nat.min_eq_right (by omega), List.drop_length, List.drop_of_length_le (by omega), List.take_nil]
theorem ev_sl {lo hi : Option Expr} {tl th : TO} {l u : Option Int} (h : EvD X W Γ a (.tuple ds)) (pl : PO X lo tl) (pu : PO X hi th)
    (hl : XOk X → ∀ σ H, En W H σ Γ → ∀ Q : Option Int → Hp → Prop, (∀ H', W.R H H' → Q l H') → tl σ H Q) (hu : XOk X → ∀ σ H, En W H σ Γ → ∀ Q : Option Int → Hp → Prop, (∀ H', W.R H H' → Q u H') → th σ H Q)
    (hc : ∀ (H : Hp) (xs : List V), W.L H xs ds → W.L H (cutV xs l u) es) (hw : ds.length = es.length → ds = es) : EvD X W Γ (.Subscript a (.Slice lo hi none p2) pos) (.tuple es) := fun ok σ H E Q hQ =>
  runE (pe_slice sl_tupA peR pl pu) (h ok σ H E _ fun v d H1 r1 d1 e1 => hl ok σ H1 (E.mono r1) _ fun H2 r2 => hu ok σ H2 ((E.mono r1).mono r2) _ fun H3 r3 => by
    subst e1
    have d3 := (d1.keep (W.keep r2)).keep (W.keep r3)
    have z3 := (((E.mono r1).mono r2).mono r3).z
    obtain ⟨p, xs, rfl, hq, nM, ll⟩ := d3.tup_inv
    have lc := hc H3 xs ll
    refine ⟨p, xs, rfl, hq, fun hwh => ?_, fun hwh q hn => ?_⟩
    · have e : cutV xs l u = xs := by
        unfold cutV
        rw [hwh.1, hwh.2, List.drop_zero, Nat.sub_zero, List.take_length]
      rw [e] at lc
      have : ds = es := hw (by rw [← ll.len, ← lc.len])
      exact hQ _ _ H3 (W.trans r1 (W.trans r2 r3)) d3 (by rw [this])
    · have q2 := new_tup z3 lc hn
      exact hQ _ _ _ (W.trans (W.trans r1 (W.trans r2 r3)) q2.1) q2.2 rfl)
/-- v[:k] -/
theorem ev_slTo (h : EvD X W Γ a (.tuple ds)) (k : EvD X W Γ b (.int (i : Int))) : EvD X W Γ (.Subscript a (.Slice none (some b) none p2) pos) (.tuple (ds.take i)) :=
  ev_sl h po_none (po_some peR) (fun ok σ H E Q hQ => hQ H (W.refl H)) (fun ok σ H E Q hQ => k ok σ H E _ fun v d H1 r1 d1 e => ⟨i, by subst e; exact d1.int_inv, hQ H1 r1⟩)
    (fun H xs l => by rw [cut_to]; exact l.take i) fun e => (List.take_of_length_le (by rw [List.length_take] at e; omega)).symm
/-- v[k:] -/
theorem ev_slFrom (h : EvD X W Γ a (.tuple ds)) (k : EvD X W Γ b (.int (i : Int))) : EvD X W Γ (.Subscript a (.Slice (some b) none none p2) pos) (.tuple (ds.drop i)) :=
  ev_sl h (po_some peR) po_none (fun ok σ H E Q hQ => k ok σ H E _ fun v d H1 r1 d1 e => ⟨i, by subst e; exact d1.int_inv, hQ H1 r1⟩) (fun ok σ H E Q hQ => hQ H (W.refl H))
    (fun H xs l => by rw [cut_from]; exact l.drop i) fun e => by
      rw [List.length_drop] at e
      by_cases h0 : ds.length = 0
      · rw [List.length_eq_zero_iff.mp h0, List.drop_nil]
      · have : i = 0 := by omega
        rw [this]
        rfl
theorem ev_catT (h : EvD X W Γ a (.tuple ds)) (k : EvD X W Γ b (.tuple es)) (hl : ds.length + es.length ≤ 100000) : EvD X W Γ (.BinOp a .Add b pos) (.tuple (ds ++ es)) :=
  ev_op op_catA h k fun vx vy H z d1 d2 Q hQ => by
    obtain ⟨p, xs, rfl, hq, _, l1⟩ := d1.tup_inv
    obtain ⟨q, ys, rfl, hq2, _, l2⟩ := d2.tup_inv
    refine ⟨p, q, xs, ys, rfl, rfl, hq, hq2, szl (by rw [l1.len, l2.len]; exact hl), fun e => ?_, fun _ e => ?_, fun _ _ t n => ?_⟩
    · subst e
      cases l1
      exact hQ _ _ H (W.refl H) d2 rfl
    · subst e
      cases l2
      exact hQ _ _ H (W.refl H) d1 (by rw [List.append_nil])
    · have w := new_tup z (l1.append l2) n
      exact hQ _ _ _ w.1 w.2 rfl
theorem ev_catL (h : EvD X W Γ a (.list ds)) (k : EvD X W Γ b (.list es)) (hl : ds.length + es.length ≤ 100000) : EvD X W Γ (.BinOp a .Add b pos) (.list (ds ++ es)) :=
  ev_op op_cat h k fun vx vy H z d1 d2 Q hQ => by
    obtain ⟨p, xs, rfl, hq, _, l1⟩ := d1.lst_inv
    obtain ⟨q, ys, rfl, hq2, _, l2⟩ := d2.lst_inv
    refine ⟨p, q, xs, ys, rfl, rfl, hq, hq2, szl (by rw [l1.len, l2.len]; exact hl), fun t n => ?_⟩
    have w := new_lst z (l1.append l2) n
    exact hQ _ _ _ w.1 w.2 rfl
end

/-! ### None, True, False -/
section
variable {a b c : Expr} {pos : Pos}
theorem is_non {v : V} {d : PyData} {H : Hp} (h : W.D H v d) : decide (v = .non) = isNone d := by cases h <;> simp [isNone]
theorem rv_notN {d : PyData} : RvD X W (fun x y H Q => y = .non ∧ Q (.bl (!decide (x = .non))) H) d .none fun z => z = .bool (!isNone d) := fun vx vy H z d1 d2 Q hQ => ⟨d2.non_inv, hQ _ _ H (W.refl H) (.bl _) (by rw [is_non d1])⟩
theorem rv_isN {d : PyData} : RvD X W (fun x y H Q => y = .non ∧ Q (.bl (decide (x = .non))) H) d .none fun z => z = .bool (isNone d) := fun vx vy H z d1 d2 Q hQ => ⟨d2.non_inv, hQ _ _ H (W.refl H) (.bl _) (by rw [is_non d1])⟩
theorem rv_isB {p q : Bool} : RvD X W rIsB (.bool p) (.bool q) fun z => z = .bool (decide (p = q)) := fun vx vy H z d1 d2 Q hQ => ⟨p, q, d1.bl_inv, d2.bl_inv, hQ _ _ H (W.refl H) (.bl _) rfl⟩
theorem rv_notB {p q : Bool} : RvD X W rNotB (.bool p) (.bool q) fun z => z = .bool (!decide (p = q)) := fun vx vy H z d1 d2 Q hQ => ⟨p, q, d1.bl_inv, d2.bl_inv, hQ _ _ H (W.refl H) (.bl _) rfl⟩
theorem ev_notN {d : PyData} {j : Nat} {p : Pos} (h : EvD X W Γ a d) : EvD X W Γ (.Compare a [.IsNot] [.Constant .none j p] pos) (.bool (!isNone d)) := ev_cmp op_notN h ev_non rv_notN
theorem ev_isN {d : PyData} {j : Nat} {p : Pos} (h : EvD X W Γ a d) : EvD X W Γ (.Compare a [.Is] [.Constant .none j p] pos) (.bool (isNone d)) := ev_cmp op_isN h ev_non rv_isN
theorem ev_isB {p q : Bool} (h : EvD X W Γ a (.bool p)) (k : EvD X W Γ b (.bool q)) : EvD X W Γ (.Compare a [.Is] [b] pos) (.bool (decide (p = q))) := ev_cmp op_isBl h k rv_isB
theorem ev_notB {p q : Bool} (h : EvD X W Γ a (.bool p)) (k : EvD X W Γ b (.bool q)) : EvD X W Γ (.Compare a [.IsNot] [b] pos) (.bool (!decide (p = q))) := ev_cmp op_notBl h k rv_notB
theorem et_notN {d : PyData} {j : Nat} {p : Pos} (h : EvD X W Γ a d) : EvT X W Γ (.Compare a [.IsNot] [.Constant .none j p] pos) (!isNone d) := et_cmp (fun _ => op_notN) h ev_non rv_notN
theorem et_isN {d : PyData} {j : Nat} {p : Pos} (h : EvD X W Γ a d) : EvT X W Γ (.Compare a [.Is] [.Constant .none j p] pos) (isNone d) := et_cmp (fun _ => op_isN) h ev_non rv_isN
theorem et_isB {p q : Bool} (h : EvD X W Γ a (.bool p)) (k : EvD X W Γ b (.bool q)) : EvT X W Γ (.Compare a [.Is] [b] pos) (decide (p = q)) := et_cmp (fun _ => op_isBl) h k rv_isB
theorem et_notB {p q : Bool} (h : EvD X W Γ a (.bool p)) (k : EvD X W Γ b (.bool q)) : EvT X W Γ (.Compare a [.IsNot] [b] pos) (!decide (p = q)) := et_cmp (fun _ => op_notBl) h k rv_notB
/-- a <= b <= c of ints -/
theorem ev_le2 {i j k : Int} (ha : EvD X W Γ a (.int i)) (hb : EvD X W Γ b (.int j)) (hc : EvD X W Γ c (.int k)) (hm : lastMarks [.LtE, .LtE] [b, c] = false := by with_unfolding_all rfl) : EvD X W Γ (.Compare a [.LtE, .LtE] [b, c] pos) (.bool (decide (i ≤ j ∧ j ≤ k))) := fun ok σ H E Q hQ =>
  runE (pe_chain op_le op_le peR peR peR hm) (ha ok σ H E _ fun v d H1 r1 d1 e1 => hb ok σ H1 (E.mono r1) _ fun v2 d2 H2 r2 d2' e2 => by
    subst e1 e2
    refine ⟨i, j, (d1.keep (W.keep r2)).int_inv, d2'.int_inv, decide (i ≤ j), rfl, ?_⟩
    by_cases hij : i ≤ j
    · rw [decide_eq_true hij]
      refine hc ok σ H2 ((E.mono r1).mono r2) _ fun v3 d3 H3 r3 d3' e3 => ?_
      subst e3
      exact ⟨j, k, (d2'.keep (W.keep r3)).int_inv, d3'.int_inv, hQ _ _ H3 (W.trans r1 (W.trans r2 r3)) (.bl _) (by simp [hij])⟩
    · rw [decide_eq_false hij]
      exact hQ _ _ H2 (W.trans r1 r2) (.bl false) (by simp [hij]))
end

/-! ### calls of what is built in -/
def RcD (X : Cx) (W : Wd X.K) (r : List V → Hp → VK → Prop) (ds : List PyData) (P : PyData → Prop) : Prop := ∀ vs H, W.Z H → W.L H vs ds → ∀ Q : VK, (∀ v d H', W.R H H' → W.D H' v d → P d → Q v H') → r vs H Q
section
variable {x : Str} {e : Expr} {es : List Expr} {p pos : Pos} {id T : String} {r : List V → Hp → VK → Prop} {Pa : List PyData → Prop} {P : PyData → Prop}
theorem ex_callB (hc : XOk X → CallR X (.builtin id) r) (hg : Gl X x) (hm : X.mg x = none) (hv : bootBuiltins x = some (.builtin id)) (ha : EvA X W Γ (e :: es) Pa) (hr : ∀ ds, Pa ds → RcD X W r ds P) (hn : x ≠ "__name__" := by decide) (hdb : (x == ("__debug__" : Str)) = false := by decide)
    (he : starEach (e :: es) X.env = (false, eval e X.env) :: starEach es X.env := by rfl) (hpl : (backTo pos (starEach es X.env)).any (·.1) = false := by rfl) : EvE X W Γ (.Call (.Name x p) (e :: es) [] pos) P := fun ok σ H E Q hQ =>
  runE (pe_callB (hc ok) hg hm hv paR hn hdb he hpl) (ha ok σ H E _ fun vs ds H1 r1 l1 p1 => hr ds p1 vs H1 (E.mono r1).z l1 Q fun v d H' r2 => hQ v d H' (W.trans r1 r2))
theorem ex_callTy (hc : XOk X → CallR X (.type T) r) (hg : Gl X x) (hm : X.mg x = none) (hv : bootBuiltins x = some (.type T)) (ha : EvA X W Γ (e :: es) Pa) (hr : ∀ ds, Pa ds → RcD X W r ds P) (hn : x ≠ "__name__" := by decide) (hdb : (x == ("__debug__" : Str)) = false := by decide)
    (he : starEach (e :: es) X.env = (false, eval e X.env) :: starEach es X.env := by rfl) (hpl : (backTo pos (starEach es X.env)).any (·.1) = false := by rfl) : EvE X W Γ (.Call (.Name x p) (e :: es) [] pos) P := fun ok σ H E Q hQ =>
  runE (pe_callTy (hc ok) hg hm hv paR hn hdb he hpl) (ha ok σ H E _ fun vs ds H1 r1 l1 p1 => hr ds p1 vs H1 (E.mono r1).z l1 Q fun v d H' r2 => hQ v d H' (W.trans r1 r2))
theorem L1 {H : Hp} {vs : List V} {d : PyData} (l : W.L H vs [d]) : ∃ v, vs = [v] ∧ W.D H v d := by
  cases l with
  | cons a b => cases b; exact ⟨_, rfl, a⟩
theorem L2' {H : Hp} {vs : List V} {d d' : PyData} (l : W.L H vs [d, d']) : ∃ v v', vs = [v, v'] ∧ W.D H v d ∧ W.D H v' d' := by
  cases l with
  | cons a b =>
    cases b with
    | cons c b => cases b; exact ⟨_, _, rfl, a, c⟩
variable {e2 : Expr}
theorem ev_abs {i : Int} (hm : X.mg "abs" = none) (h : EvD X W Γ e (.int i)) (hg : Gl X "abs" := by rfl) (he : starEach [e] X.env = (false, eval e X.env) :: starEach [] X.env := by rfl) (hpl : (backTo pos (starEach [] X.env)).any (·.1) = false := by rfl) :
    EvD X W Γ (.Call (.Name "abs" p) [e] [] pos) (.int (if i < 0 then -i else i)) :=
  ex_callB (fun _ => call_abs) hg hm (by decide +kernel) (ea_cons h ea_nil he) (fun ds q vs H z l Q hQ => by
    subst q
    obtain ⟨v, rfl, d⟩ := L1 l
    exact ⟨i, by rw [d.int_inv], hQ _ _ H (W.refl H) (.int _) rfl⟩) (by decide) (by decide) he hpl
theorem ev_max2 {i j : Int} (hm : X.mg "max" = none) (h : EvD X W Γ e (.int i)) (k : EvD X W Γ e2 (.int j)) (hg : Gl X "max" := by rfl) (he : starEach [e, e2] X.env = (false, eval e X.env) :: starEach [e2] X.env := by rfl) (he2 : starEach [e2] X.env = (false, eval e2 X.env) :: starEach [] X.env := by rfl)
    (hpl : (backTo pos (starEach [e2] X.env)).any (·.1) = false := by rfl) : EvD X W Γ (.Call (.Name "max" p) [e, e2] [] pos) (.int (max i j)) :=
  ex_callB (fun ok => call_max2 ok.calm) hg hm (by decide +kernel) (ea_cons h (ea_cons k ea_nil he2) he) (fun ds q vs H z l Q hQ => by
    subst q
    obtain ⟨v, w, rfl, d1, d2⟩ := L2' l
    refine ⟨i, j, by rw [d1.int_inv, d2.int_inv], hQ _ _ H (W.refl H) (.int _) ?_⟩
    congr 1
    split <;> omega) (by decide) (by decide) he hpl
theorem ev_min2 {i j : Int} (hm : X.mg "min" = none) (h : EvD X W Γ e (.int i)) (k : EvD X W Γ e2 (.int j)) (hg : Gl X "min" := by rfl) (he : starEach [e, e2] X.env = (false, eval e X.env) :: starEach [e2] X.env := by rfl) (he2 : starEach [e2] X.env = (false, eval e2 X.env) :: starEach [] X.env := by rfl)
    (hpl : (backTo pos (starEach [e2] X.env)).any (·.1) = false := by rfl) : EvD X W Γ (.Call (.Name "min" p) [e, e2] [] pos) (.int (min i j)) :=
  ex_callB (fun ok => call_min2 ok.calm) hg hm (by decide +kernel) (ea_cons h (ea_cons k ea_nil he2) he) (fun ds q vs H z l Q hQ => by
    subst q
    obtain ⟨v, w, rfl, d1, d2⟩ := L2' l
    refine ⟨i, j, by rw [d1.int_inv, d2.int_inv], hQ _ _ H (W.refl H) (.int _) ?_⟩
    congr 1
    split <;> omega) (by decide) (by decide) he hpl
theorem ev_intI {i : Int} (hm : X.mg "int" = none) (h : EvD X W Γ e (.int i)) (hg : Gl X "int" := by rfl) (he : starEach [e] X.env = (false, eval e X.env) :: starEach [] X.env := by rfl) (hpl : (backTo pos (starEach [] X.env)).any (·.1) = false := by rfl) :
    EvD X W Γ (.Call (.Name "int" p) [e] [] pos) (.int i) :=
  ex_callTy (fun _ => call_int1) hg hm (by decide +kernel) (ea_cons h ea_nil he) (fun ds q vs H z l Q hQ => by
    subst q
    obtain ⟨v, rfl, d⟩ := L1 l
    exact .inl ⟨i, by rw [d.int_inv], hQ _ _ H (W.refl H) (.int _) rfl⟩) (by decide) (by decide) he hpl
theorem ev_intB {b : Bool} (hm : X.mg "int" = none) (h : EvD X W Γ e (.bool b)) (hg : Gl X "int" := by rfl) (he : starEach [e] X.env = (false, eval e X.env) :: starEach [] X.env := by rfl) (hpl : (backTo pos (starEach [] X.env)).any (·.1) = false := by rfl) :
    EvD X W Γ (.Call (.Name "int" p) [e] [] pos) (.int (if b then 1 else 0)) :=
  ex_callTy (fun _ => call_int1) hg hm (by decide +kernel) (ea_cons h ea_nil he) (fun ds q vs H z l Q hQ => by
    subst q
    obtain ⟨v, rfl, d⟩ := L1 l
    exact .inr ⟨b, by rw [d.bl_inv], hQ _ _ H (W.refl H) (.int _) rfl⟩) (by decide) (by decide) he hpl
theorem ev_lenT {ds : List PyData} (hm : X.mg "len" = none) (h : EvD X W Γ e (.tuple ds)) (hg : Gl X "len" := by rfl) (he : starEach [e] X.env = (false, eval e X.env) :: starEach [] X.env := by rfl) (hpl : (backTo pos (starEach [] X.env)).any (·.1) = false := by rfl) :
    EvD X W Γ (.Call (.Name "len" p) [e] [] pos) (.int (ds.length : Int)) :=
  ex_callB (fun _ => call_len_seq) hg hm PySem.boot_len (ea_cons h ea_nil he) (fun ds' q vs H z l Q hQ => by
    subst q
    obtain ⟨v, rfl, d⟩ := L1 l
    obtain ⟨a, xs, rfl, hq, _, ll⟩ := d.tup_inv
    exact ⟨a, xs, rfl, .inr hq, hQ _ _ H (W.refl H) (.int _) (by rw [ll.len])⟩) (by decide) (by decide) he hpl
theorem ev_lenL {ds : List PyData} (hm : X.mg "len" = none) (h : EvD X W Γ e (.list ds)) (hg : Gl X "len" := by rfl) (he : starEach [e] X.env = (false, eval e X.env) :: starEach [] X.env := by rfl) (hpl : (backTo pos (starEach [] X.env)).any (·.1) = false := by rfl) :
    EvD X W Γ (.Call (.Name "len" p) [e] [] pos) (.int (ds.length : Int)) :=
  ex_callB (fun _ => call_len_seq) hg hm PySem.boot_len (ea_cons h ea_nil he) (fun ds' q vs H z l Q hQ => by
    subst q
    obtain ⟨v, rfl, d⟩ := L1 l
    obtain ⟨a, xs, rfl, hq, _, ll⟩ := d.lst_inv
    exact ⟨a, xs, rfl, .inl (.of hq), hQ _ _ H (W.refl H) (.int _) (by rw [ll.len])⟩) (by decide) (by decide) he hpl
theorem ev_lenS {ds : List PyData} (hm : X.mg "len" = none) (h : EvD X W Γ e (.dict [(.none, .list ds)])) (hg : Gl X "len" := by rfl) (he : starEach [e] X.env = (false, eval e X.env) :: starEach [] X.env := by rfl) (hpl : (backTo pos (starEach [] X.env)).any (·.1) = false := by rfl) :
    EvD X W Γ (.Call (.Name "len" p) [e] [] pos) (.int (ds.length : Int)) :=
  ex_callB (fun _ => call_len_seq) hg hm PySem.boot_len (ea_cons h ea_nil he) (fun ds' q vs H z l Q hQ => by
    subst q
    obtain ⟨v, rfl, d⟩ := L1 l
    obtain ⟨a, xs, rfl, hq, _, ll⟩ := d.scr_inv
    exact ⟨a, xs, rfl, .inl hq, hQ _ _ H (W.refl H) (.int _) (by rw [ll.len])⟩) (by decide) (by decide) he hpl
/-- tuple(a list) -/
theorem ex_tupleOf {Pl : List PyData → Prop} (hm : X.mg "tuple" = none) (h : EvE X W Γ e fun d => ∃ ds, d = .list ds ∧ Pl ds) (hg : Gl X "tuple" := by rfl) (he : starEach [e] X.env = (false, eval e X.env) :: starEach [] X.env := by rfl) (hpl : (backTo pos (starEach [] X.env)).any (·.1) = false := by rfl) :
    EvE X W Γ (.Call (.Name "tuple" p) [e] [] pos) fun d => ∃ ds, d = .tuple ds ∧ Pl ds :=
  ex_callTy (fun _ => call_tuple_of) hg hm (by decide +kernel) (ex_cons h ea_nil he) (fun ds' q vs H z l Q hQ => by
    obtain ⟨_, _, rfl, ⟨ds, rfl, pl⟩, rfl⟩ := q
    obtain ⟨v, rfl, d⟩ := L1 l
    obtain ⟨a, xs, rfl, hq, _, ll⟩ := d.lst_inv
    exact ⟨a, xs, rfl, .inl ⟨.of hq, fun t n => have w := new_tup z ll n; hQ _ _ _ w.1 w.2 ⟨ds, rfl, pl⟩⟩⟩) (by decide) (by decide) he hpl
theorem ev_tupleOf {ds : List PyData} (hm : X.mg "tuple" = none) (h : EvD X W Γ e (.list ds)) (hg : Gl X "tuple" := by rfl) (he : starEach [e] X.env = (false, eval e X.env) :: starEach [] X.env := by rfl) (hpl : (backTo pos (starEach [] X.env)).any (·.1) = false := by rfl) :
    EvD X W Γ (.Call (.Name "tuple" p) [e] [] pos) (.tuple ds) :=
  (ex_tupleOf (Pl := fun r => r = ds) hm (h.imp fun _ e => ⟨ds, e, rfl⟩) hg he hpl).imp fun _ ⟨_, e1, e2⟩ => by rw [e1, e2]
theorem ints_inv : ∀ {H : Hp} {ns : List Int} {xs : List V}, W.L H xs (ns.map .int) → xs = ns.map V.int
  | _, [], _, l => by cases l; rfl
  | _, n :: ns, _, l => by
    cases l with
    | cons a b => rw [a.int_inv, ints_inv b]; rfl
theorem bls_inv : ∀ {H : Hp} {ns : List Bool} {xs : List V}, W.L H xs (ns.map .bool) → xs = ns.map V.bl
  | _, [], _, l => by cases l; rfl
  | _, n :: ns, _, l => by
    cases l with
    | cons a b => rw [a.bl_inv, bls_inv b]; rfl
theorem ev_sum {ns : List Int} (hm : X.mg "sum" = none) (h : EvD X W Γ e (.list (ns.map .int))) (hg : Gl X "sum" := by rfl) (he : starEach [e] X.env = (false, eval e X.env) :: starEach [] X.env := by rfl) (hpl : (backTo pos (starEach [] X.env)).any (·.1) = false := by rfl) :
    EvD X W Γ (.Call (.Name "sum" p) [e] [] pos) (.int ns.sum) :=
  ex_callB (fun ok => cr_sum ok.calm) hg hm (by decide +kernel) (ea_cons h ea_nil he) (fun ds' q vs H z l Q hQ => by
    subst q
    obtain ⟨v, rfl, d⟩ := L1 l
    obtain ⟨a, xs, rfl, hq, _, ll⟩ := d.lst_inv
    rw [ints_inv ll] at hq
    exact ⟨a, ns, rfl, .of hq, hQ _ _ H (W.refl H) (.int _) rfl⟩) (by decide) (by decide) he hpl
theorem ev_all {bs : List Bool} (hm : X.mg "all" = none) (h : EvD X W Γ e (.list (bs.map .bool))) (hg : Gl X "all" := by rfl) (he : starEach [e] X.env = (false, eval e X.env) :: starEach [] X.env := by rfl) (hpl : (backTo pos (starEach [] X.env)).any (·.1) = false := by rfl) :
    EvD X W Γ (.Call (.Name "all" p) [e] [] pos) (.bool (bs.all _root_.id)) :=
  ex_callB (fun ok => cr_all ok.calm) hg hm (by decide +kernel) (ea_cons h ea_nil he) (fun ds' q vs H z l Q hQ => by
    subst q
    obtain ⟨v, rfl, d⟩ := L1 l
    obtain ⟨a, xs, rfl, hq, _, ll⟩ := d.lst_inv
    rw [bls_inv ll] at hq
    exact ⟨a, bs, rfl, .of hq, hQ _ _ H (W.refl H) (.bl _) rfl⟩) (by decide) (by decide) he hpl
end
end
end Ng

set_option Elab.async false
set_option linter.all false
set_option maxRecDepth 100000
set_option maxHeartbeats 1000000
/-! Statements of the data level: stores, branches, loops, comprehensions. -/
namespace Ng
open PySem PySem.Spec PyProof.Rows L2
section
variable {X : Cx} {W : Wd X.K} {Γ : Gm}
/-! ### targets -/
theorem set_out {σ : L2.St} {i j : Nat} {o : Option V} (h : j ∉ [i]) : (σ.set i o)[j]? = σ[j]? := List.getElem?_set_ne fun e => h (by simp [e])
theorem as_n (i : Nat) {x : Str} {p : Pos} {d : PyData} (hN : X.N[i]? = some x := by rfl) (hx : Loc X.env.scope x := by first | exact Or.inl rfl | exact Or.inr rfl)
    (hf : X.fn x = true ∨ X.env.scope.names.lookup x = some .local := by first | exact .inl rfl | exact .inr rfl) : AsG X W Γ (.Name x p) d (Γ.set i (some d)) [i] := fun ok σ H v E h Q hQ =>
  runG (pg_name ok.nd hN hx hf) (hQ _ H (W.refl H) (E.set h) (fun j n => set_out n) List.length_set)
theorem as_2 (i j : Nat) {x y : Str} {p q pos : Pos} {k : Nat} {d e : PyData} (hN : X.N[i]? = some x := by rfl) (hx : Loc X.env.scope x := by first | exact Or.inl rfl | exact Or.inr rfl)
    (hf : X.fn x = true ∨ X.env.scope.names.lookup x = some .local := by first | exact .inl rfl | exact .inr rfl) (hN2 : X.N[j]? = some y := by rfl) (hx2 : Loc X.env.scope y := by first | exact Or.inl rfl | exact Or.inr rfl)
    (hf2 : X.fn y = true ∨ X.env.scope.names.lookup y = some .local := by first | exact .inl rfl | exact .inr rfl)
    (h1 : (assignEach [.Name x p, .Name y q] X.env).map (·.2) = assign (.Name x p) X.env :: (assignEach [.Name y q] X.env).map (·.2) := by rfl) (h2 : (assignEach [.Name y q] X.env).map (·.2) = assign (.Name y q) X.env :: (assignEach [] X.env).map (·.2) := by rfl)
    (hn : (assignEach [.Name x p, .Name y q] X.env).length = 2 := by rfl) (hst : (assignEach [.Name x p, .Name y q] X.env).findIdx? (·.1) = none := by rfl) :
    AsG X W Γ (.Tuple [.Name x p, .Name y q] k pos) (.tuple [d, e]) ((Γ.set i (some d)).set j (some e)) [i, j] := fun ok σ H v E h Q hQ => by
  obtain ⟨a, xs, rfl, hq, _, l⟩ := h.tup_inv
  obtain ⟨v, w, rfl, hv, hw⟩ := L2' l
  refine runG (pg_tup ok.calm (pgs_cons (pg_name ok.nd hN hx hf) (pgs_cons (pg_name ok.nd hN2 hx2 hf2) pgs_nil h2) h1) hn hst) ⟨a, _, rfl, hq, rfl, v, [w], rfl, w, [], rfl, rfl, ?_⟩
  refine hQ _ H (W.refl H) ((E.set hv).set hw) (fun m n => ?_) (by rw [List.length_set, List.length_set])
  simp only [List.mem_cons, List.not_mem_nil, or_false, not_or] at n
  rw [List.getElem?_set_ne (Ne.symm n.2), List.getElem?_set_ne (Ne.symm n.1)]
theorem as_3 (i j l : Nat) {x y z : Str} {p q r pos : Pos} {k : Nat} {d e f : PyData} (hN : X.N[i]? = some x := by rfl) (hx : Loc X.env.scope x := by first | exact Or.inl rfl | exact Or.inr rfl)
    (hf : X.fn x = true ∨ X.env.scope.names.lookup x = some .local := by first | exact .inl rfl | exact .inr rfl) (hN2 : X.N[j]? = some y := by rfl) (hx2 : Loc X.env.scope y := by first | exact Or.inl rfl | exact Or.inr rfl)
    (hf2 : X.fn y = true ∨ X.env.scope.names.lookup y = some .local := by first | exact .inl rfl | exact .inr rfl) (hN3 : X.N[l]? = some z := by rfl) (hx3 : Loc X.env.scope z := by first | exact Or.inl rfl | exact Or.inr rfl)
    (hf3 : X.fn z = true ∨ X.env.scope.names.lookup z = some .local := by first | exact .inl rfl | exact .inr rfl)
    (h1 : (assignEach [.Name x p, .Name y q, .Name z r] X.env).map (·.2) = assign (.Name x p) X.env :: (assignEach [.Name y q, .Name z r] X.env).map (·.2) := by rfl)
    (h2 : (assignEach [.Name y q, .Name z r] X.env).map (·.2) = assign (.Name y q) X.env :: (assignEach [.Name z r] X.env).map (·.2) := by rfl)
    (h3 : (assignEach [.Name z r] X.env).map (·.2) = assign (.Name z r) X.env :: (assignEach [] X.env).map (·.2) := by rfl)
    (hn : (assignEach [.Name x p, .Name y q, .Name z r] X.env).length = 3 := by rfl) (hst : (assignEach [.Name x p, .Name y q, .Name z r] X.env).findIdx? (·.1) = none := by rfl) :
    AsG X W Γ (.Tuple [.Name x p, .Name y q, .Name z r] k pos) (.tuple [d, e, f]) (((Γ.set i (some d)).set j (some e)).set l (some f)) [i, j, l] := fun ok σ H v E h Q hQ => by
  obtain ⟨a, xs, rfl, hq, _, ll⟩ := h.tup_inv
  cases ll with
  | cons hv ll =>
  cases ll with
  | cons hw ll =>
  cases ll with
  | cons hu ll =>
  cases ll
  refine runG (pg_tup ok.calm (pgs_cons (pg_name ok.nd hN hx hf) (pgs_cons (pg_name ok.nd hN2 hx2 hf2) (pgs_cons (pg_name ok.nd hN3 hx3 hf3) pgs_nil h3) h2) h1) hn hst) ⟨a, _, rfl, hq, rfl, _, _, rfl, _, _, rfl, _, [], rfl, rfl, ?_⟩
  refine hQ _ H (W.refl H) (((E.set hv).set hw).set hu) (fun m n => ?_) (by rw [List.length_set, List.length_set, List.length_set])
  simp only [List.mem_cons, List.not_mem_nil, or_false, not_or] at n
  rw [List.getElem?_set_ne (Ne.symm n.2.2), List.getElem?_set_ne (Ne.symm n.2.1), List.getElem?_set_ne (Ne.symm n.1)]

/-! ### blocks -/
variable {rest : List Stmt} {P : Post} {pos : Pos} {e : Expr} {Pe : PyData → Prop}
theorem x_nil (h : P.nx Γ) : ExB X W Γ [] P := fun ok σ H E D s => runB pss_nil (s.nx σ H Γ (W.refl H) E h)
/-- a statement ahead of the rest, by its reading -/
theorem x_cons {st : Stmt} {t : TS} (h : XOk X → PS X st t) (k : XOk X → ∀ σ H, En W H σ Γ → ∀ D : Ends, Sat X W H P D → t { D with nx := fun σ' H' => RunB X rest D σ' H' } σ H) : ExB X W Γ (st :: rest) P := fun ok σ H E D s =>
  runB (pss_cons (h ok) pbR) (k ok σ H E D s)
theorem x_ret (h : EvE X W Γ e P.rt) : ExB X W Γ (.Return (some e) pos :: rest) P := x_cons (fun _ => ps_ret peR) fun ok σ H E D s => h ok σ H E _ fun v d H' r a p => s.rt v d H' r a p
theorem x_retN (h : P.rt .none) : ExB X W Γ (.Return none pos :: rest) P := x_cons (fun _ => ps_retN) fun ok σ H E D s => s.rt _ _ H (W.refl H) .non h
theorem x_brk (h : P.bk Γ) : ExB X W Γ (.Break pos :: rest) P := x_cons (fun _ => ps_break) fun ok σ H E D s => s.bk σ H Γ (W.refl H) E h
theorem x_if {c : Expr} {p q : List Stmt} {b : Bool} (h : EvT X W Γ c b) (h1 : b = true → ExB X W Γ p { P with nx := fun Γ' => ExB X W Γ' rest P }) (h2 : b = false → ExB X W Γ q { P with nx := fun Γ' => ExB X W Γ' rest P }) :
    ExB X W Γ (.If c p q pos :: rest) P := x_cons (fun _ => ps_if ptR pbR pbR) fun ok σ H E D s => h ok σ H E _ fun H1 r1 => by
  have sat : Sat X W H1 { P with nx := fun Γ' => ExB X W Γ' rest P } { D with nx := fun σ' H' => RunB X rest D σ' H' } :=
    ⟨fun σ' H' Γ' r a k => k ok σ' H' a D ((s.mono r1).mono r), fun v d H' r a k => (s.mono r1).rt v d H' r a k, fun σ' H' Γ' r a k => (s.mono r1).bk σ' H' Γ' r a k, fun σ' H' Γ' r a k => (s.mono r1).ct σ' H' Γ' r a k⟩
  cases b with
  | true => exact h1 rfl ok σ H1 (E.mono r1) _ sat
  | false => exact h2 rfl ok σ H1 (E.mono r1) _ sat
/-- an if whose body leaves, without else -/
theorem x_ifr {c : Expr} {p : List Stmt} {b : Bool} (h : EvT X W Γ c b) (h1 : b = true → ExB X W Γ p { P with nx := fun _ => False }) (h2 : b = false → ExB X W Γ rest P) : ExB X W Γ (.If c p [] pos :: rest) P :=
  x_if h (fun e ok σ H E D s => h1 e ok σ H E D ⟨fun _ _ _ _ _ f => f.elim, s.rt, s.bk, s.ct⟩) fun e => x_nil (h2 e)
theorem x_set (i : Nat) {x : Str} {p' : Pos} (h : EvE X W Γ e Pe) (k : ∀ d, Pe d → ExB X W (Γ.set i (some d)) rest P) (hi : X.N[i]? = some x := by rfl) (hx : Loc X.env.scope x := by first | exact Or.inl rfl | exact Or.inr rfl)
    (hs : swapsWith e (some (.Name x p')) pos.line X.env = pure false := by rfl) (hf : X.fn x = true ∨ X.env.scope.names.lookup x = some .local := by first | exact .inl rfl | exact .inr rfl) : ExB X W Γ (.Assign [.Name x p'] e pos :: rest) P :=
  x_cons (fun ok => ps_set ok.nd hi hx peR hs hf) fun ok σ H E D s => h ok σ H E _ fun v d H1 r1 a p => k d p ok _ H1 ((E.mono r1).set a) D (s.mono r1)
theorem x_setD (i : Nat) {x : Str} {p' : Pos} {d : PyData} (h : EvD X W Γ e d) (k : ExB X W (Γ.set i (some d)) rest P) (hi : X.N[i]? = some x := by rfl) (hx : Loc X.env.scope x := by first | exact Or.inl rfl | exact Or.inr rfl)
    (hs : swapsWith e (some (.Name x p')) pos.line X.env = pure false := by rfl) (hf : X.fn x = true ∨ X.env.scope.names.lookup x = some .local := by first | exact .inl rfl | exact .inr rfl) : ExB X W Γ (.Assign [.Name x p'] e pos :: rest) P :=
  x_set i h (fun _ q => q ▸ k) hi hx hs hf
/-- target = e -/
theorem x_asg {tg : Expr} {js : List Nat} {Γ' : PyData → Gm} (h : EvE X W Γ e Pe) (g : ∀ d, Pe d → AsG X W Γ tg d (Γ' d) js) (k : ∀ d, Pe d → ExB X W (Γ' d) rest P) (hs : swapsWithSole [tg] e pos.line X.env = pure false := by rfl) (hw : swappedStores [tg] e X.env = pure none := by rfl)
    (h1 : (assignEach [tg] X.env).map (·.2) = [assign tg X.env] := by rfl) : ExB X W Γ (.Assign [tg] e pos :: rest) P :=
  x_cons (fun ok => ps_asg peR pgR hs hw h1) fun ok σ H E D s => h ok σ H E _ fun v d H1 r1 a p => g d p ok σ H1 v (E.mono r1) a _ fun σ' H2 r2 E2 _ _ => k d p ok σ' H2 E2 D ((s.mono r1).mono r2)
/-- a, b = e -/
theorem x_two (i j : Nat) {x y : Str} {p q tpos : Pos} {kk : Nat} {d1 d2 : PyData} (h : EvD X W Γ e (.tuple [d1, d2])) (k : ExB X W ((Γ.set i (some d1)).set j (some d2)) rest P)
    (g : AsG X W Γ (.Tuple [.Name x p, .Name y q] kk tpos) (.tuple [d1, d2]) ((Γ.set i (some d1)).set j (some d2)) [i, j] := by exact as_2 _ _) (hs : swapsWithSole [.Tuple [.Name x p, .Name y q] kk tpos] e pos.line X.env = pure false := by rfl)
    (hw : swappedStores [.Tuple [.Name x p, .Name y q] kk tpos] e X.env = pure none := by rfl) (h1 : (assignEach [.Tuple [.Name x p, .Name y q] kk tpos] X.env).map (·.2) = [assign (.Tuple [.Name x p, .Name y q] kk tpos) X.env] := by rfl) :
    ExB X W Γ (.Assign [.Tuple [.Name x p, .Name y q] kk tpos] e pos :: rest) P :=
  x_asg (Γ' := fun _ => (Γ.set i (some d1)).set j (some d2)) h (fun d q => by rw [q]; exact g) (fun d q => k) hs hw h1
/-- a, b = e1, e2, two plain names -/
theorem x_par (i j : Nat) {x y : Str} {a b : Expr} {px py pt pt2 : Pos} {kt k2 : Nat} {Pa : List PyData → Prop} (ha : EvA X W Γ [a, b] Pa) (k : ∀ ds, Pa ds → ∃ d1 d2, ds = [d1, d2] ∧ ExB X W ((Γ.set i (some d1)).set j (some d2)) rest P)
    (hij : i ≠ j := by decide) (hi : X.N[i]? = some x := by rfl) (hj : X.N[j]? = some y := by rfl) (hx : X.env.scope.names.lookup x = some .local := by rfl) (hy : X.env.scope.names.lookup y = some .local := by rfl)
    (hw : swappedStores [.Tuple [.Name x px, .Name y py] kt pt] (.Tuple [a, b] k2 pt2) X.env = pure (some [x, y]) := by rfl) (hs : swapsWithSole [.Tuple [.Name x px, .Name y py] kt pt] (.Tuple [a, b] k2 pt2) pos.line X.env = pure false := by rfl) :
    ExB X W Γ (.Assign [.Tuple [.Name x px, .Name y py] kt pt] (.Tuple [a, b] k2 pt2) pos :: rest) P :=
  x_cons (fun ok => ps_par ok.calm ok.nd hi hj hij hx hy paR hw hs) fun ok σ H E D s => ha ok σ H E _ fun vs ds H1 r1 l p => by
    obtain ⟨d1, d2, rfl, kk⟩ := k ds p
    obtain ⟨v, w, rfl, h1, h2⟩ := L2' l
    exact ⟨v, w, rfl, kk ok _ H1 (((E.mono r1).set h1).set h2) D (s.mono r1)⟩
theorem x_parD (i j : Nat) {x y : Str} {a b : Expr} {px py pt pt2 : Pos} {kt k2 : Nat} {d1 d2 : PyData} (ha : EvD X W Γ a d1) (hb : EvD X W Γ b d2) (k : ExB X W ((Γ.set i (some d1)).set j (some d2)) rest P)
    (hij : i ≠ j := by decide) (hi : X.N[i]? = some x := by rfl) (hj : X.N[j]? = some y := by rfl) (hx : X.env.scope.names.lookup x = some .local := by rfl) (hy : X.env.scope.names.lookup y = some .local := by rfl)
    (hw : swappedStores [.Tuple [.Name x px, .Name y py] kt pt] (.Tuple [a, b] k2 pt2) X.env = pure (some [x, y]) := by rfl) (hs : swapsWithSole [.Tuple [.Name x px, .Name y py] kt pt] (.Tuple [a, b] k2 pt2) pos.line X.env = pure false := by rfl)
    (s1 : starEach [a, b] X.env = (false, eval a X.env) :: starEach [b] X.env := by rfl) (s2 : starEach [b] X.env = (false, eval b X.env) :: starEach [] X.env := by rfl) :
    ExB X W Γ (.Assign [.Tuple [.Name x px, .Name y py] kt pt] (.Tuple [a, b] k2 pt2) pos :: rest) P :=
  x_par i j (ea_cons ha (ea_cons hb ea_nil s2) s1) (fun ds q => ⟨d1, d2, q, k⟩) hij hi hj hx hy hw hs

/-! ### for -/
theorem x_for {tg iter : Expr} {body : List Stmt} {n : Nat} {f : Nat → PyData} (hi : EvI X W Γ tg iter n f) (I : Nat → Gm → Prop) (h0 : I 0 Γ)
    (hs : ∀ i Γ1, i < n → I i Γ1 → ∃ Γ2 js, AsG X W Γ1 tg (f i) Γ2 js ∧ ExB X W Γ2 body { nx := I (i + 1), ct := I (i + 1), bk := fun Γ' => ExB X W Γ' rest P, rt := P.rt }) (hd : ∀ Γ1, I n Γ1 → ExB X W Γ1 rest P)
    (hfs : ∀ x, foldedSetIterable iter X.env x = pure x := by intro _; rfl) : ExB X W Γ (.For tg iter body [] pos :: rest) P :=
  x_cons (fun ok => ps_for ok.po ok.calm piR pgR pbR hfs) fun ok σ H E D s => hi ok σ H E _ fun J H1 r1 wk => by
    refine ⟨fun i m σ' H' => m = n - i ∧ i ≤ n ∧ W.R H1 H' ∧ ∃ Γ1, En W H' σ' Γ1 ∧ I i Γ1, ⟨n, rfl, Nat.zero_le _, W.refl _, Γ, E.mono r1, h0⟩, ?_⟩
    rintro i m σ' H' ⟨rfl, hle, r2, Γ1, E1, hI⟩
    by_cases hlt : i < n
    · refine .inr ⟨wk.go H' r2 i hlt, fun σ2 H2 => W.R H1 H2 ∧ ∃ Γ2, En W H2 σ2 Γ2 ∧ I (i + 1) Γ2, fun σ2 H2 q => ⟨n - (i + 1), by omega, rfl, hlt, q.1, q.2⟩, fun v H3 y => ?_⟩
      obtain ⟨r3, hv⟩ := wk.yld H' r2 i v H3 hlt y
      obtain ⟨Γ2, js, hg, hb⟩ := hs i Γ1 hlt hI
      refine hg ok σ' H3 v (E1.mono r3) hv _ fun σ4 H4 r4 E4 _ _ => hb ok σ4 H4 E4 _ ?_
      have rr : W.R H1 H4 := W.trans r2 (W.trans r3 r4)
      exact ⟨fun σ5 H5 Γ5 r5 e5 q => ⟨W.trans rr r5, Γ5, e5, q⟩, fun v d H5 r5 a q => s.rt v d H5 (W.trans r1 (W.trans rr r5)) a q,
        fun σ5 H5 Γ5 r5 e5 q => q ok σ5 H5 e5 D (((s.mono r1).mono rr).mono r5), fun σ5 H5 Γ5 r5 e5 q => ⟨W.trans rr r5, Γ5, e5, q⟩⟩
    · have : i = n := by omega
      subst this
      exact .inl ⟨wk.stop H' r2, hd Γ1 hI ok σ' H' E1 D ((s.mono r1).mono r2)⟩

/-! ### what is walked -/
theorem ei_list {tg : Expr} {ds : List PyData} {f : Nat → PyData} (h : EvD X W Γ e (.list ds)) (hf : ∀ i, i < ds.length → ds[i]? = some (f i)) : EvI X W Γ tg e ds.length f := fun ok σ H E Rr hR =>
  runI (pi_list peR) (h ok σ H E _ fun v d H1 r1 a q => by
    subst q
    obtain ⟨p, xs, rfl, hq, nM, l⟩ := a.lst_inv
    refine ⟨p, rfl, ⟨xs, .of hq⟩, hR _ _ r1 ?_⟩
    have still : ∀ H', W.R H1 H' → SqL X.K H' p xs ∧ W.L H' xs ds := fun H' r => ⟨.of (W.keep r p _ hq nM), l.keep (W.keep r)⟩
    have hl := l.len
    refine ⟨fun H' r i hi => ?_, fun H' r => ⟨xs, (still H' r).1, by omega⟩, fun H' r i x H2 hi y => ?_⟩
    · exact ⟨xs, xs[i], (still H' r).1, List.getElem?_eq_getElem (by omega)⟩
    · obtain ⟨rfl, y⟩ := y
      obtain ⟨v, a, b⟩ := (still _ r).2.get (hf i hi)
      have : x = v := Option.some.inj ((y xs (still _ r).1).symm.trans a)
      exact ⟨W.refl _, this ▸ b⟩)
theorem ei_tup {tg : Expr} {ds : List PyData} {f : Nat → PyData} (h : EvD X W Γ e (.tuple ds)) (hf : ∀ i, i < ds.length → ds[i]? = some (f i)) : EvI X W Γ tg e ds.length f := fun ok σ H E Rr hR =>
  runI (pi_tup peR) (h ok σ H E _ fun v d H1 r1 a q => by
    subst q
    obtain ⟨p, xs, rfl, hq, nM, l⟩ := a.tup_inv
    refine ⟨p, rfl, ⟨xs, hq⟩, hR _ _ r1 ?_⟩
    have still : ∀ H', W.R H1 H' → SqT X.K H' p xs ∧ W.L H' xs ds := fun H' r => ⟨sqT_keep (W.keep r) nM hq, l.keep (W.keep r)⟩
    have hl := l.len
    refine ⟨fun H' r i hi => ?_, fun H' r => ⟨xs, (still H' r).1, by omega⟩, fun H' r i x H2 hi y => ?_⟩
    · exact ⟨xs, xs[i], (still H' r).1, List.getElem?_eq_getElem (by omega)⟩
    · obtain ⟨rfl, y⟩ := y
      obtain ⟨v, a, b⟩ := (still _ r).2.get (hf i hi)
      have : x = v := Option.some.inj ((y xs (still _ r).1).symm.trans a)
      exact ⟨W.refl _, this ▸ b⟩)
theorem ei_range1 {tg a : Expr} {p : Pos} {j : Int} (hm : X.mg "range" = none) (h : EvD X W Γ a (.int j)) (h1 : -(2 ^ 62) ≤ j) (h2 : j < 2 ^ 62) (hg : Gl X "range" := by rfl) (hs : starEach [a] X.env = [(false, eval a X.env)] := by rfl) :
    EvI X W Γ tg (.Call (.Name "range" p) [a] [] pos) j.toNat fun i => .int (i : Int) := fun ok σ H E Rr hR =>
  runI (pi_range1 hg hm paR hs) ((ea_cons h ea_nil hs) ok σ H E _ fun vs ds H1 r1 l q => by
    subst q
    obtain ⟨v, rfl, d⟩ := L1 l
    refine ⟨j, by rw [d.int_inv], h1, h2, hR _ _ r1 ⟨fun _ _ i hi => hi, fun _ _ => Nat.le_refl _, fun H' r i x H2 hi y => ?_⟩⟩
    obtain ⟨rfl, rfl⟩ := y
    refine ⟨W.refl _, ?_⟩
    rw [Int.zero_add]
    exact .int _)
theorem ei_range2 {tg a b : Expr} {p : Pos} {i j : Int} (hm : X.mg "range" = none) (h : EvD X W Γ a (.int i)) (k : EvD X W Γ b (.int j)) (hb : -(2 ^ 62) ≤ i ∧ i < 2 ^ 62 ∧ -(2 ^ 62) ≤ j ∧ j < 2 ^ 62) (hg : Gl X "range" := by rfl)
    (hs : starEach [a, b] X.env = [(false, eval a X.env), (false, eval b X.env)] := by rfl) (hs2 : starEach [b] X.env = [(false, eval b X.env)] := by rfl) :
    EvI X W Γ tg (.Call (.Name "range" p) [a, b] [] pos) (j - i).toNat fun t => .int (i + (t : Int)) := fun ok σ H E Rr hR =>
  runI (pi_range2 hg hm paR hs hs2) ((ea_cons h (ea_cons k ea_nil hs2) (by rw [hs, hs2])) ok σ H E _ fun vs ds H1 r1 l q => by
    subst q
    obtain ⟨v, w, rfl, d, d2⟩ := L2' l
    refine ⟨i, j, by rw [d.int_inv, d2.int_inv], hb, hR _ _ r1 ⟨fun _ _ i hi => hi, fun _ _ => Nat.le_refl _, fun H' r t x H2 hi y => ?_⟩⟩
    obtain ⟨rfl, rfl⟩ := y
    exact ⟨W.refl _, .int _⟩)
theorem getD_of {ds : List PyData} {i : Nat} (h : i < ds.length) : ds[i]? = some (ds.getD i .none) := by
  rw [List.getElem?_eq_getElem h, List.getD_eq_getElem?_getD, List.getElem?_eq_getElem h]
  rfl
/-- zip of two tuples of one length -/
theorem ei_zip2 {a b : Expr} {p tpos : Pos} {elts : List Expr} {kk : Nat} {ds es : List PyData} (hm : X.mg "zip" = none) (h : EvD X W Γ a (.tuple ds)) (k : EvD X W Γ b (.tuple es)) (hl : es.length = ds.length) (hg : Gl X "zip" := by rfl)
    (hs : starEach [a, b] X.env = (false, eval a X.env) :: starEach [b] X.env := by rfl) (hs2 : starEach [b] X.env = (false, eval b X.env) :: starEach [] X.env := by rfl) (hpl : (backTo pos (starEach [b] X.env)).any (·.1) = false := by rfl) :
    EvI X W Γ (.Tuple elts kk tpos) (.Call (.Name "zip" p) [a, b] [] pos) ds.length fun i => .tuple [ds.getD i .none, es.getD i .none] := fun ok σ H E Rr hR =>
  runI (RZ.pi_zipA hg hm paR hs hpl) ((ea_cons h (ea_cons k ea_nil hs2) hs) ok σ H E _ fun vs ds' H1 r1 l q => by
    subst q
    obtain ⟨v, w, rfl, d, d2⟩ := L2' l
    obtain ⟨p1, xs, rfl, hq, n1, l1⟩ := d.tup_inv
    obtain ⟨p2, ys, rfl, hq2, n2, l2⟩ := d2.tup_inv
    refine ⟨p1, p2, xs, ys, rfl, .inr ⟨hq, hq2, hR _ _ r1 ?_⟩⟩
    have still : ∀ H', W.R H1 H' → (SqT X.K H' p1 xs ∧ W.L H' xs ds) ∧ (SqT X.K H' p2 ys ∧ W.L H' ys es) := fun H' r => ⟨⟨sqT_keep (W.keep r) n1 hq, l1.keep (W.keep r)⟩, ⟨sqT_keep (W.keep r) n2 hq2, l2.keep (W.keep r)⟩⟩
    have e1 := l1.len
    have e2 := l2.len
    refine ⟨fun H' r i hi => ?_, fun H' r => ⟨xs, ys, (still H' r).1.1, (still H' r).2.1, .inl (by omega)⟩, fun H' r i x H2 hi y => ?_⟩
    · exact ⟨xs, ys, xs[i], ys[i], (still H' r).1.1, (still H' r).2.1, List.getElem?_eq_getElem (by omega), List.getElem?_eq_getElem (by omega)⟩
    · obtain ⟨T, x1, y1, rfl, hT, rfl, f1, f2⟩ := y
      obtain ⟨v, a, b⟩ := (still _ r).1.2.get (getD_of hi)
      obtain ⟨v2, a2, b2⟩ := (still _ r).2.2.get (getD_of (show i < es.length by omega))
      have q1 : x1 = v := Option.some.inj ((f1 xs (still _ r).1.1).symm.trans a)
      have q2 : y1 = v2 := Option.some.inj ((f2 ys (still _ r).2.1).symm.trans a2)
      subst q1 q2
      exact new_tup (W.keepZ (E.mono r1).z r) (.cons b (.cons b2 .nil)) hT)
/-- zip of three tuples of one length -/
theorem ei_zip3 {a b c : Expr} {p tpos : Pos} {elts : List Expr} {kk : Nat} {ds es fs : List PyData} (hm : X.mg "zip" = none) (h : EvD X W Γ a (.tuple ds)) (k : EvD X W Γ b (.tuple es)) (k3 : EvD X W Γ c (.tuple fs)) (hl : es.length = ds.length) (hl3 : fs.length = ds.length) (hg : Gl X "zip" := by rfl)
    (hs : starEach [a, b, c] X.env = (false, eval a X.env) :: starEach [b, c] X.env := by rfl) (hs2 : starEach [b, c] X.env = (false, eval b X.env) :: starEach [c] X.env := by rfl) (hs3 : starEach [c] X.env = (false, eval c X.env) :: starEach [] X.env := by rfl) (hpl : (backTo pos (starEach [b, c] X.env)).any (·.1) = false := by rfl) :
    EvI X W Γ (.Tuple elts kk tpos) (.Call (.Name "zip" p) [a, b, c] [] pos) ds.length fun i => .tuple [ds.getD i .none, es.getD i .none, fs.getD i .none] := fun ok σ H E Rr hR =>
  runI (pi_zip3 hg hm paR hs hpl) ((ea_cons h (ea_cons k (ea_cons k3 ea_nil hs3) hs2) hs) ok σ H E _ fun vs ds' H1 r1 l q => by
    subst q
    cases l with
    | cons d l =>
    cases l with
    | cons d2 l =>
    cases l with
    | cons d3 l =>
    cases l
    obtain ⟨p1, xs, rfl, hq, n1, l1⟩ := d.tup_inv
    obtain ⟨p2, ys, rfl, hq2, n2, l2⟩ := d2.tup_inv
    obtain ⟨p3, zs, rfl, hq3, n3, l3⟩ := d3.tup_inv
    refine ⟨p1, p2, p3, xs, ys, zs, rfl, ⟨hq, hq2, hq3⟩, hR _ _ r1 ?_⟩
    have s1 : ∀ H', W.R H1 H' → SqT X.K H' p1 xs ∧ W.L H' xs ds := fun H' r => ⟨sqT_keep (W.keep r) n1 hq, l1.keep (W.keep r)⟩
    have s2 : ∀ H', W.R H1 H' → SqT X.K H' p2 ys ∧ W.L H' ys es := fun H' r => ⟨sqT_keep (W.keep r) n2 hq2, l2.keep (W.keep r)⟩
    have s3 : ∀ H', W.R H1 H' → SqT X.K H' p3 zs ∧ W.L H' zs fs := fun H' r => ⟨sqT_keep (W.keep r) n3 hq3, l3.keep (W.keep r)⟩
    have e1 := l1.len
    have e2 := l2.len
    have e3 := l3.len
    refine ⟨fun H' r i hi => ?_, fun H' r => ⟨xs, ys, zs, ⟨(s1 H' r).1, (s2 H' r).1, (s3 H' r).1⟩, by omega, by omega, by omega⟩, fun H' r i x H2 hi y => ?_⟩
    · exact ⟨xs, ys, zs, xs[i], ys[i], zs[i], ⟨(s1 H' r).1, (s2 H' r).1, (s3 H' r).1⟩, List.getElem?_eq_getElem (by omega), List.getElem?_eq_getElem (by omega), List.getElem?_eq_getElem (by omega)⟩
    · obtain ⟨T, x1, y1, z1, rfl, hT, rfl, f1, f2, f3⟩ := y
      obtain ⟨v, a, b⟩ := (s1 _ r).2.get (getD_of hi)
      obtain ⟨v2, a2, b2⟩ := (s2 _ r).2.get (getD_of (show i < es.length by omega))
      obtain ⟨v3, a3, b3⟩ := (s3 _ r).2.get (getD_of (show i < fs.length by omega))
      have q1 : x1 = v := Option.some.inj ((f1 xs (s1 _ r).1).symm.trans a)
      have q2 : y1 = v2 := Option.some.inj ((f2 ys (s2 _ r).1).symm.trans a2)
      have q3 : z1 = v3 := Option.some.inj ((f3 zs (s3 _ r).1).symm.trans a3)
      subst q1 q2 q3
      exact new_tup (W.keepZ (E.mono r1).z r) (.cons b (.cons b2 (.cons b3 .nil))) hT)

/-! ### list comprehensions -/
theorem wipe_get : ∀ (vs : List Nat) (σ : L2.St) (i : Nat), (wipe σ vs)[i]? = if i ∈ vs then (if i < σ.length then some none else none) else σ[i]?
  | [], σ, i => by simp [wipe]
  | v :: vs, σ, i => by
    show ((wipe σ vs).set v none)[i]? = _
    by_cases h : v = i
    · subst h
      rw [if_pos List.mem_cons_self]
      by_cases hl : v < σ.length
      · rw [if_pos hl, List.getElem?_set_self (by rw [wipe_length]; exact hl)]
      · rw [if_neg hl, List.getElem?_eq_none (by rw [List.length_set, wipe_length]; omega)]
    · rw [List.getElem?_set_ne h, wipe_get vs σ i]
      have e : (i ∈ v :: vs) ↔ i ∈ vs := by simp [Ne.symm h]
      simp only [e]
theorem wipe_back {σ σ2 : L2.St} {vs js : List Nat} (h : ∀ i, i ∉ js → σ2[i]? = (wipe σ vs)[i]?) (hl : σ2.length = (wipe σ vs).length) (hj : ∀ j ∈ js, j ∈ vs) : wipe σ2 vs = wipe σ vs := by
  apply List.ext_getElem?
  intro i
  rw [wipe_get, wipe_get]
  rw [wipe_length] at hl
  by_cases hi : i ∈ vs
  · rw [if_pos hi, if_pos hi, hl]
  · rw [if_neg hi, if_neg hi, h i fun z => hi (hj i z), wipe_get, if_neg hi]
section
variable {elt tg iter : Expr} {ifs : List Expr} {scope : Scope} {own : List (Str × Nat)} {n : Nat} {f : Nat → PyData} {Γi : Nat → Gm} {js : List Nat} {Pl : Nat → PyData → Prop} {Acc : Nat → List PyData → Prop} {b : Nat → Bool} {tt : TT}
variable (X) in
def gU (scope : Scope) (tg : Expr) : TG := fun v σ H Q => ∀ (s : Shared) (H0 : Hp) (C : Addr) (cl : List (Str × Addr)) (fp : List Addr), RunG (X.blk s H0 scope (compEnvC scope cl C X.env) fp) tg v σ H Q
variable (X) in
def eU (scope : Scope) (e : Expr) : TE := fun σ H Q => ∀ (s : Shared) (H0 : Hp) (C : Addr) (cl : List (Str × Addr)) (fp : List Addr), RunE (X.blk s H0 scope (compEnvC scope cl C X.env) fp) e σ H Q
variable (X) in
def tU (scope : Scope) (e : Expr) : TT := fun σ H Q => ∀ (s : Shared) (H0 : Hp) (C : Addr) (cl : List (Str × Addr)) (fp : List Addr), RunT (X.blk s H0 scope (compEnvC scope cl C X.env) fp) e σ H Q
theorem XOk.blk (ok : XOk X) (s : Shared) (H0 : Hp) (scope : Scope) (C : Addr) (cl : List (Str × Addr)) (fp : List Addr) : XOk (X.blk s H0 scope (compEnvC scope cl C X.env) fp) :=
  ⟨ok.calm, ok.nd, ok.room, PassesOwn.never⟩
theorem lc_run (hi : EvI X W Γ tg iter n f) (hg : ∀ s H C cl fp i, i < n → AsG (X.blk s H scope (compEnvC scope cl C X.env) fp) W (wipeG Γ (own.map (·.2))) tg (f i) (Γi i) js) (hjs : ∀ j ∈ js, j ∈ own.map (·.2))
    (ht : XOk X → ∀ i, i < n → ∀ σ H, En W H σ (Γi i) → ∀ Q : Bool → Hp → Prop, (∀ H', W.R H H' → Q (b i) H') → tt σ H Q) (he : ∀ s H C cl fp i, i < n → b i = true → EvE (X.blk s H scope (compEnvC scope cl C X.env) fp) W (Γi i) elt (Pl i))
    (hfl : ∀ i x, i < n → Pl i x → Fl x) (a0 : Acc 0 []) (a1 : ∀ i ds x, i < n → b i = true → Acc i ds → Pl i x → Acc (i + 1) (ds ++ [x])) (a2 : ∀ i ds, i < n → b i = false → Acc i ds → Acc (i + 1) ds) (hn : n ≤ 100000)
    (ok : XOk X) {σ : L2.St} {H : Hp} (E : En W H σ Γ) {Q : VK} (hQ : ∀ v d H', W.R H H' → W.D H' v d → (∃ ds, d = .list ds ∧ Acc n ds) → Q v H') : tLc (RunI X tg iter) (gU X scope tg) tt (eU X scope elt) (own.map (·.2)) σ H Q :=
  hi ok σ H E _ fun J H1 r1 wk D nD => by
    have z1 := (E.mono r1).z
    have nM : ¬ W.M D := W.notM z1 nD
    refine ⟨fun i m H2 => m = n - i ∧ i ≤ n ∧ W.R H1 H2 ∧ ∃ acc ds, H2 D = some (.lst acc) ∧ W.L H2 acc ds ∧ FlL ds ∧ Acc i ds ∧ ds.length ≤ i, ⟨n, rfl, Nat.zero_le _, W.new z1 nD, [], [], upd_same, .nil, .nil, a0, Nat.le_refl _⟩, ?_⟩
    rintro i m H2 ⟨rfl, hle, r2, acc, ds, hD, l, fl, ha, hdl⟩
    by_cases hlt : i < n
    · refine .inr ⟨wk.go H2 r2 i hlt, fun H5 => W.R H1 H5 ∧ ∃ acc ds, H5 D = some (.lst acc) ∧ W.L H5 acc ds ∧ FlL ds ∧ Acc (i + 1) ds ∧ ds.length ≤ i + 1, fun H5 q => ⟨n - (i + 1), by omega, rfl, hlt, q.1, q.2⟩, fun x H3 y => ?_⟩
      obtain ⟨r3, hx⟩ := wk.yld H2 r2 i x H3 hlt y
      intro s H0 C cl fp
      refine hg s H0 C cl fp i hlt (ok.blk s H0 scope C cl fp) _ H3 x (((E.mono r1).mono (W.trans r2 r3)).wipe _) hx _ fun σ4 H4 r4 E4 hout hlen => ⟨wipe_back hout hlen hjs, ?_⟩
      refine ht ok i hlt σ4 H4 E4 _ fun H5 r5 => ?_
      have r15 : W.R H1 H5 := W.trans r2 (W.trans r3 (W.trans r4 r5))
      have r25 : W.R H2 H5 := W.trans r3 (W.trans r4 r5)
      cases hb : b i with
      | false =>
        exact ⟨r15, acc, ds, W.keep r25 D _ hD nM, l.keep (W.keep r25), fl, a2 i ds hlt hb ha, Nat.le_succ_of_le hdl⟩
      | true =>
        show eU X scope elt σ4 H5 _
        intro s H0 C cl fp
        refine he s H0 C cl fp i hlt hb (ok.blk s H0 scope C cl fp) σ4 H5 (E4.mono r5) _ fun v d H6 r6 hv hp => ?_
        have r26 : W.R H2 H6 := W.trans r25 r6
        have hD6 := W.keep r26 D _ hD nM
        have l6 : W.L H6 acc ds := l.keep (W.keep r26)
        have fx := hfl i d hlt hp
        refine ⟨acc, hD6, szl' (by rw [l.len]; omega), W.wr z1 (W.trans r15 r6) nD, _, ds ++ [d], upd_same, (DtL.upd hD6 ds _ fl l6).append (.cons (Dt.upd hD6 d _ fx hv) .nil), ?_, a1 i ds d hlt hb ha hp, by rw [List.length_append, List.length_singleton]; omega⟩
        have app : ∀ {a c : List PyData}, FlL a → FlL c → FlL (a ++ c) := by
          intro a c h1 h2
          induction a with
          | nil => exact h2
          | cons y a ih => cases h1 with | cons p q => exact .cons p (ih q)
        exact app fl (.cons fx .nil)
    · have : i = n := by omega
      subst this
      exact .inl ⟨wk.stop H2 r2, hQ (.ref D) (.list ds) H2 (W.trans r1 r2) (.lst hD nM l) ⟨ds, rfl, ha⟩⟩
/-- a comprehension without tests: one thing a turn -/
def Each (Pl : Nat → PyData → Prop) (i : Nat) (ds : List PyData) : Prop := ds.length = i ∧ ∀ j x, ds[j]? = some x → Pl j x
theorem Each.zero : Each Pl 0 [] := ⟨rfl, fun j x h => by simp at h⟩
theorem Each.step {i : Nat} {ds : List PyData} {x : PyData} (h : Each Pl i ds) (p : Pl i x) : Each Pl (i + 1) (ds ++ [x]) := by
  refine ⟨by rw [List.length_append, h.1]; rfl, fun j y e => ?_⟩
  by_cases hj : j < ds.length
  · rw [List.getElem?_append_left hj] at e
    exact h.2 j y e
  · rw [List.getElem?_append_right (by omega)] at e
    have : j - ds.length = 0 := by
      have := (List.getElem?_eq_some_iff.mp e).1
      simp at this
      omega
    rw [this] at e
    have e' : x = y := by simpa using e
    have : j = i := by have := h.1; omega
    rw [this, ← e']
    exact p
variable {lpos : Pos}
theorem ex_lc (own : List (Str × Nat)) (hi : EvI X W Γ tg iter n f) (blk : BlkOk X.N X.env.scope scope own) (hg : ∀ s H C cl fp i, i < n → AsG (X.blk s H scope (compEnvC scope cl C X.env) fp) W (wipeG Γ (own.map (·.2))) tg (f i) (Γi i) js) (hjs : ∀ j ∈ js, j ∈ own.map (·.2))
    (he : ∀ s H C cl fp i, i < n → EvE (X.blk s H scope (compEnvC scope cl C X.env) fp) W (Γi i) elt (Pl i)) (hfl : ∀ i x, i < n → Pl i x → Fl x) (hn : n ≤ 100000)
    (hfs : ∀ x, foldedSetIterable iter X.env x = pure x := by intro _; rfl) : EvE X W Γ (.ListComp elt [⟨tg, iter, [], 0⟩] scope lpos) fun d => ∃ ds, d = .list ds ∧ Each Pl n ds := fun ok σ H E Q hQ =>
  runE (pe_lc (g := gU X scope tg) (tt := tYes) (te := eU X scope elt) ok.calm ok.nd piR blk (fun s H C cl fp => ⟨fun pins s' σ H v u Q I r h => h s _ C cl fp pins s' u I r⟩) (fun s H C cl fp => pts_nil) (fun s H C cl fp => ⟨fun pins s' σ H Q I h => h s _ C cl fp pins s' I⟩) hfs)
    (lc_run (b := fun _ => true) hi hg hjs (fun _ i _ σ H _ Q hQ => hQ H (W.refl H)) (fun s H C cl fp i hi _ => he s H C cl fp i hi) hfl Each.zero (fun i ds x _ _ a p => a.step p) (fun _ _ _ z => nomatch z) hn ok E hQ)
theorem x_setLc (i : Nat) (own : List (Str × Nat)) {y : Str} {py : Pos} {spos : Pos} (hi : EvI X W Γ tg iter n f) (blk : BlkOk X.N X.env.scope scope own) (hg : ∀ s H C cl fp i, i < n → AsG (X.blk s H scope (compEnvC scope cl C X.env) fp) W (wipeG Γ (own.map (·.2))) tg (f i) (Γi i) js) (hjs : ∀ j ∈ js, j ∈ own.map (·.2))
    (he : ∀ s H C cl fp i, i < n → EvE (X.blk s H scope (compEnvC scope cl C X.env) fp) W (Γi i) elt (Pl i)) (hfl : ∀ i x, i < n → Pl i x → Fl x) (hn : n ≤ 100000) (k : ∀ ds, Each Pl n ds → ExB X W (Γ.set i (some (.list ds))) rest P)
    (hsw : swapsWith (.ListComp elt [⟨tg, iter, [], 0⟩] scope lpos) (some (.Name y py)) spos.line X.env = pure true) (hy : X.N[i]? = some y := by rfl) (hyl : X.env.scope.names.lookup y = some .local := by rfl)
    (hfs : ∀ x, foldedSetIterable iter X.env x = pure x := by intro _; rfl) : ExB X W Γ (.Assign [.Name y py] (.ListComp elt [⟨tg, iter, [], 0⟩] scope lpos) spos :: rest) P :=
  x_cons (fun ok => ps_setLc (i := i) (g := gU X scope tg) (tt := tYes) (te := eU X scope elt) ok.calm ok.nd hy hyl hsw piR blk (fun s H C cl fp => ⟨fun pins s' σ H v u Q I r h => h s _ C cl fp pins s' u I r⟩) (fun s H C cl fp => pts_nil) (fun s H C cl fp => ⟨fun pins s' σ H Q I h => h s _ C cl fp pins s' I⟩) hfs)
    fun ok σ H E D s => lc_run (b := fun _ => true) (own := own) hi hg hjs (fun _ i _ σ H _ Q hQ => hQ H (W.refl H)) (fun s H C cl fp i hi _ => he s H C cl fp i hi) hfl Each.zero (fun i ds x _ _ a p => a.step p) (fun _ _ _ z => nomatch z) hn ok E
      fun v d H1 r1 a ⟨ds, q, hd⟩ => k ds hd ok _ H1 ((E.mono r1).set (q ▸ a)) D (s.mono r1)
/-- each thing told: a map -/
theorem each_map {g : Nat → PyData} {n : Nat} {ds : List PyData} (h : Each (fun i x => x = g i) n ds) : ds = (List.range n).map g := by
  apply List.ext_getElem?
  intro i
  by_cases hi : i < n
  · have hl : i < ds.length := by rw [h.1]; exact hi
    rw [List.getElem?_eq_getElem hl, h.2 i _ (List.getElem?_eq_getElem hl), List.getElem?_map, List.getElem?_range hi]
    rfl
  · rw [List.getElem?_eq_none (by rw [h.1]; omega), List.getElem?_eq_none (by rw [List.length_map, List.length_range]; omega)]
theorem ev_lc (own : List (Str × Nat)) (g : Nat → PyData) (hi : EvI X W Γ tg iter n f) (blk : BlkOk X.N X.env.scope scope own) (hg : ∀ s H C cl fp i, i < n → AsG (X.blk s H scope (compEnvC scope cl C X.env) fp) W (wipeG Γ (own.map (·.2))) tg (f i) (Γi i) js) (hjs : ∀ j ∈ js, j ∈ own.map (·.2))
    (he : ∀ s H C cl fp i, i < n → EvD (X.blk s H scope (compEnvC scope cl C X.env) fp) W (Γi i) elt (g i)) (hfl : ∀ i, i < n → Fl (g i)) (hn : n ≤ 100000)
    (hfs : ∀ x, foldedSetIterable iter X.env x = pure x := by intro _; rfl) : EvD X W Γ (.ListComp elt [⟨tg, iter, [], 0⟩] scope lpos) (.list ((List.range n).map g)) :=
  (ex_lc own (Pl := fun i x => x = g i) hi blk hg hjs he (fun i x hi q => q ▸ hfl i hi) hn hfs).imp fun d ⟨ds, q, h⟩ => by rw [q, each_map h]
end
end
end Ng

set_option Elab.async false
set_option linter.all false
set_option maxRecDepth 100000
set_option maxHeartbeats 1000000
/-! Contracts of defs by data, their calls; a def that is told nothing is being shown (repr). -/
namespace Ng
open PySem PySem.Spec PyProof.Rows L2
/-! ### a def's promise by a relation on data -/
def Pu (K : PySem.W.Frag) (F : List PyData → PyData → Prop) : Sp := fun vs H Q _ => ∃ (M : Addr → Prop) (hp : Addr) (ds : List PyData) (d : PyData), Al M H ∧ DtL K M hp H vs ds ∧ F ds d ∧ ∀ v H', Same H H' → Dt K M hp H' v d → Q v H'
def startG (N : List Str) (ds : List PyData) : Gm := ds.map some ++ List.replicate (N.length - ds.length) none
theorem en_start {K : PySem.W.Frag} {W : Wd K} {H : Hp} {vs : List V} {ds : List PyData} {N : List Str} (z : W.Z H) (l : W.L H vs ds) : En W H (start N vs) (startG N ds) := by
  have hl := l.len
  refine ⟨z, ?_, fun i d h => ?_⟩
  · unfold L2.start startG
    rw [List.length_append, List.length_append, List.length_map, List.length_map, List.length_replicate, List.length_replicate, hl]
  · unfold startG at h
    by_cases hi : i < ds.length
    · rw [List.getElem?_append_left (by simpa using hi), List.getElem?_map] at h
      obtain ⟨d', q, e⟩ := Option.map_eq_some_iff.mp h
      cases e
      obtain ⟨v, a, b⟩ := l.get q
      refine ⟨v, ?_, b⟩
      unfold L2.start
      rw [List.getElem?_append_left (by simp; omega), List.getElem?_map, a]
      rfl
    · rw [List.getElem?_append_right (by simpa using hi), List.getElem?_replicate] at h
      split at h <;> cases h
section
variable {P : Program} {w : World} {K : PySem.W.Frag} {mg : Str → Option Value} {base : Heap}
/-- the def's context -/
abbrev cx (P : Program) (w : World) (K : PySem.W.Frag) (mg : Str → Option Value) (base : Heap) (N : List Str) (qual : Str) (st : Stmt) (f : Addr) (cdv : Value) (A : Around) (outer : List Env) (s : Shared) (H : Hp) (E : XK) : Cx :=
  (cxOf CX0 P w K mg base N qual (defScope st) f cdv A outer s H E).nox
theorem xok {N : List Str} {qual : Str} {st : Stmt} {f : Addr} {cdv : Value} {A : Around} {outer : List Env} {s : Shared} {H : Hp} {E : XK} {k : Nat} (hn : N.Nodup) (hr : Room k (A.deeper (envOfC qual (defScope st) s.heap.objs.size f cdv))) :
    XOk (cx P w K mg base N qual st f cdv A outer s H E) := ⟨rfl, hn, hr.mono (Nat.zero_le _), PassesOwn.never⟩
theorem ok_pure {x qual : Str} {st : Stmt} {f : Addr} {fd : FuncData} {N ps : List Str} {k : Nat} {F : List PyData → PyData → Prop} (Fn : Fun K x qual st f fd) (S : FnScope N ps (defScope st)) (len : ∀ ds d, F ds d → ds.length = ps.length)
    (body : ∀ (cdv : Value) (A : Around) (outer : List Env) (s : Shared) (H : Hp) (E : XK) (M : Addr → Prop) (hp : Addr) (ds : List PyData) (d : PyData), Room k (A.deeper (envOfC qual (defScope st) s.heap.objs.size f cdv)) → F ds d →
      ExB (cx P w K mg base N qual st f cdv A outer s H E) (pw K M hp) (startG N ds) (defBody st) { nx := fun _ => d = .none, rt := fun x => x = d }) : FnOk P w K mg base CX0 (k + 1) f fd ps (Pu K F) := by
  refine Fn.ok S (fun vs H Q E h => ?_) fun cdv A outer s H vs Q E hr h => ?_
  · obtain ⟨M, hp, ds, d, _, l, hF, _⟩ := h
    rw [l.len]
    exact len ds d hF
  · obtain ⟨M, hp, ds, d, al, l, hF, q⟩ := h
    refine ⟨_, pbR, body cdv A outer s H E M hp ds d hr hF (xok S.nd hr) _ _ (en_start (W := pw K M hp) al l) _ ⟨fun σ' H' Γ' r e z => ?_, fun v x H' r a e => ?_, fun _ _ _ _ _ z => z.elim, fun _ _ _ _ _ z => z.elim⟩⟩
    · exact q .non H' r (z ▸ .non)
    · exact q v H' r (e ▸ a)
end
/-- a def of the text, found by its name -/
structure Fnd (K : PySem.W.Frag) (mg : Str → Option Value) (x : Str) (st : Stmt) (ps : List Str) where
  f : Addr
  fd : FuncData
  fn : Fun K x x st f fd
  b : Binds K fd ps []
  g : mg x = some (.ref f)
section
variable {X : Cx} {W : Wd X.K} {Γ : Gm}
theorem pu_of {F : List PyData → PyData → Prop} {ds : List PyData} {d : PyData} {vs : List V} {H : Hp} {Q : VK} (z : W.Z H) (l : W.L H vs ds) (hF : F ds d) (hQ : ∀ v H', W.R H H' → W.D H' v d → Q v H') : Pu X.K F (vs ++ []) H Q E0 := by
  rw [List.append_nil]
  exact ⟨W.M, W.hp, ds, d, W.al z, l, hF, fun v H' r a => hQ v H' (W.ext z r) a⟩
variable {k : Nat} {x : Str} {p pos : Pos} {e : Expr} {es : List Expr} {ps : List Str} {st : Stmt} {ds : List PyData} {d : PyData} {F : List PyData → PyData → Prop}
theorem ev_call (T : Fnd X.K X.mg x st ps) (G : FnOk X.prog X.w X.K X.mg X.base CX0 k T.f T.fd ps (Pu X.K F)) (hr : Room k X.A) (ha : EvA X W Γ (e :: es) fun r => r = ds) (hF : F ds d) (hg : Gl X x := by rfl) (hdb : (x == ("__debug__" : Str)) = false := by decide)
    (he : starEach (e :: es) X.env = (false, eval e X.env) :: starEach es X.env := by rfl) (hpl : (backTo pos (starEach es X.env)).any (·.1) = false := by rfl) : EvD X W Γ (.Call (.Name x p) (e :: es) [] pos) d := fun ok σ H E Q hQ =>
  runE (pe_call G hr hg T.g T.fn.kp T.b .nil pass0 paR hdb he hpl) (ha ok σ H E _ fun vs ds' H1 r1 l q => by
    subst q
    exact pu_of (E.mono r1).z l hF fun v H' r a => hQ v d H' (W.trans r1 r) a rfl)

/-! ### keywords alone -/
theorem pe_callK0 {CX : CXT} {f : Addr} {fd : FuncData} {ks : List Str} {sp : Sp} {E : XK} {kws : List Keyword} {tk : TA} {g : List Value → List Value → List Value} {gV : List V → List V → List V} (G : FnOk X.prog X.w X.K X.mg X.base CX k f fd ps sp) (hr : Room k X.A) (hg : Gl X x) (hm : X.mg x = some (.ref f))
    (hk : PySem.W.keepIn X.K (.ref f) = true) (hb : KBinds X.K fd ps ks g gV) (hx : Passes CX X E) (hkw : PK X kws tk) (hall : (backToKw pos (keywordEach kws X.env)).all (·.1.isSome) = true := by rfl) (hks : (backToKw pos (keywordEach kws X.env)).filterMap (·.1) = ks := by rfl)
    (hdb : (x == ("__debug__" : Str)) = false := by decide) (hpl : ((backTo pos (starEach [] X.env)).any (·.1) || (backToKw pos (keywordEach kws X.env)).any (·.1.isNone)) = false := by rfl) :
    PE X (.Call (.Name x p) [] kws pos) (fun σ H Q => tk σ H fun zs H2 => sp (gV [] zs) H2 Q E) := by
  constructor
  intro pins s σ H Q I h
  refine wpAny_Call_Name_kw (ld_glob I hg hm (PySem.W.callWith_KW0 (h₀ := X.base) I.ok.mod.kin hk hall ?_ hpl) hdb)
  refine thn (hkw.run pos pins s σ H _ I h) fun ws s2 q => ?_
  obtain ⟨zs, H2, I2, rz, q⟩ := q
  refine ⟨I2.kIn, ?_⟩
  rw [hks]
  exact run_fnk (us := []) G hr hb hx I2 .nil rz q
/-- a call whose keywords are all the parameters, in another order -/
theorem ev_callK {f : Addr} {fd : FuncData} {ks : List Str} {kws : List Keyword} {es : List Expr} {g : List Value → List Value → List Value} {gV : List V → List V → List V} (G : FnOk X.prog X.w X.K X.mg X.base CX0 k f fd ps (Pu X.K F)) (hr : Room k X.A) (hm : X.mg x = some (.ref f))
    (hk : PySem.W.keepIn X.K (.ref f) = true) (hb : KBinds X.K fd ps ks g gV) {tk : TA} (hkw : PK X kws tk) {cs : List PyData} (ht : XOk X → ∀ σ H, En W H σ Γ → ∀ Q : List V → Hp → Prop, (∀ vs H', W.R H H' → W.L H' vs cs → Q vs H') → tk σ H Q)
    (hgv : ∀ (H : Hp) (vs : List V), W.L H vs cs → W.L H (gV [] vs) ds) (hF : F ds d) (hg : Gl X x := by rfl) (hall : (backToKw pos (keywordEach kws X.env)).all (·.1.isSome) = true := by rfl) (hks : (backToKw pos (keywordEach kws X.env)).filterMap (·.1) = ks := by rfl)
    (hdb : (x == ("__debug__" : Str)) = false := by decide) (hpl : ((backTo pos (starEach [] X.env)).any (·.1) || (backToKw pos (keywordEach kws X.env)).any (·.1.isNone)) = false := by rfl) : EvD X W Γ (.Call (.Name x p) [] kws pos) d := fun ok σ H E Q hQ =>
  runE (pe_callK0 G hr hg hm hk hb pass0 hkw hall hks hdb hpl) (ht ok σ H E _ fun vs H1 r1 l => by
    have q := pu_of (W := W) (E.mono r1).z (hgv H1 vs l) hF fun v H' r a => hQ v d H' (W.trans r1 r) a rfl
    rw [List.append_nil] at q
    exact q)
end

/-! ### a def that is called while nothing is being shown -/
structure FnG (P : Program) (w : World) (K : PySem.W.Frag) (mg : Str → Option Value) (base : Heap) (k : Nat) (f : Addr) (fd : FuncData) (ps : List Str) (sp : Sp) : Prop where
  len : ∀ vs H Q, sp vs H Q E0 → vs.length = ps.length
  run : ∀ (A : Around) (outer : List Env) (s : Shared) (H : Hp) (args : Args) (us : List Value) (vs : List V) (Q : VK), Room k A → A.guards = some [] → Env0 P w K mg base A outer s H → BindsTo s fd args (ps.zip us) → Vals vs us → sp vs H Q E0 →
    codeAny (model P w) A (.call (.ref f) args) (CR CX0 outer P w H s Q E0) s
section
variable {P : Program} {w : World} {K : PySem.W.Frag} {mg : Str → Option Value} {base : Heap}
theorem fnG_of {x qual : Str} {st : Stmt} {f : Addr} {fd : FuncData} {N ps : List Str} {k : Nat} {sp : Sp} (Fn : Fun K x qual st f fd) (S : FnScope N ps (defScope st)) (len : ∀ vs H Q, sp vs H Q E0 → vs.length = ps.length)
    (body : ∀ (cdv : Value) (A : Around) (outer : List Env) (s : Shared) (H : Hp) (vs : List V) (Q : VK), Room k (A.deeper (envOfC qual (defScope st) s.heap.objs.size f cdv)) → (A.deeper (envOfC qual (defScope st) s.heap.objs.size f cdv)).guards = some [] → sp vs H Q E0 →
      RunB (cx P w K mg base N qual st f cdv A outer s H E0) (defBody st) { nx := fun _ H' => Q .non H', rt := Q } (start N vs) H) : FnG P w K mg base (k + 1) f fd ps sp := by
  obtain ⟨oc, od, kV, doc, pm, an, cdv, ct, osl, rfl, lk, hcd⟩ := Fn.ex
  refine ⟨len, fun A outer s H args us vs Q hr hgd e0 hb rv hsp => ?_⟩
  have inK : K.In s.heap := e0.mod.kin.keeps fun b o e => (e0.bs b o e).1
  have noLim : s.heap.NoLimit := e0.mod.nolimit.keeps fun b o e => (e0.bs b o e).1
  have kinds : ∀ y ∈ ps.zip us, (defScope st).names.lookup y.1 = some .local ∨ ((defScope st).names.lookup y.1 = some .cell ∧ ((cellsFrom (s.heap.objs.size + 1) (defScope st).names []).lookup y.1).isSome = true) := by
    rintro ⟨n, v⟩ hy
    exact (S.par n (List.of_mem_zip hy).1).imp _root_.id fun c => ⟨c, PySem.W.cellsFrom_some _ _ _ (.inl c)⟩
  refine codeAny_call_function hr.depth (inK _ _ lk) rfl S.co S.gen rfl (PySem.W.codeRec_of inK hcd) (hb _ _ _ _ ?_)
  refine wpAny_newFunctionEnv_cells S.kind kinds fun env he s1 ic => ?_
  subst he
  have I : Inv (cxOf CX0 P w K mg base N qual (defScope st) f cdv A outer s H E0) [] (start N vs) H s1 := inv_start S hr.hd e0 (len vs H Q hsp) rv ic
  refine ⟨noLim.keeps ic.toInCall.keep, codeAny_func (wpAny_mono (body cdv A outer s H vs Q (hr.deeper _) hgd hsp [] s1 (I.wish _)) (fun fl s' q => ?_) fun _ _ z => z.elim)⟩
  have done : ∀ {σ' : L2.St} {H' : Hp} {v : V} {u : Value}, Inv (cx P w K mg base N qual st f cdv A outer s H E0) [] σ' H' s' → RelV v u → Q v H' → CE outer P w H s Q u s' := fun {σ' H' v u} J ru q => ⟨v, H', J.os, J.bare, J.base, J.hok, ru, q⟩
  cases fl with
  | next =>
    obtain ⟨σ', H', J, q⟩ := q
    exact done (v := .non) (u := .none) J rfl q
  | ret u =>
    obtain ⟨v, σ', H', J, ru, q⟩ := q
    exact done J ru q
  | brk => exact (q.choose_spec.choose_spec.2 : False).elim
  | cont => exact (q.choose_spec.choose_spec.2 : False).elim
theorem ok_pureG {x qual : Str} {st : Stmt} {f : Addr} {fd : FuncData} {N ps : List Str} {k : Nat} {F : List PyData → PyData → Prop} (Fn : Fun K x qual st f fd) (S : FnScope N ps (defScope st)) (len : ∀ ds d, F ds d → ds.length = ps.length)
    (body : ∀ (cdv : Value) (A : Around) (outer : List Env) (s : Shared) (H : Hp) (M : Addr → Prop) (hp : Addr) (ds : List PyData) (d : PyData), Room k (A.deeper (envOfC qual (defScope st) s.heap.objs.size f cdv)) → (A.deeper (envOfC qual (defScope st) s.heap.objs.size f cdv)).guards = some [] → F ds d →
      ExB (cx P w K mg base N qual st f cdv A outer s H E0) (pw K M hp) (startG N ds) (defBody st) { nx := fun _ => d = .none, rt := fun x => x = d }) : FnG P w K mg base (k + 1) f fd ps (Pu K F) := by
  refine fnG_of Fn S (fun vs H Q h => ?_) fun cdv A outer s H vs Q hr hgd h => ?_
  · obtain ⟨M, hp, ds, d, _, l, hF, _⟩ := h
    rw [l.len]
    exact len ds d hF
  · obtain ⟨M, hp, ds, d, al, l, hF, q⟩ := h
    refine body cdv A outer s H M hp ds d hr hgd hF (xok S.nd hr) _ _ (en_start (W := pw K M hp) al l) _ ⟨fun σ' H' Γ' r e z => ?_, fun v x H' r a e => ?_, fun _ _ _ _ _ z => z.elim, fun _ _ _ _ _ z => z.elim⟩
    · exact q .non H' r (z ▸ .non)
    · exact q v H' r (e ▸ a)
end
section
variable {X : Cx} {W : Wd X.K} {Γ : Gm} {k : Nat} {x : Str} {p pos : Pos} {e : Expr} {es : List Expr} {ps : List Str} {st : Stmt} {ds : List PyData} {d : PyData} {F : List PyData → PyData → Prop} {t : TA}
theorem run_fnG {f : Addr} {fd : FuncData} {sp : Sp} {pins : List (Addr × Obj)} {σ : L2.St} {H : Hp} {s : Shared} {Q : VK} {us : List Value} {vs : List V} (G : FnG X.prog X.w X.K X.mg X.base k f fd ps sp) (hr : Room k X.A) (hgd : X.A.guards = some []) (hb : Binds X.K fd ps [])
    (I : Inv X pins σ H s) (rv : Vals vs us) (h : sp vs H Q E0) : wpAny (model X.prog X.w) X.A (call (.ref f) us) (EP X pins σ Q) X.xe s := by
  have hl : us.length = ps.length := by rw [← rv.length]; exact G.len _ _ _ h
  have bt := hb s us I.kIn (by rw [List.append_nil]; exact hl)
  rw [List.append_nil] at bt
  refine wpAny_call (codeAny_mono (G.run X.A X.stack s H ⟨us, []⟩ us vs Q hr hgd I.env0 bt rv h) fun r s' q => ?_)
  cases r with
  | error e => exact (show False from q).elim
  | ok fl =>
    cases fl with
    | ret u => exact I.after q
    | next => exact (show False from q).elim
    | brk => exact (show False from q).elim
    | cont => exact (show False from q).elim
theorem pe_callG {f : Addr} {fd : FuncData} {sp : Sp} (G : FnG X.prog X.w X.K X.mg X.base k f fd ps sp) (hr : Room k X.A) (hgd : X.A.guards = some []) (hg : Gl X x) (hm : X.mg x = some (.ref f)) (hk : PySem.W.keepIn X.K (.ref f) = true) (hb : Binds X.K fd ps []) (ha : PA X (e :: es) t)
    (hdb : (x == ("__debug__" : Str)) = false := by decide) (he : starEach (e :: es) X.env = (false, eval e X.env) :: starEach es X.env := by rfl) (hpl : (backTo pos (starEach es X.env)).any (·.1) = false := by rfl) :
    PE X (.Call (.Name x p) (e :: es) [] pos) (fun σ H Q => t σ H fun vs H1 => sp vs H1 Q E0) := by
  constructor
  intro pins s σ H Q I h
  refine wpAny_Call_Name_kw (ld_glob I hg hm (PySem.W.callWith_K (h₀ := X.base) I.ok.mod.kin hk (thn (ha.run pos pins s σ H _ I h) fun us s1 q => ?_) he hpl) hdb)
  obtain ⟨vs, H1, I1, rv, q⟩ := q
  exact ⟨I1.kIn, run_fnG G hr hgd hb I1 rv q⟩
theorem ev_callG (T : Fnd X.K X.mg x st ps) (G : FnG X.prog X.w X.K X.mg X.base k T.f T.fd ps (Pu X.K F)) (hr : Room k X.A) (hgd : X.A.guards = some []) (ha : EvA X W Γ (e :: es) fun r => r = ds) (hF : F ds d) (hg : Gl X x := by rfl) (hdb : (x == ("__debug__" : Str)) = false := by decide)
    (he : starEach (e :: es) X.env = (false, eval e X.env) :: starEach es X.env := by rfl) (hpl : (backTo pos (starEach es X.env)).any (·.1) = false := by rfl) : EvD X W Γ (.Call (.Name x p) (e :: es) [] pos) d := fun ok σ H E Q hQ =>
  runE (pe_callG G hr hgd hg T.g T.fn.kp T.b paR hdb he hpl) (ha ok σ H E _ fun vs ds' H1 r1 l q => by
    subst q
    have q := pu_of (W := W) (E.mono r1).z l hF fun v H' r a => hQ v d H' (W.trans r1 r) a rfl
    rw [List.append_nil] at q
    exact q)
end
end Ng

set_option Elab.async false
set_option linter.all false
set_option maxRecDepth 100000
set_option maxHeartbeats 1000000
/-! More of what is built in: repr, ==, max(.., default=0), min and max of a pair, isqrt. -/
namespace Ng
open PySem PySem.Spec PyProof.Rows L2
section
variable {K : PySem.W.Frag} {M : Addr → Prop} {hp : Addr} {H : Hp}
mutual
theorem Dt.dp : ∀ (d : PyData) (v : V), d.hasDict = false → Dt K M hp H v d → Dp K H v d
  | .none, _, _, h => by cases h; exact .non
  | .bool b, _, _, h => by cases h; exact .bl b
  | .int i, _, _, h => by cases h; exact .int i
  | .str x, _, _, h => by cases h; exact .str x
  | .list ds, _, n, h => by
    cases h with
    | lst a _ l => exact .lst (.of a) (DtL.dp ds _ (by simpa only [PyData.hasDict] using n) l)
  | .tuple ds, _, n, h => by
    cases h with
    | tup a _ l => exact .tup a (DtL.dp ds _ (by simpa only [PyData.hasDict] using n) l)
  | .dict _, _, n, _ => by simp [PyData.hasDict] at n
theorem DtL.dp : ∀ (ds : List PyData) (vs : List V), PyData.hasDictAll ds = false → DtL K M hp H vs ds → DpAll K H vs ds
  | [], _, _, h => by cases h; exact .nil
  | d :: ds, _, n, h => by
    simp only [PyData.hasDictAll, Bool.or_eq_false_iff] at n
    cases h with
    | cons a b => exact .cons (Dt.dp d _ n.1 a) (DtL.dp ds _ n.2 b)
end
end
/-! ### repr -/
def Shows (d : PyData) : Prop := d.hasDict = false ∧ d.showable = true ∧ d.depth ≤ 60 ∧ d.shown.length ≤ sizeLine
def rRepr (K : PySem.W.Frag) : List V → Hp → VK → Prop := fun xs H Q => ∃ v d, xs = [v] ∧ Dp K H v d ∧ Shows d ∧ Q (.str d.shown) H
section
variable {X : Cx}
theorem call_repr (hgd : X.A.guards = some []) (hu : X.A.units + 70 < cLine) : CallR X (.builtin "repr") (rRepr X.K) := by
  intro pins s σ H xs us Q I r h
  obtain ⟨v, d, rfl, hd, ⟨n, sh, dep, sz⟩, q⟩ := h
  obtain ⟨u, rfl, ru⟩ := vals1 r
  have fin : ∀ {t : Tok} {h' : Heap} {tk : Tok}, (∀ b o, s.heap.get? b = some o → h'.get? b = some o) → EP X pins σ Q (.str d.shown t) { s with heap := h', toks := tk } := fun {t h' tk} k => ⟨.str d.shown, H, I.kept k, ⟨t, rfl⟩, q⟩
  obtain ⟨as, rd⟩ := Dp.reads I d v u hd ru
  have same : ∀ b o, s.heap.get? b = some o → s.heap.get? b = some o := fun _ _ e => e
  cases d with
  | none =>
    cases hd
    cases ru
    refine P.repr_of_none ?_
    have := fin (t := s.toks) (tk := s.toks + 1) same
    rwa [PyData.shown_none] at this
  | bool b =>
    cases hd
    cases ru
    refine P.repr_of_bool ?_
    have := fin (t := s.toks) (tk := s.toks + 1) same
    rwa [PyData.shown_bool] at this
  | int i =>
    cases hd
    obtain ⟨t, rfl⟩ := ru
    refine P.repr_of_int (by simpa [PyData.showable] using sh) ?_
    have := fin (t := s.toks) (tk := s.toks + 1) same
    rwa [PyData.shown_int] at this
  | str x =>
    cases hd
    obtain ⟨t, rfl⟩ := ru
    refine P.repr_of_str ?_ (by rwa [PyData.shown_str] at sz)
    have := fin (t := s.toks) (tk := s.toks + 1) same
    rwa [PyData.shown_str] at this
  | list ds =>
    cases hd with
    | lst a b =>
      cases ru
      exact repr_of_reads' rd sh (PyData.noDict_hsm n) hgd (by omega) same (fun h' t tk k => fin k) sz
  | tuple ds =>
    cases hd with
    | tup a b =>
      cases ru
      exact repr_of_reads' rd sh (PyData.noDict_hsm n) hgd (by omega) same (fun h' t tk k => fin k) sz
  | dict _ => cases hd
variable {W : Wd X.K} {Γ : Gm} {e e2 : Expr} {p pos : Pos}
theorem ev_repr {d : PyData} (hgd : X.A.guards = some []) (hm : X.mg "repr" = none) (h : EvD X W Γ e d) (hs : Shows d) (hg : Gl X "repr" := by rfl) (he : starEach [e] X.env = (false, eval e X.env) :: starEach [] X.env := by rfl) (hpl : (backTo pos (starEach [] X.env)).any (·.1) = false := by rfl) :
    EvD X W Γ (.Call (.Name "repr" p) [e] [] pos) (.str d.shown) :=
  ex_callB (fun ok => call_repr hgd (by have := ok.room.un; omega)) hg hm boot_repr (ea_cons h ea_nil he) (fun ds q vs H z l Q hQ => by
    subst q
    obtain ⟨v, rfl, hd⟩ := L1 l
    exact ⟨v, d, rfl, hd.dp d v hs.1, hs, hQ _ _ H (W.refl H) (.str _) rfl⟩) (by decide) (by decide) he hpl

/-! ### == of data -/
def rvs (d c : PyData) : Prop := SeqAt.shaped d = true ∧ SeqAt.shaped c = true ∧ d.hasDict = false ∧ c.hasDict = false
theorem rv_eqD {d c : PyData} (h : rvs d c) : RvD X W (rEqD X.K) d c fun z => z = .bool (PyData.eqv d c) := fun vx vy H z d1 d2 Q hQ => ⟨d, c, d1.dp d vx h.2.2.1, d2.dp c vy h.2.2.2, h.1, h.2.1, hQ _ _ H (W.refl H) (.bl _) rfl⟩
theorem rv_neD {d c : PyData} (h : rvs d c) : RvD X W (rNeD X.K) d c fun z => z = .bool (!PyData.eqv d c) := fun vx vy H z d1 d2 Q hQ => ⟨d, c, d1.dp d vx h.2.2.1, d2.dp c vy h.2.2.2, h.1, h.2.1, hQ _ _ H (W.refl H) (.bl _) rfl⟩
theorem ev_eqD {d c : PyData} (h : EvD X W Γ e d) (k : EvD X W Γ e2 c) (hs : rvs d c) : EvD X W Γ (.Compare e [.Eq] [e2] pos) (.bool (PyData.eqv d c)) := fun ok => ev_cmp (op_eqD (by have := ok.room.un; omega)) h k (rv_eqD hs) (nomark _) ok
theorem ev_neD {d c : PyData} (h : EvD X W Γ e d) (k : EvD X W Γ e2 c) (hs : rvs d c) : EvD X W Γ (.Compare e [.NotEq] [e2] pos) (.bool (!PyData.eqv d c)) := fun ok => ev_cmp (op_neD (by have := ok.room.un; omega)) h k (rv_neD hs) (nomark _) ok
theorem et_eqD {d c : PyData} (h : EvD X W Γ e d) (k : EvD X W Γ e2 c) (hs : rvs d c) : EvT X W Γ (.Compare e [.Eq] [e2] pos) (PyData.eqv d c) := et_cmp (fun ok => op_eqD (by have := ok.room.un; omega)) h k (rv_eqD hs)
theorem et_neD {d c : PyData} (h : EvD X W Γ e d) (k : EvD X W Γ e2 c) (hs : rvs d c) : EvT X W Γ (.Compare e [.NotEq] [e2] pos) (!PyData.eqv d c) := et_cmp (fun ok => op_neD (by have := ok.room.un; omega)) h k (rv_neD hs)

/-! ### min, max -/
theorem ints_dp : ∀ {H : Hp} {ns : List Int}, DpAll X.K H (ns.map V.int) (ns.map .int)
  | _, [] => .nil
  | _, n :: ns => .cons (.int n) ints_dp
theorem alike_ints (ns : List Int) : PySem.W.AlikeAll (ns.map .int) := by
  constructor
  · intro x hx y hy
    obtain ⟨a, _, rfl⟩ := List.mem_map.mp hx
    obtain ⟨b, _, rfl⟩ := List.mem_map.mp hy
    rfl
  · intro x hx e
    obtain ⟨a, _, rfl⟩ := List.mem_map.mp hx
    cases e
theorem depth_ints : ∀ ns : List Int, PyData.depthAll (ns.map .int) = 0
  | [] => by simp [PyData.depthAll]
  | n :: ns => by simp [PyData.depthAll, PyData.depth, depth_ints ns]
theorem reads_int {h : Heap} {v : Value} {i : Int} {bs : List Addr} (r : Reads h v (.int i) bs) : ∃ t, v = .int i t := by
  cases r
  exact ⟨_, rfl⟩
def rMinP (K : PySem.W.Frag) : List V → Hp → VK → Prop := fun xs H Q => ∃ a i j, xs = [.ref a] ∧ SqT K H a [.int i, .int j] ∧ Q (.int (min i j)) H
def rMaxP (K : PySem.W.Frag) : List V → Hp → VK → Prop := fun xs H Q => ∃ a i j, xs = [.ref a] ∧ SqT K H a [.int i, .int j] ∧ Q (.int (max i j)) H
theorem call_minP (hc : X.calm = true) (hu : X.A.units + 70 < cLine) : CallR X (.builtin "min") (rMinP X.K) := by
  intro pins s σ H xs us Q I r h
  obtain ⟨a, i, j, rfl, hq, q⟩ := h
  obtain ⟨u, rfl, ru⟩ := vals1 r
  cases ru
  obtain ⟨its, rv, ht, _⟩ := I.tuple hq
  obtain ⟨as, ra⟩ := Dp.readsAll I [.int i, .int j] _ its (.cons (.int i) (.cons (.int j) .nil)) rv
  refine PySem.W.min_tuple_data (xs := [.int j]) (I.ok.hd hc) ht ra (alike_ints [i, j]) (by rw [show ([PyData.int i, .int j] : List PyData) = [i, j].map .int from rfl, depth_ints]; omega) fun n v h' tk bs _ rd k => ?_
  rw [show PySem.W.minD (.int i) [.int j] = .int (min i j) from PySem.W.minD_ints i [j]] at rd
  obtain ⟨t, rfl⟩ := reads_int rd
  exact ⟨.int (min i j), H, I.kept k, ⟨t, rfl⟩, q⟩
theorem call_maxP (hc : X.calm = true) (hu : X.A.units + 70 < cLine) : CallR X (.builtin "max") (rMaxP X.K) := by
  intro pins s σ H xs us Q I r h
  obtain ⟨a, i, j, rfl, hq, q⟩ := h
  obtain ⟨u, rfl, ru⟩ := vals1 r
  cases ru
  obtain ⟨its, rv, ht, _⟩ := I.tuple hq
  obtain ⟨as, ra⟩ := Dp.readsAll I [.int i, .int j] _ its (.cons (.int i) (.cons (.int j) .nil)) rv
  refine PySem.W.max_tuple_data (xs := [.int j]) (I.ok.hd hc) ht ra (alike_ints [i, j]) (by rw [show ([PyData.int i, .int j] : List PyData) = [i, j].map .int from rfl, depth_ints]; omega) fun n v h' tk bs _ rd k => ?_
  rw [show PySem.W.maxD (.int i) [.int j] = .int (max i j) from PySem.W.maxD_ints i [j]] at rd
  obtain ⟨t, rfl⟩ := reads_int rd
  exact ⟨.int (max i j), H, I.kept k, ⟨t, rfl⟩, q⟩
theorem pairV {H : Hp} {xs : List V} {i j : Int} (l : W.L H xs [.int i, .int j]) : xs = [.int i, .int j] := by
  obtain ⟨v, w, rfl, d1, d2⟩ := L2' l
  rw [d1.int_inv, d2.int_inv]
theorem ev_minP {i j : Int} (hm : X.mg "min" = none) (h : EvD X W Γ e (.tuple [.int i, .int j])) (hg : Gl X "min" := by rfl) (he : starEach [e] X.env = (false, eval e X.env) :: starEach [] X.env := by rfl) (hpl : (backTo pos (starEach [] X.env)).any (·.1) = false := by rfl) :
    EvD X W Γ (.Call (.Name "min" p) [e] [] pos) (.int (min i j)) :=
  ex_callB (fun ok => call_minP ok.calm (by have := ok.room.un; omega)) hg hm boot_min (ea_cons h ea_nil he) (fun ds q vs H z l Q hQ => by
    subst q
    obtain ⟨v, rfl, d⟩ := L1 l
    obtain ⟨a, xs, rfl, hq, _, ll⟩ := d.tup_inv
    rw [pairV ll] at hq
    exact ⟨a, i, j, rfl, hq, hQ _ _ H (W.refl H) (.int _) rfl⟩) (by decide) (by decide) he hpl
theorem ev_maxP {i j : Int} (hm : X.mg "max" = none) (h : EvD X W Γ e (.tuple [.int i, .int j])) (hg : Gl X "max" := by rfl) (he : starEach [e] X.env = (false, eval e X.env) :: starEach [] X.env := by rfl) (hpl : (backTo pos (starEach [] X.env)).any (·.1) = false := by rfl) :
    EvD X W Γ (.Call (.Name "max" p) [e] [] pos) (.int (max i j)) :=
  ex_callB (fun ok => call_maxP ok.calm (by have := ok.room.un; omega)) hg hm boot_max (ea_cons h ea_nil he) (fun ds q vs H z l Q hQ => by
    subst q
    obtain ⟨v, rfl, d⟩ := L1 l
    obtain ⟨a, xs, rfl, hq, _, ll⟩ := d.tup_inv
    rw [pairV ll] at hq
    exact ⟨a, i, j, rfl, hq, hQ _ _ H (W.refl H) (.int _) rfl⟩) (by decide) (by decide) he hpl
/-- max(parts, default=0), the parts numbers -/
def rMaxDef (K : PySem.W.Frag) : List V → List V → Hp → VK → Prop := fun xs zs H Q => ∃ (a : Addr) (ns : List Int), xs = [.ref a] ∧ zs = [.int 0] ∧ SqL K H a (ns.map V.int) ∧ (∀ n ∈ ns, 0 ≤ n) ∧ Q (.int (ns.foldl max 0)) H
theorem call_maxDef (hc : X.calm = true) (hu : X.A.units + 70 < cLine) : CallRK X (.builtin "max") [("default" : Str)] (rMaxDef X.K) := by
  intro pins s σ H xs zs us ws Q I r rz h
  obtain ⟨a, ns, rfl, rfl, hq, h0, q⟩ := h
  obtain ⟨u, rfl, ru⟩ := vals1 r
  obtain ⟨z, rfl, t0, rfl⟩ := vals1 rz
  cases ru
  obtain ⟨its, rv, hl, _⟩ := I.list hq
  obtain ⟨as, ra⟩ := Dp.readsAll I (ns.map .int) _ its ints_dp rv
  refine PySem.W.max_list_default (I.ok.hd hc) hl.isList ra (alike_ints ns) (by rw [depth_ints]; omega) (fun e h' tk k => ?_) fun y ys n v h' tk bs e _ rd k => ?_
  · have : ns = [] := List.map_eq_nil_iff.mp e
    subst this
    exact ⟨.int 0, H, I.kept k, ⟨t0, rfl⟩, q⟩
  · cases ns with
    | nil => cases e
    | cons m ms =>
      rw [List.map_cons] at e
      injection e with e1 e2
      subst e1 e2
      rw [PySem.W.maxD_ints] at rd
      obtain ⟨t, rfl⟩ := reads_int rd
      have e0 : (m :: ms).foldl max 0 = ms.foldl max m := by
        rw [List.foldl_cons, Int.max_eq_right (h0 m List.mem_cons_self)]
      rw [e0] at q
      exact ⟨.int _, H, I.kept k, ⟨t, rfl⟩, q⟩
theorem ev_maxDef {ns : List Int} {j : Nat} {kp p0 : Pos} (hm : X.mg "max" = none) (h : EvD X W Γ e (.list (ns.map .int))) (h0 : ∀ n ∈ ns, 0 ≤ n) (hg : Gl X "max" := by rfl)
    (s1 : starEach [e] X.env = (false, eval e X.env) :: starEach [] X.env := by rfl)
    (he : backTo pos (starEach [e] X.env) = (false, eval e X.env) :: backTo pos (starEach [] X.env) := by rfl) (hpl : (backTo pos (starEach [e] X.env)).any (·.1) = false := by rfl)
    (hall : (backToKw pos (keywordEach [⟨some "default", .Constant (.int 0) j p0, kp⟩] X.env)).all (·.1.isSome) = true := by rfl) (hnone : (backToKw pos (keywordEach [⟨some "default", .Constant (.int 0) j p0, kp⟩] X.env)).any (·.1.isNone) = false := by rfl)
    (hks : (backToKw pos (keywordEach [⟨some "default", .Constant (.int 0) j p0, kp⟩] X.env)).filterMap (·.1) = ([("default" : Str)] : List Str) := by rfl) :
    EvD X W Γ (.Call (.Name "max" p) [e] [⟨some "default", .Constant (.int 0) j p0, kp⟩] pos) (.int (ns.foldl max 0)) := fun ok σ H E Q hQ =>
  runE (pe_callBK (call_maxDef ok.calm (by have := ok.room.un; omega)) hg hm boot_max paR (pk_cons pe_int pk_nil) (by decide) (by decide) he hpl hall hnone hks) ((ea_cons h ea_nil s1) ok σ H E _ fun vs ds H1 r1 l q => by
    subst q
    obtain ⟨v, rfl, d⟩ := L1 l
    obtain ⟨a, xs, rfl, hq, _, ll⟩ := d.lst_inv
    rw [ints_inv ll] at hq
    exact ⟨a, ns, rfl, rfl, .of hq, h0, hQ _ _ H1 r1 (.int _) rfl⟩)

/-! ### isqrt -/
def isq (n : Int) : Int := ((Float64.isqrt n.toNat : Nat) : Int)
theorem isq_nonneg (n : Int) : 0 ≤ isq n := Int.natCast_nonneg _
theorem isq_sq {n : Int} (h : 0 ≤ n) : isq n * isq n ≤ n := by
  have := (Float64.isqrt_spec n.toNat).1
  unfold isq
  have e : (((Float64.isqrt n.toNat * Float64.isqrt n.toNat : Nat)) : Int) ≤ ((n.toNat : Nat) : Int) := Int.ofNat_le.mpr this
  rw [Int.natCast_mul, Int.toNat_of_nonneg h] at e
  exact e
theorem isq_lt (n : Int) : n < (isq n + 1) * (isq n + 1) := by
  have := (Float64.isqrt_spec n.toNat).2
  unfold isq
  have e : ((n.toNat : Nat) : Int) < (((Float64.isqrt n.toNat + 1) * (Float64.isqrt n.toNat + 1) : Nat) : Int) := Int.ofNat_lt.mpr this
  rw [Int.natCast_mul, Int.natCast_add] at e
  have := Int.self_le_toNat n
  exact Int.lt_of_le_of_lt this e
def rIsq : List V → Hp → VK → Prop := fun xs H Q => ∃ i, xs = [.int i] ∧ 0 ≤ i ∧ i < 2 ^ 64 ∧ Q (.int (isq i)) H
theorem call_isqrt : CallR X (.builtin "math.isqrt") rIsq := by
  intro pins s σ H xs us Q I r h
  obtain ⟨i, rfl, h0, h1, q⟩ := h
  obtain ⟨u, rfl, t, rfl⟩ := vals1 r
  exact PySem.W.mg_isqrt h0 h1 ⟨.int (isq i), H, I.tok _, ⟨_, rfl⟩, q⟩
theorem ev_isqrt {i : Int} (hm : X.mg "isqrt" = some (.builtin "math.isqrt")) (h : EvD X W Γ e (.int i)) (h0 : 0 ≤ i) (h1 : i < 2 ^ 64) (hg : Gl X "isqrt" := by rfl) (he : starEach [e] X.env = (false, eval e X.env) :: starEach [] X.env := by rfl) (hpl : (backTo pos (starEach [] X.env)).any (·.1) = false := by rfl) :
    EvD X W Γ (.Call (.Name "isqrt" p) [e] [] pos) (.int (isq i)) := fun ok σ H E Q hQ =>
  runE (pe_callBfun call_isqrt hg hm paR (by decide) he hpl) ((ea_cons h ea_nil he) ok σ H E _ fun vs ds H1 r1 l q => by
    subst q
    obtain ⟨v, rfl, d⟩ := L1 l
    exact ⟨i, by rw [d.int_inv], h0, h1, hQ _ _ H1 r1 (.int _) rfl⟩)
end
end Ng

set_option Elab.async false
set_option linter.all false
set_option maxRecDepth 100000
set_option maxHeartbeats 1000000
/-! for p in zip(t, u): the pair goes to one name; the zip's own tuple may be out. -/
namespace Ng
open PySem PySem.Spec PyProof.Rows L2
/-- a zip: what it has handed out, whether it was met alive -/
abbrev Zf (h : Heap) (z TI TO : Addr) (f0 f1 : Value) : Prop := h.get? z = some { cls := .type "zip", dict := none, data := .fields #[f0, f1, .bool false, .ref TI, .ref TO], slots := #[] }
def F0 (v : Value) : Prop := v = .none ∨ ∃ n t, v = .int n t
section
variable {prog : Program} {w : World} {A : Around} {E : Value → Shared → Prop} {s : Shared} {z TI TO i1 i2 l1 l2 : Addr} {f0 f1 : Value}
theorem zn_alive {a : Addr} {R : Option Obj → Shared → Prop} (h : R (s.heap.get? a) s) : wpAny (model prog w) A (loadIfAlive a) R E s := fun _ _ _ => h
theorem zn_free (hz : Zf s.heap z TI TO f0 f1) (hf : F0 f0) {Q : Bool → Shared → Prop} (hQ : ∀ b g1 h', Zf h' z TI TO f0 g1 → Heap.SameBut z s.heap h' → Q b { s with heap := h' }) : wpAny (model prog w) A (Builtin.SmallTypes.ownedTupleIsFree (.ref z)) Q E s := by
  have stay : ∀ b, Q b s := fun b => hQ b f1 s.heap hz ⟨rfl, fun _ _ => rfl⟩
  unfold Builtin.SmallTypes.ownedTupleIsFree
  refine wpAny_bind (wpAny_field hz rfl (x := f0) rfl ?_)
  rcases hf with rfl | ⟨n, t, rfl⟩
  · exact wpAny_pure (stay true)
  · refine wpAny_bind (zn_alive ?_)
    cases s.heap.get? n.toNat with
    | none => exact wpAny_pure (stay true)
    | some o =>
      show wpAny _ _ (field (.ref z) 1 >>= _) _ _ s
      refine wpAny_bind (wpAny_field hz rfl (x := f1) rfl ?_)
      by_cases hb : (f1 != Value.bool true) = true
      · rw [if_pos hb]
        refine wpAny_bind (wpAny_setField_rec hz (by simp) fun h' hz' hs => ?_)
        exact wpAny_pure (hQ false (.bool true) h' hz' hs)
      · rw [if_neg hb]
        first | exact wpAny_bind (wpAny_pure (wpAny_pure (stay false))) | exact wpAny_pure (stay false)
/-- the next pair -/
theorem zn_item {k : Nat} {xs ys : Array Value} {x y a b : Value} {Q : Value → Shared → Prop} (D : ZipApart z TI TO i1 i2 l1 l2) (hz : Zf s.heap z TI TO f0 f1) (hf : F0 f0) (hTI : IsPair s.heap TI (.ref i1) (.ref i2)) (hTO : IsPair s.heap TO a b)
    (h1 : s.heap.IsTupleIter i1 l1 k) (h2 : s.heap.IsTupleIter i2 l2 k) (hl1 : s.heap.IsTuple l1 xs) (hl2 : s.heap.IsTuple l2 ys) (hx : xs[k]? = some x) (hy : ys[k]? = some y)
    (hQ : ∀ h' g0 g1, Zf h' z TI TO g0 g1 → F0 g0 → (∃ p q, IsPair h' TO p q) → h'.IsTupleIter i1 l1 (k + 1) → h'.IsTupleIter i2 l2 (k + 1) → IsPair h' s.heap.objs.size x y → h'.objs.size = s.heap.objs.size + 1 →
      (∀ c o, c ≠ z → c ≠ TO → c ≠ i1 → c ≠ i2 → s.heap.get? c = some o → h'.get? c = some o) → Q (.ref s.heap.objs.size) { s with heap := h' }) :
    wpAny (model prog w) A (Builtin.«zip.__next__» ⟨[.ref z], []⟩) (fun fin s' => ∃ v, fin = .done (.ret v) ∧ Q v s') E s := by
  show wpAny _ _ (field (.ref z) 2 >>= _) _ _ _
  refine wpAny_bind (wpAny_field hz rfl (x := .bool false) rfl ?_)
  show wpAny _ _ (field (.ref z) 3 >>= _) _ _ _
  refine wpAny_bind (wpAny_field hz rfl (x := .ref TI) rfl (wpAny_bind (wpAny_seqItems hTI rfl ?_)))
  show wpAny _ _ (Builtin.SmallTypes.ownedTupleIsFree (.ref z) >>= _) _ _ _
  refine wpAny_bind (zn_free hz hf fun fr g1 h₀ hz₀ hs₀ => ?_)
  have n1 := h1.extBut hs₀.extBut D.i1z
  have n2 := h2.extBut hs₀.extBut D.i2z
  have m1 := hl1.extBut hs₀.extBut D.l1z
  have m2 := hl2.extBut hs₀.extBut D.l2z
  have pO : IsPair h₀ TO a b := hs₀.extBut _ _ D.TOz hTO
  cases fr with
  | true =>
    simp only [if_true]
    refine wpAny_bind (wpAny_rule (wpAny_bind (wpAny_field hz₀ rfl (x := .ref TO) rfl ?_)))
    refine wpAny_bind (wpAny_setField_rec hz₀ (by simp) fun h₁ hz₁ hs₁ => ?_)
    replace hz₁ : Zf h₁ z TI TO .ellipsis g1 := hz₁
    refine wpAny_bind ?_
    simp only [List.zipIdx_cons, List.zipIdx_nil, List.forIn_cons, List.forIn_nil]
    refine wpAny_bind (wpAny_bind (wpAny_onRaise ?_))
    show wpAny _ _ (Builtin.SmallTypes.nextOf (.ref i1) >>= _) _ _ _
    refine wpAny_bind (RZ.nextOf_tuple_item (n1.extBut hs₁.extBut D.i1z) (m1.extBut hs₁.extBut D.l1z) hx fun h₂ it₂ hs₂ => wpAny_pure ?_)
    have p₂ : IsPair h₂ TO a b := hs₂.extBut _ _ D.TOi1 (hs₁.extBut _ _ D.TOz pO)
    refine wpAny_bind (wpAny_seqItems p₂ rfl (wpAny_bind (wpAny_updateSeq_pair p₂ fun h₃ p₃ hs₃ => ?_)))
    replace p₃ : IsPair h₃ TO x b := p₃
    refine wpAny_bind (wpAny_letGo (wpAny_pure (wpAny_bind (wpAny_bind (wpAny_onRaise ?_)))))
    show wpAny _ _ (Builtin.SmallTypes.nextOf (.ref i2) >>= _) _ _ _
    have n2' := ((n2.extBut hs₁.extBut D.i2z).extBut hs₂.extBut D.i12.symm).extBut hs₃.extBut D.TOi2.symm
    have m2' := ((m2.extBut hs₁.extBut D.l2z).extBut hs₂.extBut D.l2i1).extBut hs₃.extBut D.l2TO
    refine wpAny_bind (RZ.nextOf_tuple_item n2' m2' hy fun h₄ it₄ hs₄ => wpAny_pure ?_)
    have p₄ : IsPair h₄ TO x b := hs₄.extBut _ _ D.TOi2 p₃
    refine wpAny_bind (wpAny_seqItems p₄ rfl (wpAny_bind (wpAny_updateSeq_pair p₄ fun h₅ p₅ hs₅ => ?_)))
    replace p₅ : IsPair h₅ TO x y := p₅
    refine wpAny_bind (wpAny_letGo (wpAny_pure (wpAny_pure (wpAny_bind (wpAny_seqItems p₅ rfl (wpAny_bind (wpAny_newTuple ?_)))))))
    have hsz : h₅.objs.size = s.heap.objs.size := by rw [hs₅.1, hs₄.1, hs₃.1, hs₂.1, hs₁.1]; exact hs₀.1
    have z₅ : Zf h₅ z TI TO .ellipsis g1 := hs₅.extBut _ _ D.TOz.symm (hs₄.extBut _ _ D.i2z.symm (hs₃.extBut _ _ D.TOz.symm (hs₂.extBut _ _ D.i1z.symm hz₁)))
    have k₅ : ∀ c o, c ≠ z → c ≠ TO → c ≠ i1 → c ≠ i2 → s.heap.get? c = some o → h₅.get? c = some o := fun c o c1 c2 c3 c4 e =>
      hs₅.extBut _ _ c2 (hs₄.extBut _ _ c4 (hs₃.extBut _ _ c2 (hs₂.extBut _ _ c3 (hs₁.extBut _ _ c1 (hs₀.extBut _ _ c1 e)))))
    have a₅ : h₅.IsTupleIter i1 l1 (k + 1) := ((it₂.extBut hs₃.extBut D.TOi1.symm).extBut hs₄.extBut D.i12).extBut hs₅.extBut D.TOi1.symm
    have b₅ : h₅.IsTupleIter i2 l2 (k + 1) := it₄.extBut hs₅.extBut D.TOi2.symm
    have ltz : z < h₅.objs.size := Heap.lt_size z₅
    show wpAny _ _ (Builtin.SmallTypes.ownedTupleHandOut (.ref z) (.ref h₅.objs.size) >>= _) _ _ _
    refine wpAny_bind ?_
    unfold Builtin.SmallTypes.ownedTupleHandOut
    have z₆ : Zf (h₅.push { cls := .type "tuple", data := .seq #[x, y] }) z TI TO .ellipsis g1 := Heap.get?_push_of_some _ z₅
    refine wpAny_bind (wpAny_setField_rec z₆ (by simp) fun h₇ z₇ hs₇ => ?_)
    replace z₇ : Zf h₇ z TI TO (rawInt h₅.objs.size) g1 := z₇
    refine wpAny_setField_rec z₇ (by simp) fun h₈ z₈ hs₈ => ?_
    replace z₈ : Zf h₈ z TI TO (rawInt h₅.objs.size) (.bool false) := z₈
    have up : ∀ c o, c ≠ z → h₅.get? c = some o → h₈.get? c = some o := fun c o c1 e => hs₈.extBut _ _ c1 (hs₇.extBut _ _ c1 (Heap.get?_push_of_some _ e))
    have t₈ : IsPair h₈ h₅.objs.size x y := hs₈.extBut _ _ (Nat.ne_of_gt ltz) (hs₇.extBut _ _ (Nat.ne_of_gt ltz) (Heap.get?_push_size _ rfl))
    have s₈ : h₈.objs.size = h₅.objs.size + 1 := by rw [hs₈.1, hs₇.1, Heap.size_push]
    rw [hsz] at t₈ s₈
    refine wpAny_pure ⟨_, rfl, ?_⟩
    show Q (.ref h₅.objs.size) _
    rw [hsz]
    exact hQ h₈ _ _ z₈ (.inr ⟨_, _, rfl⟩) ⟨x, y, up _ _ D.TOz p₅⟩ (a₅.at fun o e => up _ o D.i1z e) (b₅.at fun o e => up _ o D.i2z e) t₈ s₈ fun c o c1 c2 c3 c4 e => up c o c1 (k₅ c o c1 c2 c3 c4 e)
  | false =>
    simp only [Bool.false_eq_true, if_false, List.forIn_toArray, List.forIn_cons, List.forIn_nil]
    refine wpAny_bind (wpAny_bind (wpAny_bind (wpAny_holding ?_)))
    show wpAny _ _ (Builtin.SmallTypes.nextOf (.ref i1) >>= _) _ _ _
    refine wpAny_bind (RZ.nextOf_tuple_item n1 m1 hx fun h₂ it₂ hs₂ => wpAny_pure (wpAny_pure ?_))
    refine wpAny_bind (wpAny_bind (wpAny_holding ?_))
    show wpAny _ _ (Builtin.SmallTypes.nextOf (.ref i2) >>= _) _ _ _
    refine wpAny_bind (RZ.nextOf_tuple_item (n2.extBut hs₂.extBut D.i12.symm) (m2.extBut hs₂.extBut D.l2i1) hy fun h₄ it₄ hs₄ => wpAny_pure (wpAny_pure (wpAny_pure ?_)))
    refine wpAny_bind (wpAny_newTuple ?_ (by show 2 ≤ sizeLine; decide))
    have hsz : h₄.objs.size = s.heap.objs.size := by rw [hs₄.1, hs₂.1]; exact hs₀.1
    have z₄ : Zf h₄ z TI TO f0 g1 := hs₄.extBut _ _ D.i2z.symm (hs₂.extBut _ _ D.i1z.symm hz₀)
    have o₄ : IsPair h₄ TO a b := hs₄.extBut _ _ D.TOi2 (hs₂.extBut _ _ D.TOi1 pO)
    have a₄ : h₄.IsTupleIter i1 l1 (k + 1) := it₂.extBut hs₄.extBut D.i12
    refine wpAny_pure ⟨_, rfl, ?_⟩
    show Q (.ref h₄.objs.size) { s with heap := h₄.push { cls := .type "tuple", data := .seq #[x, y] } }
    have up : ∀ c o, h₄.get? c = some o → (h₄.push { cls := .type "tuple", data := .seq #[x, y] }).get? c = some o := fun c o e => Heap.get?_push_of_some _ e
    have t₄ : IsPair (h₄.push { cls := .type "tuple", data := .seq #[x, y] }) h₄.objs.size x y := Heap.get?_push_size _ rfl
    have s₄ : (h₄.push { cls := .type "tuple", data := .seq #[x, y] }).objs.size = h₄.objs.size + 1 := Heap.size_push _ _
    rw [hsz] at t₄ s₄ ⊢
    exact hQ _ _ _ (up _ _ z₄) hf ⟨a, b, up _ _ o₄⟩ (a₄.at fun o e => up _ o e) (it₄.at fun o e => up _ o e) t₄ s₄ fun c o c1 c2 c3 c4 e => up c o (hs₄.extBut _ _ c4 (hs₂.extBut _ _ c3 (hs₀.extBut _ _ c1 e)))
/-- no more pairs -/
theorem zn_end {k : Nat} {xs : Array Value} {a b : Value} {Q : Fin → Shared → Prop} (hh : A.handled = none) (D : ZipApart z TI TO i1 i2 l1 l2) (hz : Zf s.heap z TI TO f0 f1) (hf : F0 f0) (hTI : IsPair s.heap TI (.ref i1) (.ref i2)) (hTO : IsPair s.heap TO a b)
    (h1 : s.heap.IsTupleIter i1 l1 k) (hl1 : s.heap.IsTuple l1 xs) (hx : xs[k]? = none)
    (hE : ∀ h' e, (∀ c o, c ≠ z → c ≠ TO → c ≠ i1 → c ≠ i2 → s.heap.get? c = some o → h'.get? c = some o) → (∃ o, h'.get? e = some o ∧ o.cls = .type "StopIteration") → E (.ref e) { s with heap := h' }) :
    wpAny (model prog w) A (Builtin.«zip.__next__» ⟨[.ref z], []⟩) Q E s := by
  show wpAny _ _ (field (.ref z) 2 >>= _) _ _ _
  refine wpAny_bind (wpAny_field hz rfl (x := .bool false) rfl ?_)
  show wpAny _ _ (field (.ref z) 3 >>= _) _ _ _
  refine wpAny_bind (wpAny_field hz rfl (x := .ref TI) rfl (wpAny_bind (wpAny_seqItems hTI rfl ?_)))
  show wpAny _ _ (Builtin.SmallTypes.ownedTupleIsFree (.ref z) >>= _) _ _ _
  refine wpAny_bind (zn_free hz hf fun fr g1 h₀ hz₀ hs₀ => ?_)
  have n1 := h1.extBut hs₀.extBut D.i1z
  have m1 := hl1.extBut hs₀.extBut D.l1z
  cases fr with
  | true =>
    simp only [if_true]
    refine wpAny_bind (wpAny_rule (wpAny_bind (wpAny_field hz₀ rfl (x := .ref TO) rfl ?_)))
    refine wpAny_bind (wpAny_setField_rec hz₀ (by simp) fun h₁ hz₁ hs₁ => ?_)
    replace hz₁ : Zf h₁ z TI TO .ellipsis g1 := hz₁
    refine wpAny_bind ?_
    simp only [List.zipIdx_cons, List.zipIdx_nil, List.forIn_cons, List.forIn_nil]
    refine wpAny_bind (wpAny_bind (wpAny_onRaise ?_))
    show wpAny _ _ (Builtin.SmallTypes.nextOf (.ref i1) >>= _) _ _ _
    refine wpAny_bind (RZ.nextOf_tuple_end hh (n1.extBut hs₁.extBut D.i1z) (m1.extBut hs₁.extBut D.l1z) hx fun h₂ e hs₂ he => ?_)
    obtain ⟨oe, hoe, hce⟩ := he
    have z₂ : Zf h₂ z TI TO .ellipsis g1 := hs₂ _ _ D.i1z.symm hz₁
    have hez : e ≠ z := fun q => by rw [q, z₂] at hoe; cases hoe; simp at hce
    exact wpAny_setField_rec z₂ (by simp) fun h₃ _ hs₃ => hE h₃ e (fun c o c1 _ c3 _ q => hs₃.extBut _ _ c1 (hs₂ _ _ c3 (hs₁.extBut _ _ c1 (hs₀.extBut _ _ c1 q)))) ⟨oe, hs₃.extBut _ _ hez hoe, hce⟩
  | false =>
    simp only [Bool.false_eq_true, if_false, List.forIn_toArray, List.forIn_cons, List.forIn_nil]
    refine wpAny_bind (wpAny_bind (wpAny_bind (wpAny_holding ?_)))
    show wpAny _ _ (Builtin.SmallTypes.nextOf (.ref i1) >>= _) _ _ _
    exact wpAny_bind (RZ.nextOf_tuple_end hh n1 m1 hx fun h₂ e hs₂ he => hE h₂ e (fun c o c1 _ c3 _ q => hs₂ _ _ c3 (hs₀.extBut _ _ c1 q)) he)
end
/-- the state of the walk -/
def Sn (z TI TO i1 i2 a b : Addr) (i : Nat) (h : Heap) : Prop :=
  (∃ f0 f1, Zf h z TI TO f0 f1 ∧ F0 f0) ∧ IsPair h TI (.ref i1) (.ref i2) ∧ (∃ p q, IsPair h TO p q) ∧ h.IsTupleIter i1 a i ∧ h.IsTupleIter i2 b i
/-- two tuples of one length -/
def ItN (K : PySem.W.Frag) (a b : Addr) : It where
  go i H := ∃ (xs ys : List V) (x y : V), (SqT K H a xs ∧ SqT K H b ys) ∧ xs[i]? = some x ∧ ys[i]? = some y
  yld i H v H' := ∃ T x y, v = .ref T ∧ H T = none ∧ H' = upd H T (.tup [x, y]) ∧ (∀ xs, SqT K H a xs → xs[i]? = some x) ∧ ∀ ys, SqT K H b ys → ys[i]? = some y
  stop i H := ∃ xs : List V, SqT K H a xs ∧ xs.length = i
theorem mem5 {x z TI TO i1 i2 : Addr} (h : x ∈ [z, TI, TO, i1, i2]) : x = z ∨ x = TI ∨ x = TO ∨ x = i1 ∨ x = i2 := by simpa using h
theorem turnN {P : Program} {w : World} {K : PySem.W.Frag} {nm : Str} {tpos : Pos} {a b z TI TO i1 i2 : Addr} (D : ZipApart z TI TO i1 i2 a b) :
    Turn P w K (.Name nm tpos) (ItN K a b) [z, TI, TO, i1, i2] z (Sn z TI TO i1 i2 a b) where
  mem := by simp
  obj := by
    rintro i h ⟨⟨f0, f1, hz, _⟩, hT, ⟨q1, q2, hO⟩, ⟨o1, e1, _, d1⟩, ⟨o2, e2, _, d2⟩⟩ x hx
    rcases mem5 hx with rfl | rfl | rfl | rfl | rfl
    · exact ⟨_, hz, fun v q => nomatch q⟩
    · exact ⟨_, hT, fun v q => nomatch q⟩
    · exact ⟨_, hO, fun v q => nomatch q⟩
    · exact ⟨o1, e1, fun v q => by rw [d1] at q; cases q⟩
    · exact ⟨o2, e2, fun v q => by rw [d2] at q; cases q⟩
  keep := by
    rintro i h h' ⟨⟨f0, f1, hz, hf⟩, hT, ⟨q1, q2, hO⟩, s1, s2⟩ k
    exact ⟨⟨f0, f1, k z (by simp) _ hz, hf⟩, k TI (by simp) _ hT, ⟨q1, q2, k TO (by simp) _ hO⟩, s1.at fun o e => k i1 (by simp) o e, s2.at fun o e => k i2 (by simp) o e⟩
  item := by
    rintro X rfl rfl rfl hc i pins s σ H E I hf ⟨⟨f0, f1, hz, hf0⟩, hT, ⟨q1, q2, hO⟩, s1, s2⟩ ⟨xs, ys, x, y, ⟨qa, qb⟩, hx, hy⟩
    obtain ⟨v1, r1, p1, _⟩ := I.tuple qa
    obtain ⟨v2, r2, p2, _⟩ := I.tuple qb
    obtain ⟨w1, hw1, rw1⟩ := r1.get hx
    obtain ⟨w2, hw2, rw2⟩ := r2.get hy
    have lts : ∀ q ∈ [z, TI, TO, i1, i2], q < s.heap.objs.size := by
      obtain ⟨_, e1, _⟩ := id s1
      obtain ⟨_, e2, _⟩ := id s2
      intro q hq
      rcases mem5 hq with rfl | rfl | rfl | rfl | rfl
      · exact Heap.lt_size hz
      · exact Heap.lt_size hT
      · exact Heap.lt_size hO
      · exact Heap.lt_size e1
      · exact Heap.lt_size e2
    have hTy : s.TypeIs (.ref z) "zip" := ⟨_, hz, rfl⟩
    unfold pyNext
    refine wpAny_bind (wpAny_attempt (wpAny_callSpecial?_slot (name := Str.ofString "__next__") hTy PySem.F.slot_zip_next
      (wpAny_call_entry PySem.F.slot_zip_next hTy PySem.F.entry_zip_next (zn_item D hz hf0 hT hO s1 s2 p1 p2 (x := w1) (y := w2) (by simpa using hw1) (by simpa using hw2) fun h' g0 g1 z' f' O' t1 t2 hP hsz hk => wpAny_pure ?_) (PySem.F.args_zip_next_1 _))))
    have new : ObjOk X.prog X.w (upd H s.heap.objs.size (.tup [x, y])) h' s.heap.objs.size (.tup [x, y]) :=
      ⟨by show 2 ≤ sizeLine; decide, [w1, w2], .cons rw1 (.cons rw2 .nil), ⟨_, hP, rfl, _, rfl⟩⟩
    have I1 : Inv X pins σ (upd H s.heap.objs.size (.tup [x, y])) { s with heap := h' } :=
      I.turnedNew (t' := s.toks) (ch := [z, TI, TO, i1, i2]) (fun c o hb q => hk c o (fun q' => hb (by simp [q'])) (fun q' => hb (by simp [q'])) (fun q' => hb (by simp [q'])) (fun q' => hb (by simp [q'])) q) hf (Nat.le_refl _) new
    refine ⟨_, rfl, wpAny_pure ⟨.ref s.heap.objs.size, _, I1, rfl, ⟨_, x, y, rfl, I.hok.fresh (Nat.le_refl _), rfl, fun l hl => by rw [I.tuple_inj hl qa]; exact hx, fun l hl => by rw [I.tuple_inj hl qb]; exact hy⟩, ⟨⟨g0, g1, z', f'⟩, ?_, O', t1, t2⟩, fun c hcm => ?_⟩⟩
    · exact hk _ _ D.TIz D.TITO D.TIi1 D.TIi2 hT
    · rw [upd_ne (Nat.ne_of_lt (lts c hcm))]
      exact (hf c hcm).1
  done := by
    rintro X rfl rfl rfl hc i pins s σ H E I hf ⟨⟨f0, f1, hz, hf0⟩, hT, ⟨q1, q2, hO⟩, s1, s2⟩ ⟨xs, qa, hl⟩
    obtain ⟨v1, r1, p1, _⟩ := I.tuple qa
    have l1 := r1.length
    have hTy : s.TypeIs (.ref z) "zip" := ⟨_, hz, rfl⟩
    unfold pyNext
    refine wpAny_bind (wpAny_attempt (wpAny_callSpecial?_slot (name := Str.ofString "__next__") hTy PySem.F.slot_zip_next
      (wpAny_call_entry PySem.F.slot_zip_next hTy PySem.F.entry_zip_next (zn_end (I.ok.hd hc) D hz hf0 hT hO s1 p1 (by simp; omega) fun h' e hk he => ?_) (PySem.F.args_zip_next_1 _))))
    obtain ⟨o, ho, hcl⟩ := he
    refine wpAny_bind (wpAny_isInstance (T := "StopIteration") (b := true) ⟨o, ho, hcl⟩ isSubtype_stop ?_)
    exact wpAny_pure ⟨rfl, I.turnedL (t' := s.toks) (ch := [z, TI, TO, i1, i2]) (fun c o hb q => hk c o (fun q' => hb (by simp [q'])) (fun q' => hb (by simp [q'])) (fun q' => hb (by simp [q'])) (fun q' => hb (by simp [q'])) q) hf⟩
  self := by
    rintro A i s Q E ⟨⟨f0, f1, hz, _⟩, _⟩ h
    have hTy : s.TypeIs (.ref z) "zip" := ⟨_, hz, rfl⟩
    refine wpAny_pyIter_slot hTy PySem.F.slot_zip_iter (wpAny_call_entry PySem.F.slot_zip_iter hTy PySem.F.entry_zip_iter ?_ (PySem.F.args_zip_iter_1 _))
    show wpAny _ _ (ret (.ref z)) _ _ s
    exact wpAny_pure ⟨_, rfl, "zip", _, hTy, PySem.F.slot_zip_next.lookup, h⟩
def iZipN (K : PySem.W.Frag) (ta : TA) : TI := fun σ H R => ta σ H fun vs H1 => ∃ a b xs ys, vs = [.ref a, .ref b] ∧ (SqT K H1 a xs ∧ SqT K H1 b ys) ∧ R (ItN K a b) H1
theorem pi_zipN {X : Cx} {e e2 : Expr} {ta : TA} {p pos tpos : Pos} {nm : Str} (hg : Gl X "zip") (hm : X.mg "zip" = none) (ha : PA X [e, e2] ta)
    (hs : starEach [e, e2] X.env = (false, eval e X.env) :: starEach [e2] X.env := by rfl) (hpl : (backTo pos (starEach [e2] X.env)).any (·.1) = false := by rfl) :
    PI X (.Name nm tpos) (.Call (.Name "zip" p) [e, e2] [] pos) (iZipN X.K ta) := by
  constructor
  intro pins s σ H R I h
  refine Call_ (ld_blt I hg hm PyProof.Rows.boot_zip (PyProof.Rows.callWith_type1 (thn (ha.run pos pins s σ H _ I h) fun us s1 q0 => ?_) hs hpl))
  obtain ⟨vs, H1, I1, r1, a, b, xs, ys, rfl, ⟨qa, qb⟩, q⟩ := q0
  obtain ⟨rfl⟩ : us = [.ref a, .ref b] := by
    cases r1 with
    | cons t1 r1 =>
      cases r1 with
      | cons t2 r1 =>
        cases r1
        cases t1
        cases t2
        rfl
  obtain ⟨v1, _, p1, _⟩ := I1.tuple qa
  obtain ⟨v2, _, p2, _⟩ := I1.tuple qb
  have fin : ∀ h' : Heap, IsZip h' (s1.heap.objs.size + 4) (s1.heap.objs.size + 2) (s1.heap.objs.size + 3) .none → IsPair h' (s1.heap.objs.size + 2) (.ref s1.heap.objs.size) (.ref (s1.heap.objs.size + 1)) → IsPair h' (s1.heap.objs.size + 3) .none .none →
      h'.IsTupleIter s1.heap.objs.size a 0 → h'.IsTupleIter (s1.heap.objs.size + 1) b 0 → (∀ c o, s1.heap.get? c = some o → h'.get? c = some o) → PIE X pins σ (.Name nm tpos) R (.ref (s1.heap.objs.size + 4)) { s1 with heap := h' } := by
    intro h' hz hT hO g1 g2 hk
    refine ⟨s1.heap.objs.size + 4, [s1.heap.objs.size + 4, s1.heap.objs.size + 2, s1.heap.objs.size + 3, s1.heap.objs.size, s1.heap.objs.size + 1], _, _, H1, rfl, I1.kept (t' := s1.toks) hk, turnN (PySem.W.ktu_apart s1.heap.objs.size a b p1.lt p2.lt), ⟨⟨_, _, hz, .inl rfl⟩, hT, ⟨_, _, hO⟩, g1, g2⟩, fun x hx => ?_, q⟩
    have hle : s1.heap.objs.size ≤ x := by
      rcases mem5 hx with r | r | r | r | r <;> rw [r]
      · exact Nat.le_add_right _ _
      · exact Nat.le_add_right _ _
      · exact Nat.le_add_right _ _
      · exact Nat.le_refl _
      · exact Nat.le_add_right _ _
    exact I1.fpOk hle (I1.hok.fresh hle)
  exact RZ.call_zipT p1 p2 fun h' hz hT hO g1 g2 _ hk => wpAny_pyIter_zip hz (fin h' hz hT hO g1 g2 hk)
/-- zip of two tuples of one length, to one name -/
theorem ei_zipN {X : Cx} {W : Wd X.K} {Γ : Gm} {a b : Expr} {p pos tpos : Pos} {nm : Str} {ds es : List PyData} (hm : X.mg "zip" = none) (h : EvD X W Γ a (.tuple ds)) (k : EvD X W Γ b (.tuple es)) (hl : es.length = ds.length) (hg : Gl X "zip" := by rfl)
    (hs : starEach [a, b] X.env = (false, eval a X.env) :: starEach [b] X.env := by rfl) (hs2 : starEach [b] X.env = (false, eval b X.env) :: starEach [] X.env := by rfl) (hpl : (backTo pos (starEach [b] X.env)).any (·.1) = false := by rfl) :
    EvI X W Γ (.Name nm tpos) (.Call (.Name "zip" p) [a, b] [] pos) ds.length fun i => .tuple [ds.getD i .none, es.getD i .none] := fun ok σ H E Rr hR =>
  runI (pi_zipN hg hm paR hs hpl) ((ea_cons h (ea_cons k ea_nil hs2) hs) ok σ H E _ fun vs ds' H1 r1 l q => by
    subst q
    obtain ⟨v, w, rfl, d, d2⟩ := L2' l
    obtain ⟨p1, xs, rfl, hq, n1, l1⟩ := d.tup_inv
    obtain ⟨p2, ys, rfl, hq2, n2, l2⟩ := d2.tup_inv
    refine ⟨p1, p2, xs, ys, rfl, ⟨hq, hq2⟩, hR _ _ r1 ?_⟩
    have s1 : ∀ H', W.R H1 H' → SqT X.K H' p1 xs ∧ W.L H' xs ds := fun H' r => ⟨sqT_keep (W.keep r) n1 hq, l1.keep (W.keep r)⟩
    have s2 : ∀ H', W.R H1 H' → SqT X.K H' p2 ys ∧ W.L H' ys es := fun H' r => ⟨sqT_keep (W.keep r) n2 hq2, l2.keep (W.keep r)⟩
    have e1 := l1.len
    have e2 := l2.len
    refine ⟨fun H' r i hi => ?_, fun H' r => ⟨xs, (s1 H' r).1, by omega⟩, fun H' r i x H2 hi y => ?_⟩
    · exact ⟨xs, ys, xs[i], ys[i], ⟨(s1 H' r).1, (s2 H' r).1⟩, List.getElem?_eq_getElem (by omega), List.getElem?_eq_getElem (by omega)⟩
    · obtain ⟨T, x1, y1, rfl, hT, rfl, f1, f2⟩ := y
      obtain ⟨v, a, b⟩ := (s1 _ r).2.get (getD_of hi)
      obtain ⟨v2, a2, b2⟩ := (s2 _ r).2.get (getD_of (show i < es.length by omega))
      have q1 : x1 = v := Option.some.inj ((f1 xs (s1 _ r).1).symm.trans a)
      have q2 : y1 = v2 := Option.some.inj ((f2 ys (s2 _ r).1).symm.trans a2)
      subst q1 q2
      exact new_tup (W.keepZ (E.mono r1).z r) (.cons b (.cons b2 .nil)) hT)
end Ng

set_option Elab.async false
set_option linter.all false
set_option maxRecDepth 100000
set_option maxHeartbeats 1000000
/-! The text by places. Printed by gen.py. -/
namespace Ng
open PySem PySem.Spec PyProof.Rows L2
def topS (i : Nat) : Stmt := PySem.Challenge.pw_nonearer_k23_whole_regions_in_regions.main.body.getD i (.Pass ⟨0, 0, 0, 0⟩)
abbrev s_differences : Stmt := topS 2
abbrev s_part_of : Stmt := topS 5
abbrev s_joined_parts : Stmt := topS 6
abbrev s_distance : Stmt := topS 7
abbrev s_doubled_root : Stmt := topS 8
abbrev s_gap_of : Stmt := topS 9
abbrev s_least_beyond : Stmt := topS 10
abbrev s_most_beyond : Stmt := topS 11
abbrev s_shell_of : Stmt := topS 13
abbrev s_holds_vector : Stmt := topS 14
abbrev s_gap_to : Stmt := topS 15
abbrev s_room_to : Stmt := topS 16
abbrev s_floor_of_shell : Stmt := topS 17
abbrev s_floor_of : Stmt := topS 18
abbrev s_capped : Stmt := topS 19
abbrev s_ceiling_of : Stmt := topS 20
abbrev s_lowered_and_raised : Stmt := topS 22
abbrev s_side_of : Stmt := topS 23
abbrev s_box_around : Stmt := topS 24
abbrev s_is_inside : Stmt := topS 25
abbrev s_law_heap : Stmt := topS 27
abbrev s_law_draw : Stmt := topS 28
abbrev s_law_pick : Stmt := topS 29
abbrev s_law_part : Stmt := topS 30
abbrev s_law_distance : Stmt := topS 31
abbrev s_law_root : Stmt := topS 32
abbrev s_law_gap : Stmt := topS 33
abbrev s_law_most : Stmt := topS 34
abbrev s_law_shell : Stmt := topS 35
abbrev s_law_holds : Stmt := topS 36
abbrev s_law_region : Stmt := topS 37
abbrev s_law_floor : Stmt := topS 38
abbrev s_law_ceiling : Stmt := topS 39
abbrev s_law_window : Stmt := topS 40
abbrev s_law_around_due : Stmt := topS 41
abbrev s_law_inside_due : Stmt := topS 42
abbrev s_law_inside_right : Stmt := topS 43
abbrev s_law_around_right : Stmt := topS 44
abbrev s_law_outers : Stmt := topS 45
abbrev s_law : Stmt := topS 46
theorem sc_differences : FnScope ["one", "other", "mine", "yours"] ["one", "other"] (defScope s_differences) := ⟨rfl, rfl, rfl, by decide +kernel, rfl, by decide +kernel, by decide +kernel⟩
theorem sc_part_of : FnScope ["kind", "difference"] ["kind", "difference"] (defScope s_part_of) := ⟨rfl, rfl, rfl, by decide +kernel, rfl, by decide +kernel, by decide +kernel⟩
theorem sc_joined_parts : FnScope ["kind", "parts"] ["kind", "parts"] (defScope s_joined_parts) := ⟨rfl, rfl, rfl, by decide +kernel, rfl, by decide +kernel, by decide +kernel⟩
theorem sc_distance : FnScope ["kind", "one", "other", "difference"] ["kind", "one", "other"] (defScope s_distance) := ⟨rfl, rfl, rfl, by decide +kernel, rfl, by decide +kernel, by decide +kernel⟩
theorem sc_doubled_root : FnScope ["one", "other"] ["one", "other"] (defScope s_doubled_root) := ⟨rfl, rfl, rfl, by decide +kernel, rfl, by decide +kernel, by decide +kernel⟩
theorem sc_gap_of : FnScope ["kind", "one", "other"] ["kind", "one", "other"] (defScope s_gap_of) := ⟨rfl, rfl, rfl, by decide +kernel, rfl, by decide +kernel, by decide +kernel⟩
theorem sc_least_beyond : FnScope ["kind", "from_centre", "radius"] ["kind", "from_centre", "radius"] (defScope s_least_beyond) := ⟨rfl, rfl, rfl, by decide +kernel, rfl, by decide +kernel, by decide +kernel⟩
theorem sc_most_beyond : FnScope ["kind", "from_centre", "radius", "total"] ["kind", "from_centre", "radius"] (defScope s_most_beyond) := ⟨rfl, rfl, rfl, by decide +kernel, rfl, by decide +kernel, by decide +kernel⟩
theorem sc_shell_of : FnScope ["region"] ["region"] (defScope s_shell_of) := ⟨rfl, rfl, rfl, by decide +kernel, rfl, by decide +kernel, by decide +kernel⟩
theorem sc_holds_vector : FnScope ["kind", "region", "vector", "low", "part", "high", "least", "greatest"] ["kind", "region", "vector"] (defScope s_holds_vector) := ⟨rfl, rfl, rfl, by decide +kernel, rfl, by decide +kernel, by decide +kernel⟩
theorem sc_gap_to : FnScope ["low", "high", "part"] ["low", "high", "part"] (defScope s_gap_to) := ⟨rfl, rfl, rfl, by decide +kernel, rfl, by decide +kernel, by decide +kernel⟩
theorem sc_room_to : FnScope ["low", "high", "part"] ["low", "high", "part"] (defScope s_room_to) := ⟨rfl, rfl, rfl, by decide +kernel, rfl, by decide +kernel, by decide +kernel⟩
theorem sc_floor_of_shell : FnScope ["kind", "shell", "near", "far", "least", "greatest"] ["kind", "shell", "near", "far"] (defScope s_floor_of_shell) := ⟨rfl, rfl, rfl, by decide +kernel, rfl, by decide +kernel, by decide +kernel⟩
theorem sc_floor_of : FnScope ["kind", "region", "vector", "gaps", "low", "high", "part", "gap", "away"] ["kind", "region", "vector"] (defScope s_floor_of) := ⟨rfl, rfl, rfl, by decide +kernel, rfl, by decide +kernel, by decide +kernel⟩
theorem sc_capped : FnScope ["kind", "number", "places"] ["kind", "number", "places"] (defScope s_capped) := ⟨rfl, rfl, rfl, by decide +kernel, rfl, by decide +kernel, by decide +kernel⟩
theorem sc_ceiling_of : FnScope ["kind", "region", "vector", "rooms", "low", "high", "part", "room", "away"] ["kind", "region", "vector"] (defScope s_ceiling_of) := ⟨rfl, rfl, rfl, by decide +kernel, rfl, by decide +kernel, by decide +kernel⟩
theorem sc_lowered_and_raised : FnScope ["box", "lows", "highs", "lower", "pair"] ["box", "lows", "highs"] (defScope s_lowered_and_raised) := ⟨rfl, rfl, rfl, by decide +kernel, rfl, by decide +kernel, by decide +kernel⟩
theorem sc_side_of : FnScope ["kind", "radius"] ["kind", "radius"] (defScope s_side_of) := ⟨rfl, rfl, rfl, by decide +kernel, rfl, by decide +kernel, by decide +kernel⟩
theorem sc_box_around : FnScope ["kind", "region", "side", "part"] ["kind", "region"] (defScope s_box_around) := ⟨rfl, rfl, rfl, by decide +kernel, rfl, by decide +kernel, by decide +kernel⟩
theorem sc_is_inside : FnScope ["kind", "inner", "outer", "box", "least", "greatest"] ["kind", "inner", "outer"] (defScope s_is_inside) := ⟨rfl, rfl, rfl, by decide +kernel, rfl, by decide +kernel, by decide +kernel⟩
theorem sc_law_heap : FnScope ["_law_script", "_law_cells", "_law_stir", "_law_cell"] ["_law_script"] (defScope s_law_heap) := ⟨rfl, rfl, rfl, by decide +kernel, rfl, by decide +kernel, by decide +kernel⟩
theorem sc_law_draw : FnScope ["_law_heap_here", "_law_many", "_law_rest"] ["_law_heap_here", "_law_many"] (defScope s_law_draw) := ⟨rfl, rfl, rfl, by decide +kernel, rfl, by decide +kernel, by decide +kernel⟩
theorem sc_law_pick : FnScope ["_law_heap_here", "_law_some"] ["_law_heap_here", "_law_some"] (defScope s_law_pick) := ⟨rfl, rfl, rfl, by decide +kernel, rfl, by decide +kernel, by decide +kernel⟩
theorem sc_law_part : FnScope ["_law_kind", "_law_one", "_law_other", "_law_size"] ["_law_kind", "_law_one", "_law_other"] (defScope s_law_part) := ⟨rfl, rfl, rfl, by decide +kernel, rfl, by decide +kernel, by decide +kernel⟩
theorem sc_law_distance : FnScope ["_law_kind", "_law_one", "_law_other", "_law_found", "_law_place", "_law_part_here"] ["_law_kind", "_law_one", "_law_other"] (defScope s_law_distance) := ⟨rfl, rfl, rfl, by decide +kernel, rfl, by decide +kernel, by decide +kernel⟩
theorem sc_law_root : FnScope ["_law_number", "_law_low", "_law_high", "_law_turn", "_law_middle"] ["_law_number"] (defScope s_law_root) := ⟨rfl, rfl, rfl, by decide +kernel, rfl, by decide +kernel, by decide +kernel⟩
theorem sc_law_gap : FnScope ["_law_kind", "_law_one", "_law_other"] ["_law_kind", "_law_one", "_law_other"] (defScope s_law_gap) := ⟨rfl, rfl, rfl, by decide +kernel, rfl, by decide +kernel, by decide +kernel⟩
theorem sc_law_most : FnScope ["_law_kind", "_law_one", "_law_other"] ["_law_kind", "_law_one", "_law_other"] (defScope s_law_most) := ⟨rfl, rfl, rfl, by decide +kernel, rfl, by decide +kernel, by decide +kernel⟩
theorem sc_law_shell : FnScope ["_law_region_here"] ["_law_region_here"] (defScope s_law_shell) := ⟨rfl, rfl, rfl, by decide +kernel, rfl, by decide +kernel, by decide +kernel⟩
theorem sc_law_holds : FnScope ["_law_kind", "_law_region_here", "_law_vector", "_law_at", "_law_least", "_law_greatest"] ["_law_kind", "_law_region_here", "_law_vector"] (defScope s_law_holds) := ⟨rfl, rfl, rfl, by decide +kernel, rfl, by decide +kernel, by decide +kernel⟩
theorem sc_law_region : FnScope ["_law_heap_here", "_law_kind", "_law_places", "_law_far", "_law_centre", "_law_place", "_law_word", "_law_part_here", "_law_size"] ["_law_heap_here", "_law_kind", "_law_places", "_law_far"] (defScope s_law_region) := ⟨rfl, rfl, rfl, by decide +kernel, rfl, by decide +kernel, by decide +kernel⟩
theorem sc_law_floor : FnScope ["_law_kind", "_law_region_here", "_law_vector", "_law_nearest", "_law_at", "_law_least", "_law_greatest", "_law_away"] ["_law_kind", "_law_region_here", "_law_vector"] (defScope s_law_floor) := ⟨rfl, rfl, rfl, by decide +kernel, rfl, by decide +kernel, by decide +kernel⟩
theorem sc_law_ceiling : FnScope ["_law_kind", "_law_region_here", "_law_vector", "_law_farthest", "_law_at", "_law_most_here"] ["_law_kind", "_law_region_here", "_law_vector"] (defScope s_law_ceiling) := ⟨rfl, rfl, rfl, by decide +kernel, rfl, by decide +kernel, by decide +kernel⟩
theorem sc_law_window : FnScope ["_law_vector", "_law_wide", "_law_found", "_law_at", "_law_step", "_law_part_here", "_law_longer", "_law_some"] ["_law_vector", "_law_wide"] (defScope s_law_window) := ⟨rfl, rfl, rfl, by decide +kernel, rfl, by decide +kernel, by decide +kernel⟩
theorem sc_law_around_due : FnScope ["_law_kind", "_law_region_here", "_law_most_here", "_law_side", "_law_part_here"] ["_law_kind", "_law_region_here"] (defScope s_law_around_due) := ⟨rfl, rfl, rfl, by decide +kernel, rfl, by decide +kernel, by decide +kernel⟩
theorem sc_law_inside_due : FnScope ["_law_kind", "_law_inner", "_law_outer", "_law_box", "_law_at", "_law_least", "_law_greatest"] ["_law_kind", "_law_inner", "_law_outer"] (defScope s_law_inside_due) := ⟨rfl, rfl, rfl, by decide +kernel, rfl, by decide +kernel, by decide +kernel⟩
theorem sc_law_inside_right : FnScope ["_law_kind", "_law_inner", "_law_outer", "_law_due", "_law_middle", "_law_some"] ["_law_kind", "_law_inner", "_law_outer"] (defScope s_law_inside_right) := ⟨rfl, rfl, rfl, by decide +kernel, rfl, by decide +kernel, by decide +kernel⟩
theorem sc_law_around_right : FnScope ["_law_kind", "_law_region_here", "_law_box", "_law_due", "_law_some", "_law_at", "_law_edge"] ["_law_kind", "_law_region_here"] (defScope s_law_around_right) := ⟨rfl, rfl, rfl, by decide +kernel, rfl, by decide +kernel, by decide +kernel⟩
theorem sc_law_outers : FnScope ["_law_heap_here", "_law_kind", "_law_inner", "_law_centre", "_law_low", "_law_high", "_law_off", "_law_found", "_law_box", "_law_at", "_law_lows", "_law_part_here"] ["_law_heap_here", "_law_kind", "_law_inner", "_law_centre"] (defScope s_law_outers) := ⟨rfl, rfl, rfl, by decide +kernel, rfl, by decide +kernel, by decide +kernel⟩
theorem sc_law : FnScope ["_law_script", "_law_heap_here", "_law_turn", "_law_places", "_law_far", "_law_kind", "_law_great", "_law_centre", "_law_place", "_law_some", "_law_inner", "_law_outer", "_law_kept"] ["_law_script"] (defScope s_law) := ⟨rfl, rfl, rfl, by decide +kernel, rfl, by decide +kernel, by decide +kernel⟩
/-- what the top has left -/
structure Txt (K : PySem.W.Frag) (mg : Str → Option Value) where
  t_differences : Fnd K mg "differences" s_differences ["one", "other"]
  t_part_of : Fnd K mg "part_of" s_part_of ["kind", "difference"]
  t_joined_parts : Fnd K mg "joined_parts" s_joined_parts ["kind", "parts"]
  t_distance : Fnd K mg "distance" s_distance ["kind", "one", "other"]
  t_doubled_root : Fnd K mg "doubled_root" s_doubled_root ["one", "other"]
  t_gap_of : Fnd K mg "gap_of" s_gap_of ["kind", "one", "other"]
  t_least_beyond : Fnd K mg "least_beyond" s_least_beyond ["kind", "from_centre", "radius"]
  t_most_beyond : Fnd K mg "most_beyond" s_most_beyond ["kind", "from_centre", "radius"]
  t_shell_of : Fnd K mg "shell_of" s_shell_of ["region"]
  t_holds_vector : Fnd K mg "holds_vector" s_holds_vector ["kind", "region", "vector"]
  t_gap_to : Fnd K mg "gap_to" s_gap_to ["low", "high", "part"]
  t_room_to : Fnd K mg "room_to" s_room_to ["low", "high", "part"]
  t_floor_of_shell : Fnd K mg "floor_of_shell" s_floor_of_shell ["kind", "shell", "near", "far"]
  t_floor_of : Fnd K mg "floor_of" s_floor_of ["kind", "region", "vector"]
  t_capped : Fnd K mg "capped" s_capped ["kind", "number", "places"]
  t_ceiling_of : Fnd K mg "ceiling_of" s_ceiling_of ["kind", "region", "vector"]
  t_lowered_and_raised : Fnd K mg "lowered_and_raised" s_lowered_and_raised ["box", "lows", "highs"]
  t_side_of : Fnd K mg "side_of" s_side_of ["kind", "radius"]
  t_box_around : Fnd K mg "box_around" s_box_around ["kind", "region"]
  t_is_inside : Fnd K mg "is_inside" s_is_inside ["kind", "inner", "outer"]
  t_law_heap : Fnd K mg "_law_heap" s_law_heap ["_law_script"]
  t_law_draw : Fnd K mg "_law_draw" s_law_draw ["_law_heap_here", "_law_many"]
  t_law_pick : Fnd K mg "_law_pick" s_law_pick ["_law_heap_here", "_law_some"]
  t_law_part : Fnd K mg "_law_part" s_law_part ["_law_kind", "_law_one", "_law_other"]
  t_law_distance : Fnd K mg "_law_distance" s_law_distance ["_law_kind", "_law_one", "_law_other"]
  t_law_root : Fnd K mg "_law_root" s_law_root ["_law_number"]
  t_law_gap : Fnd K mg "_law_gap" s_law_gap ["_law_kind", "_law_one", "_law_other"]
  t_law_most : Fnd K mg "_law_most" s_law_most ["_law_kind", "_law_one", "_law_other"]
  t_law_shell : Fnd K mg "_law_shell" s_law_shell ["_law_region_here"]
  t_law_holds : Fnd K mg "_law_holds" s_law_holds ["_law_kind", "_law_region_here", "_law_vector"]
  t_law_region : Fnd K mg "_law_region" s_law_region ["_law_heap_here", "_law_kind", "_law_places", "_law_far"]
  t_law_floor : Fnd K mg "_law_floor" s_law_floor ["_law_kind", "_law_region_here", "_law_vector"]
  t_law_ceiling : Fnd K mg "_law_ceiling" s_law_ceiling ["_law_kind", "_law_region_here", "_law_vector"]
  t_law_window : Fnd K mg "_law_window" s_law_window ["_law_vector", "_law_wide"]
  t_law_around_due : Fnd K mg "_law_around_due" s_law_around_due ["_law_kind", "_law_region_here"]
  t_law_inside_due : Fnd K mg "_law_inside_due" s_law_inside_due ["_law_kind", "_law_inner", "_law_outer"]
  t_law_inside_right : Fnd K mg "_law_inside_right" s_law_inside_right ["_law_kind", "_law_inner", "_law_outer"]
  t_law_around_right : Fnd K mg "_law_around_right" s_law_around_right ["_law_kind", "_law_region_here"]
  t_law_outers : Fnd K mg "_law_outers" s_law_outers ["_law_heap_here", "_law_kind", "_law_inner", "_law_centre"]
  b_abs : mg "abs" = none
  b_all : mg "all" = none
  b_int : mg "int" = none
  b_len : mg "len" = none
  b_max : mg "max" = none
  b_min : mg "min" = none
  b_range : mg "range" = none
  b_repr : mg "repr" = none
  b_sum : mg "sum" = none
  b_tuple : mg "tuple" = none
  b_zip : mg "zip" = none
  isqrt : mg "isqrt" = some (.builtin "math.isqrt")
end Ng

set_option Elab.async false
set_option linter.all false
set_option maxRecDepth 100000
set_option maxHeartbeats 1000000
/-! Plain: vectors, kinds, regions; what the program and the law count. -/
namespace Ng
open PySem PySem.Spec PyProof.Rows L2
inductive Kd where
  | sq | su | mo | un
  deriving DecidableEq
def Kd.s : Kd → Str
  | .sq => "square"
  | .su => "sum"
  | .mo => "most"
  | .un => "unlike"
theorem k_sq (k : Kd) : decide (k.s = ("square" : Str)) = decide (k = .sq) := by cases k <;> decide +kernel
theorem k_su (k : Kd) : decide (k.s = ("sum" : Str)) = decide (k = .su) := by cases k <;> decide +kernel
theorem k_mo (k : Kd) : decide (k.s = ("most" : Str)) = decide (k = .mo) := by cases k <;> decide +kernel
theorem k_un (k : Kd) : decide (k.s = ("unlike" : Str)) = decide (k = .un) := by cases k <;> decide +kernel
abbrev Vc := List Int
def vec (c : Vc) : PyData := .tuple (c.map .int)
inductive Reg where
  | ball (c : Vc) (r : Int)
  | box (l h : Vc)
  | cell (c : Vc) (a b : Int)
def Reg.w : Reg → Str
  | .ball _ _ => "ball"
  | .box _ _ => "box"
  | .cell _ _ _ => "cell"
def Reg.d : Reg → PyData
  | .ball c r => .tuple [.str "ball", vec c, .int r]
  | .box l h => .tuple [.str "box", vec l, vec h]
  | .cell c a b => .tuple [.str "cell", vec c, .int a, .int b]
/-- the second item: the centre, or the low corner -/
def Reg.c : Reg → Vc
  | .ball c _ => c
  | .box l _ => l
  | .cell c _ _ => c
def Reg.isBox : Reg → Bool
  | .box _ _ => true
  | _ => false
def Reg.lo : Reg → Int
  | .cell _ a _ => a
  | _ => 0
def Reg.hi : Reg → Int
  | .ball _ r => r
  | .cell _ _ b => b
  | _ => 0
def part (k : Kd) (x : Int) : Int := match k with
  | .sq => x * x
  | .un => if x = 0 then 0 else 1
  | _ => if x < 0 then -x else x
def joined (k : Kd) (ps : List Int) : Int := match k with
  | .mo => ps.foldl max 0
  | _ => ps.sum
def sub (a b : Vc) : Vc := List.zipWith (fun x y => x - y) a b
def dist (k : Kd) (a b : Vc) : Int := joined k ((sub a b).map (part k))
def gap (k : Kd) (a b : Int) : Int := if k = .sq then a + b - isq (4 * a * b) else if a - b < 0 then -(a - b) else a - b
def most (k : Kd) (a b : Int) : Int := if k = .sq then a + b + isq (4 * a * b) else a + b
def beyond (k : Kd) (f r : Int) : Int := if r < f then gap k f r else 0
def gapTo (l h p : Int) : Int := if p < l then l - p else if h < p then p - h else 0
def roomTo (l h p : Int) : Int := max (if p - l < 0 then -(p - l) else p - l) (if h - p < 0 then -(h - p) else h - p)
def shellF (k : Kd) (a b near far : Int) : Int := if b < near then beyond k near b else if far < a then gap k a far else 0
def z3 {α : Type} (f : Int → Int → Int → α) : Vc → Vc → Vc → List α
  | x :: xs, y :: ys, z :: zs => f x y z :: z3 f xs ys zs
  | _, _, _ => []
def holds (k : Kd) (R : Reg) (v : Vc) : Bool := match R with
  | .box l h => (z3 (fun a x b => decide (a ≤ x ∧ x ≤ b)) l v h).all id
  | R => decide (R.lo ≤ dist k R.c v ∧ dist k R.c v ≤ R.hi)
def floorR (k : Kd) (R : Reg) (v : Vc) : Int := match R with
  | .box l h => joined k ((z3 gapTo l h v).map (part k))
  | R => shellF k R.lo R.hi (dist k R.c v) (dist k R.c v)
def cap (k : Kd) (x : Int) (n : Int) : Int := if k = .un then min x n else x
def ceilR (k : Kd) (R : Reg) (v : Vc) : Int := match R with
  | .box l h => joined k ((z3 roomTo l h v).map (part k))
  | R => cap k (most k (dist k R.c v) R.hi) (v.length : Int)
def side (k : Kd) (r : Int) : Option Int := match k with
  | .un => if r = 0 then some 0 else none
  | .sq => some (isq r)
  | _ => some r
def around (k : Kd) (R : Reg) : Option (Vc × Vc) := match R with
  | .box l h => some (l, h)
  | R => (side k R.hi).map fun s => (R.c.map (· - s), R.c.map (· + s))
def boxD : Option (Vc × Vc) → PyData
  | none => .none
  | some (l, h) => (Reg.box l h).d
def inside (k : Kd) (I O : Reg) : Bool := match O with
  | .box l h => match around k I with
    | none => false
    | some (a, b) => decide (List.zipWith min l a = l) && decide (List.zipWith max h b = h)
  | O => decide (O.lo ≤ floorR k I O.c) && decide (ceilR k I O.c ≤ O.hi)

/-! ### lists by range -/
theorem getD_lt {a : Vc} {i : Nat} (h : i < a.length) : a.getD i 0 = a[i] := by
  rw [List.getD_eq_getElem?_getD, List.getElem?_eq_getElem h]
  rfl
theorem rm1 {α : Type} (f : Int → α) (a : Vc) : (List.range a.length).map (fun i => f (a.getD i 0)) = a.map f := by
  apply List.ext_getElem?
  intro i
  by_cases h : i < a.length
  · rw [List.getElem?_map, List.getElem?_range h, List.getElem?_map, List.getElem?_eq_getElem h]
    show some (f (a.getD i 0)) = some (f a[i])
    rw [getD_lt h]
  · rw [List.getElem?_eq_none (by simpa using h), List.getElem?_eq_none (by simpa using h)]
theorem rm2 {α : Type} (f : Int → Int → α) (a b : Vc) (h : b.length = a.length) : (List.range a.length).map (fun i => f (a.getD i 0) (b.getD i 0)) = List.zipWith f a b := by
  apply List.ext_getElem?
  intro i
  by_cases hi : i < a.length
  · have hj : i < b.length := by omega
    rw [List.getElem?_map, List.getElem?_range hi, List.getElem?_zipWith, List.getElem?_eq_getElem hi, List.getElem?_eq_getElem hj]
    show some (f (a.getD i 0) (b.getD i 0)) = some (f a[i] b[i])
    rw [getD_lt hi, getD_lt hj]
  · rw [List.getElem?_eq_none (by simpa using hi), List.getElem?_eq_none (by simp; omega)]
theorem z3_len {α : Type} (f : Int → Int → Int → α) : ∀ (a b c : Vc), b.length = a.length → c.length = a.length → (z3 f a b c).length = a.length
  | [], _, _, _, _ => by simp [z3]
  | x :: a, [], _, h, _ => by simp at h
  | x :: a, y :: b, [], _, h => by simp at h
  | x :: a, y :: b, z :: c, h, k => by simp [z3, z3_len f a b c (by simpa using h) (by simpa using k)]
theorem z3_get {α : Type} (f : Int → Int → Int → α) : ∀ (a b c : Vc) (i : Nat), b.length = a.length → c.length = a.length → i < a.length → (z3 f a b c)[i]? = some (f (a.getD i 0) (b.getD i 0) (c.getD i 0))
  | [], _, _, _, _, _, h => by simp at h
  | x :: a, [], _, _, h, _, _ => by simp at h
  | x :: a, y :: b, [], _, _, h, _ => by simp at h
  | x :: a, y :: b, z :: c, 0, _, _, _ => by simp [z3]
  | x :: a, y :: b, z :: c, i + 1, h, k, l => by
    have := z3_get f a b c i (by simpa using h) (by simpa using k) (by simpa using l)
    simpa [z3] using this
theorem rm3 {α : Type} (f : Int → Int → Int → α) (a b c : Vc) (h : b.length = a.length) (k : c.length = a.length) : (List.range a.length).map (fun i => f (a.getD i 0) (b.getD i 0) (c.getD i 0)) = z3 f a b c := by
  apply List.ext_getElem?
  intro i
  by_cases hi : i < a.length
  · rw [List.getElem?_map, List.getElem?_range hi, z3_get f a b c i h k hi]
    rfl
  · rw [List.getElem?_eq_none (by simpa using hi), List.getElem?_eq_none (by rw [z3_len f a b c h k]; omega)]
theorem z3_map {α β : Type} (g : α → β) (f : Int → Int → Int → α) : ∀ a b c : Vc, (z3 f a b c).map g = z3 (fun x y z => g (f x y z)) a b c
  | [], _, _ => by simp [z3]
  | _ :: _, [], _ => by simp [z3]
  | _ :: _, _ :: _, [] => by simp [z3]
  | x :: a, y :: b, z :: c => by simp [z3, z3_map g f a b c]

/-! ### bounds -/
def Bd (m : Int) (c : Vc) : Prop := ∀ x ∈ c, -m ≤ x ∧ x ≤ m
theorem bd_sub {m : Int} {a b : Vc} (ha : Bd m a) (hb : Bd m b) : Bd (2 * m) (sub a b) := by
  intro x hx
  unfold sub at hx
  rw [List.mem_iff_getElem?] at hx
  obtain ⟨i, hi⟩ := hx
  rw [List.getElem?_zipWith] at hi
  cases e1 : a[i]? with
  | none => rw [e1] at hi; simp at hi
  | some u =>
    cases e2 : b[i]? with
    | none => rw [e1, e2] at hi; simp at hi
    | some v =>
      rw [e1, e2] at hi
      have hx : u - v = x := by simpa using hi
      have h1 := ha u (List.mem_of_getElem? e1)
      have h2 := hb v (List.mem_of_getElem? e2)
      omega
theorem sub_len (a b : Vc) (h : a.length = b.length) : (sub a b).length = a.length := by
  unfold sub
  rw [List.length_zipWith, h, Nat.min_self]
theorem msn (x : Int) : 0 ≤ x * x := by
  by_cases h : 0 ≤ x
  · exact Int.mul_nonneg h h
  · have := Int.mul_nonneg (show 0 ≤ -x by omega) (show 0 ≤ -x by omega)
    rwa [Int.neg_mul_neg] at this
theorem part_nonneg (k : Kd) (x : Int) : 0 ≤ part k x := by
  cases k with
  | sq => exact msn x
  | un => unfold part; dsimp only; split <;> omega
  | su => unfold part; dsimp only; split <;> omega
  | mo => unfold part; dsimp only; split <;> omega
theorem part_le {m : Int} (k : Kd) {x : Int} (h : -m ≤ x ∧ x ≤ m) (hm : 1 ≤ m) : part k x ≤ m * m := by
  have h1 : m ≤ m * m := by
    have := Int.mul_le_mul_of_nonneg_left hm (show 0 ≤ m by omega)
    rwa [Int.mul_one] at this
  cases k with
  | sq =>
    show x * x ≤ m * m
    by_cases hx : 0 ≤ x
    · exact Int.mul_le_mul h.2 h.2 hx (by omega)
    · have : (-x) * (-x) ≤ m * m := Int.mul_le_mul (by omega) (by omega) (by omega) (by omega)
      rwa [Int.neg_mul_neg] at this
  | un => unfold part; dsimp only; split <;> omega
  | su => unfold part; dsimp only; split <;> omega
  | mo => unfold part; dsimp only; split <;> omega
theorem sum_nonneg : ∀ {ps : List Int}, (∀ p ∈ ps, 0 ≤ p) → 0 ≤ ps.sum
  | [], _ => by simp
  | p :: ps, h => by
    rw [List.sum_cons]
    have := h p List.mem_cons_self
    have := sum_nonneg (ps := ps) fun q hq => h q (List.mem_cons_of_mem _ hq)
    omega
theorem foldl_max_ge (ps : List Int) : ∀ x : Int, x ≤ ps.foldl max x ∧ ∀ p ∈ ps, p ≤ ps.foldl max x := by
  induction ps with
  | nil => intro x; simp
  | cons q ps ih =>
    intro x
    rw [List.foldl_cons]
    obtain ⟨a, b⟩ := ih (max x q)
    refine ⟨by omega, fun p hp => ?_⟩
    rcases List.mem_cons.mp hp with rfl | hp
    · omega
    · exact b p hp
theorem foldl_max_le (ps : List Int) (m : Int) : ∀ x : Int, x ≤ m → (∀ p ∈ ps, p ≤ m) → ps.foldl max x ≤ m := by
  induction ps with
  | nil => intro x h _; simpa using h
  | cons q ps ih =>
    intro x h hp
    rw [List.foldl_cons]
    have := hp q List.mem_cons_self
    exact ih _ (by omega) fun p hp' => hp p (List.mem_cons_of_mem _ hp')
theorem sum_le {m : Int} : ∀ {ps : List Int}, (∀ p ∈ ps, p ≤ m) → ps.sum ≤ ps.length * m
  | [], _ => by simp
  | p :: ps, h => by
    rw [List.sum_cons, List.length_cons]
    have h1 := h p List.mem_cons_self
    have h2 := sum_le (ps := ps) fun q hq => h q (List.mem_cons_of_mem _ hq)
    rw [Int.natCast_add, Int.add_mul]
    omega
theorem joined_nonneg (k : Kd) {ps : List Int} (h : ∀ p ∈ ps, 0 ≤ p) : 0 ≤ joined k ps := by
  cases k with
  | mo => exact (foldl_max_ge ps 0).1
  | sq => exact sum_nonneg h
  | su => exact sum_nonneg h
  | un => exact sum_nonneg h
theorem parts_nonneg (k : Kd) (ds : List Int) : ∀ p ∈ ds.map (part k), 0 ≤ p := by
  intro p hp
  obtain ⟨x, _, rfl⟩ := List.mem_map.mp hp
  exact part_nonneg k x
theorem dist_nonneg (k : Kd) (a b : Vc) : 0 ≤ dist k a b := joined_nonneg k (parts_nonneg k _)
theorem joined_le (k : Kd) {ps : List Int} {m : Int} {n : Nat} (hm : 0 ≤ m) (hl : ps.length ≤ n) (hn : 1 ≤ n) (h : ∀ p ∈ ps, p ≤ m) : joined k ps ≤ n * m := by
  have e1 : (ps.length : Int) * m ≤ n * m := Int.mul_le_mul_of_nonneg_right (by omega) hm
  have e2 : m ≤ n * m := by
    have := Int.mul_le_mul_of_nonneg_right (show (1 : Int) ≤ n by omega) hm
    rwa [Int.one_mul] at this
  have := sum_le h
  cases k with
  | mo => exact Int.le_trans (foldl_max_le ps m 0 hm h) e2
  | sq => exact Int.le_trans this e1
  | su => exact Int.le_trans this e1
  | un => exact Int.le_trans this e1
theorem dist_le (k : Kd) {a b : Vc} {m : Int} (hm : 1 ≤ m) (ha : Bd m a) (hb : Bd m b) (hl : a.length = b.length) (h8 : a.length ≤ 8) : dist k a b ≤ 8 * (2 * m * (2 * m)) := by
  have hs := bd_sub ha hb
  have hp : ∀ p ∈ (sub a b).map (part k), p ≤ 2 * m * (2 * m) := by
    intro p hp
    obtain ⟨x, hx, rfl⟩ := List.mem_map.mp hp
    exact part_le k (hs x hx) (by omega)
  have := joined_le (n := 8) k (Int.mul_nonneg (by omega) (by omega)) (by rw [List.length_map, sub_len a b hl]; exact h8) (by decide) hp
  exact this
end Ng

set_option Elab.async false
set_option linter.all false
set_option maxRecDepth 100000
set_option maxHeartbeats 4000000
/-! The program's defs, each by what it makes of data. -/
namespace Ng
open PySem PySem.Spec PyProof.Rows L2
section
variable {X : Cx} {W : Wd X.K} {Γ : Gm}
theorem getI (a : Vc) {i : Nat} (h : i < a.length) : (a.map PyData.int).getD i .none = .int (a.getD i 0) := by
  rw [List.getD_eq_getElem?_getD, List.getElem?_map, List.getElem?_eq_getElem h, getD_lt h]
  rfl
theorem EvI.congr {tg it : Expr} {n m : Nat} {f g : Nat → PyData} (h : EvI X W Γ tg it n f) (e : n = m) (k : ∀ i, i < n → f i = g i) : EvI X W Γ tg it m g := fun ok σ H E Rr hR => by
  subst e
  exact h ok σ H E Rr fun J H' r w => hR J H' r ⟨w.go, w.stop, fun H2 r2 i x H3 hi y => by rw [← k i hi]; exact w.yld H2 r2 i x H3 hi y⟩
theorem ei_vec {tg e : Expr} {a : Vc} (h : EvD X W Γ e (vec a)) : EvI X W Γ tg e a.length fun i => .int (a.getD i 0) :=
  (ei_tup h fun i hi => by rw [← getI a (by simpa using hi)]; exact getD_of hi).congr (by simp) fun i _ => rfl
theorem ei_zipV {a b : Expr} {p pos tpos : Pos} {elts : List Expr} {kk : Nat} {u v : Vc} (hm : X.mg "zip" = none) (h : EvD X W Γ a (vec u)) (k : EvD X W Γ b (vec v)) (hl : v.length = u.length) (hg : Gl X "zip" := by rfl)
    (hs : starEach [a, b] X.env = (false, eval a X.env) :: starEach [b] X.env := by rfl) (hs2 : starEach [b] X.env = (false, eval b X.env) :: starEach [] X.env := by rfl) (hpl : (backTo pos (starEach [b] X.env)).any (·.1) = false := by rfl) :
    EvI X W Γ (.Tuple elts kk tpos) (.Call (.Name "zip" p) [a, b] [] pos) u.length fun i => .tuple [.int (u.getD i 0), .int (v.getD i 0)] :=
  (ei_zip2 hm h k (by simp [hl]) hg hs hs2 hpl).congr (by simp) fun i hi => by
    rw [List.length_map] at hi
    rw [getI u hi, getI v (by omega)]
theorem ei_zipV3 {a b c : Expr} {p pos tpos : Pos} {elts : List Expr} {kk : Nat} {u v w : Vc} (hm : X.mg "zip" = none) (h : EvD X W Γ a (vec u)) (k : EvD X W Γ b (vec v)) (k3 : EvD X W Γ c (vec w)) (hl : v.length = u.length) (hl3 : w.length = u.length) (hg : Gl X "zip" := by rfl)
    (hs : starEach [a, b, c] X.env = (false, eval a X.env) :: starEach [b, c] X.env := by rfl) (hs2 : starEach [b, c] X.env = (false, eval b X.env) :: starEach [c] X.env := by rfl) (hs3 : starEach [c] X.env = (false, eval c X.env) :: starEach [] X.env := by rfl) (hpl : (backTo pos (starEach [b, c] X.env)).any (·.1) = false := by rfl) :
    EvI X W Γ (.Tuple elts kk tpos) (.Call (.Name "zip" p) [a, b, c] [] pos) u.length fun i => .tuple [.int (u.getD i 0), .int (v.getD i 0), .int (w.getD i 0)] :=
  (ei_zip3 hm h k k3 (by simp [hl]) (by simp [hl3]) hg hs hs2 hs3 hpl).congr (by simp) fun i hi => by
    rw [List.length_map] at hi
    rw [getI u hi, getI v (by omega), getI w (by omega)]
end
theorem rI1 (f : Int → Int) (a : Vc) : PyData.list ((List.range a.length).map fun i => .int (f (a.getD i 0))) = .list ((a.map f).map .int) := by
  rw [rm1 (fun x => PyData.int (f x)) a, List.map_map]
  rfl
theorem rI2 (f : Int → Int → Int) {a b : Vc} (h : b.length = a.length) : PyData.list ((List.range a.length).map fun i => .int (f (a.getD i 0) (b.getD i 0))) = .list ((List.zipWith f a b).map .int) := by
  rw [rm2 (fun x y => PyData.int (f x y)) a b h, List.map_zipWith]
theorem rI3 (f : Int → Int → Int → Int) {a b c : Vc} (h : b.length = a.length) (k : c.length = a.length) : PyData.list ((List.range a.length).map fun i => .int (f (a.getD i 0) (b.getD i 0) (c.getD i 0))) = .list ((z3 f a b c).map .int) := by
  rw [rm3 (fun x y z => PyData.int (f x y z)) a b c h k, z3_map]
theorem rB3 (f : Int → Int → Int → Bool) {a b c : Vc} (h : b.length = a.length) (k : c.length = a.length) : PyData.list ((List.range a.length).map fun i => .bool (f (a.getD i 0) (b.getD i 0) (c.getD i 0))) = .list ((z3 f a b c).map .bool) := by
  rw [rm3 (fun x y z => PyData.bool (f x y z)) a b c h k, z3_map]
section
variable {P : Program} {w : World} {K : PySem.W.Frag} {mg : Str → Option Value} {base : Heap}
def Fdifferences (ds : List PyData) (d : PyData) : Prop := ∃ a b : Vc, ds = [vec a, vec b] ∧ b.length = a.length ∧ a.length ≤ 8 ∧ d = vec (sub a b)
theorem ok_differences (T : Txt K mg) : FnOk P w K mg base CX0 1 T.t_differences.f T.t_differences.fd ["one", "other"] (Pu K Fdifferences) := by
  refine ok_pure T.t_differences.fn sc_differences (fun ds d ⟨a, b, e, _⟩ => by rw [e]; rfl) fun cdv A outer s H E M hp ds d hr hF => ?_
  obtain ⟨a, b, rfl, hl, h8, rfl⟩ := hF
  refine x_ret (ev_tupleOf T.b_tuple (EvE.of (ev_lc [("mine", 2), ("yours", 3)] (fun i => .int (a.getD i 0 - b.getD i 0)) (ei_zipV T.b_zip (ev_n 0) (ev_n 1) hl) (blkOk_by (N := ["one", "other", "mine", "yours"]) (sc := defScope s_differences) (by decide +kernel)) (fun _ _ _ _ _ i _ => as_2 2 3) (by decide)
    (fun _ _ _ _ _ i _ => ev_sub (ev_n 2) (ev_n 3)) (fun i _ => .int _) (by omega)) (rI2 (fun x y => x - y) hl)))
def Big (x : Int) : Prop := -(2 ^ 64) < x ∧ x < 2 ^ 64
def Fpart_of (ds : List PyData) (d : PyData) : Prop := ∃ (k : Kd) (x : Int), ds = [.str k.s, .int x] ∧ Big x ∧ d = .int (part k x)
theorem ok_part_of (T : Txt K mg) : FnOk P w K mg base CX0 1 T.t_part_of.f T.t_part_of.fd ["kind", "difference"] (Pu K Fpart_of) := by
  refine ok_pure T.t_part_of.fn sc_part_of (fun ds d ⟨a, b, e, _⟩ => by rw [e]; rfl) fun cdv A outer s H E M hp ds d hr hF => ?_
  obtain ⟨k, x, rfl, hx, rfl⟩ := hF
  refine x_ifr (EvT.of (et_eqS (ev_n 0) ev_s) (k_sq k)) (fun h => x_ret ((ev_mulL (ev_n 1) (ev_n 1) hx).imp fun _ e => ?_)) fun h => ?_
  · rw [e, of_decide_eq_true h]
    rfl
  have h1 := of_decide_eq_false h
  refine x_ifr (EvT.of (et_eqS (ev_n 0) ev_s) (k_un k)) (fun h => x_ret ((ev_ite (C := x ≠ 0) (et_neI (ev_n 1) ev_i) (fun _ => ev_i) (fun _ => ev_i)).imp fun _ e => ?_)) fun h => x_ret ((ev_abs T.b_abs (ev_n 1)).imp fun _ e => ?_)
  · rw [e, of_decide_eq_true h]
    by_cases hx : x = 0
    · rw [if_neg (by simpa using hx), show part .un x = 0 from if_pos hx]
    · rw [if_pos hx, show part .un x = 1 from if_neg hx]
  · have h2 := of_decide_eq_false h
    rw [e]
    cases k with
    | sq => exact absurd rfl h1
    | un => exact absurd rfl h2
    | su => rfl
    | mo => rfl
def Fjoined_parts (ds : List PyData) (d : PyData) : Prop := ∃ (k : Kd) (ps : List Int), ds = [.str k.s, .list (ps.map .int)] ∧ (∀ p ∈ ps, 0 ≤ p) ∧ d = .int (joined k ps)
theorem ok_joined_parts (T : Txt K mg) : FnOk P w K mg base CX0 1 T.t_joined_parts.f T.t_joined_parts.fd ["kind", "parts"] (Pu K Fjoined_parts) := by
  refine ok_pure T.t_joined_parts.fn sc_joined_parts (fun ds d ⟨a, b, e, _⟩ => by rw [e]; rfl) fun cdv A outer s H E M hp ds d hr hF => ?_
  obtain ⟨k, ps, rfl, h0, rfl⟩ := hF
  refine x_ret ((ev_ite (C := k = .mo) (EvT.of (et_eqS (ev_n 0) ev_s) (k_mo k)) (fun _ => ev_maxDef T.b_max (ev_n 1) h0) (fun _ => ev_sum T.b_sum (ev_n 1))).imp fun _ e => ?_)
  rw [e]
  cases k <;> rfl
/-- distance of two vectors -/
def Fdistance (ds : List PyData) (d : PyData) : Prop := ∃ (k : Kd) (a b : Vc), ds = [.str k.s, vec a, vec b] ∧ b.length = a.length ∧ a.length ≤ 8 ∧ Bd 1000000 a ∧ Bd 1000000 b ∧ d = .int (dist k a b)
theorem bd_get {m : Int} {a : Vc} (h : Bd m a) (hm : 0 ≤ m) (i : Nat) : -m ≤ a.getD i 0 ∧ a.getD i 0 ≤ m := by
  by_cases hi : i < a.length
  · rw [getD_lt hi]
    exact h _ (List.getElem_mem hi)
  · rw [List.getD_eq_getElem?_getD, List.getElem?_eq_none (by omega)]
    exact ⟨by simpa using hm, hm⟩
theorem ok_distance (T : Txt K mg) : FnOk P w K mg base CX0 2 T.t_distance.f T.t_distance.fd ["kind", "one", "other"] (Pu K Fdistance) := by
  refine ok_pure T.t_distance.fn sc_distance (fun ds d ⟨a, b, c, e, _⟩ => by rw [e]; rfl) fun cdv A outer s H E M hp ds d hr hF => ?_
  obtain ⟨k, a, b, rfl, hl, h8, ha, hb, rfl⟩ := hF
  have hs := bd_sub ha hb
  have hsl := sub_len a b hl.symm
  refine x_ret (ev_call T.t_joined_parts (ok_joined_parts T) hr (ea_cons (ev_n 0) (ea_cons (EvE.of (ev_lc [("difference", 3)] (fun i => .int (part k ((sub a b).getD i 0)))
    (ei_vec (ev_call T.t_differences (ok_differences T) hr (ea_cons (ev_n 1) (ea_cons (ev_n 2) ea_nil)) ⟨a, b, rfl, hl, h8, rfl⟩))
    (blkOk_by (N := ["kind", "one", "other", "difference"]) (sc := defScope s_distance) (by decide +kernel)) (fun _ _ _ _ _ i _ => as_n 3) (by decide)
    (fun _ _ _ _ _ i _ => ev_call T.t_part_of (ok_part_of T) hr (ea_cons (ev_n 0) (ea_cons (ev_n 3) ea_nil)) ⟨k, _, rfl, ?_, rfl⟩) (fun i _ => .int _) (by omega)) (rI1 (part k) (sub a b))) ea_nil)) ⟨k, _, rfl, parts_nonneg k _, rfl⟩)
  have := bd_get hs (by decide) i
  unfold Big
  omega
/-- what the roots want -/
def Rt (a b : Int) : Prop := 0 ≤ a ∧ a < 2 ^ 40 ∧ 0 ≤ b ∧ 4 * a * b < 2 ^ 64
theorem Rt.nonneg {a b : Int} (h : Rt a b) : 0 ≤ 4 * a * b := Int.mul_nonneg (by have := h.1; omega) h.2.2.1
def Fdoubled_root (ds : List PyData) (d : PyData) : Prop := ∃ a b : Int, ds = [.int a, .int b] ∧ Rt a b ∧ d = .int (isq (4 * a * b))
theorem ok_doubled_root (T : Txt K mg) : FnOk P w K mg base CX0 1 T.t_doubled_root.f T.t_doubled_root.fd ["one", "other"] (Pu K Fdoubled_root) := by
  refine ok_pure T.t_doubled_root.fn sc_doubled_root (fun ds d ⟨a, b, e, _⟩ => by rw [e]; rfl) fun cdv A outer s H E M hp ds d hr hF => ?_
  obtain ⟨a, b, rfl, h, rfl⟩ := hF
  exact x_ret (ev_isqrt T.isqrt (ev_mulL (ev_mulL ev_i (ev_n 0) (by decide)) (ev_n 1) (by have := h.1; have := h.2.1; omega)) h.nonneg h.2.2.2)
def Fgap_of (ds : List PyData) (d : PyData) : Prop := ∃ (k : Kd) (a b : Int), ds = [.str k.s, .int a, .int b] ∧ (k = .sq → Rt a b) ∧ d = .int (gap k a b)
theorem ok_gap_of (T : Txt K mg) : FnOk P w K mg base CX0 2 T.t_gap_of.f T.t_gap_of.fd ["kind", "one", "other"] (Pu K Fgap_of) := by
  refine ok_pure T.t_gap_of.fn sc_gap_of (fun ds d ⟨a, b, c, e, _⟩ => by rw [e]; rfl) fun cdv A outer s H E M hp ds d hr hF => ?_
  obtain ⟨k, a, b, rfl, h, rfl⟩ := hF
  refine x_ret ((ev_ite (C := k = .sq) (EvT.of (et_eqS (ev_n 0) ev_s) (k_sq k))
    (fun hk => ev_sub (ev_add (ev_n 1) (ev_n 2)) (ev_call T.t_doubled_root (ok_doubled_root T) hr (ea_cons (ev_n 1) (ea_cons (ev_n 2) ea_nil)) ⟨a, b, rfl, h hk, rfl⟩)) (fun _ => ev_abs T.b_abs (ev_sub (ev_n 1) (ev_n 2)))).imp fun _ e => ?_)
  rw [e]
  unfold gap
  split <;> rfl
def Fleast_beyond (ds : List PyData) (d : PyData) : Prop := ∃ (k : Kd) (a b : Int), ds = [.str k.s, .int a, .int b] ∧ (k = .sq → Rt a b) ∧ d = .int (beyond k a b)
theorem ok_least_beyond (T : Txt K mg) : FnOk P w K mg base CX0 3 T.t_least_beyond.f T.t_least_beyond.fd ["kind", "from_centre", "radius"] (Pu K Fleast_beyond) := by
  refine ok_pure T.t_least_beyond.fn sc_least_beyond (fun ds d ⟨a, b, c, e, _⟩ => by rw [e]; rfl) fun cdv A outer s H E M hp ds d hr hF => ?_
  obtain ⟨k, a, b, rfl, h, rfl⟩ := hF
  refine x_ret ((ev_ite (C := b < a) (et_gt (ev_n 1) (ev_n 2)) (fun hk => ev_call T.t_gap_of (ok_gap_of T) hr (ea_cons (ev_n 0) (ea_cons (ev_n 1) (ea_cons (ev_n 2) ea_nil))) ⟨k, a, b, rfl, h, rfl⟩) (fun _ => ev_i)).imp fun _ e => ?_)
  rw [e]
  unfold beyond
  split <;> rfl
def Fmost_beyond (ds : List PyData) (d : PyData) : Prop := ∃ (k : Kd) (a b : Int), ds = [.str k.s, .int a, .int b] ∧ (k = .sq → Rt a b) ∧ d = .int (most k a b)
theorem ok_most_beyond (T : Txt K mg) : FnOk P w K mg base CX0 3 T.t_most_beyond.f T.t_most_beyond.fd ["kind", "from_centre", "radius"] (Pu K Fmost_beyond) := by
  refine ok_pure T.t_most_beyond.fn sc_most_beyond (fun ds d ⟨a, b, c, e, _⟩ => by rw [e]; rfl) fun cdv A outer s H E M hp ds d hr hF => ?_
  obtain ⟨k, a, b, rfl, h, rfl⟩ := hF
  refine x_setD 3 (ev_add (ev_n 1) (ev_n 2)) ?_
  refine x_ret ((ev_ite (C := k = .sq) (EvT.of (et_eqS (ev_n 0) ev_s) (k_sq k))
    (fun hk => ev_add (ev_n 3) (ev_call T.t_doubled_root (ok_doubled_root T) (hr.mono (by decide)) (ea_cons (ev_n 1) (ea_cons (ev_n 2) ea_nil)) ⟨a, b, rfl, h hk, rfl⟩)) (fun _ => ev_n 3)).imp fun _ e => ?_)
  rw [e]
  unfold most
  split <;> rfl
end
end Ng

set_option Elab.async false
set_option linter.all false
set_option maxRecDepth 100000
set_option maxHeartbeats 4000000
/-! The program's regions. -/
namespace Ng
open PySem PySem.Spec PyProof.Rows L2
theorem w_box (R : Reg) : decide (R.w = ("box" : Str)) = R.isBox := by
  cases R with
  | ball c r => show decide (("ball" : Str) = "box") = false; decide +kernel
  | box l h => show decide (("box" : Str) = "box") = true; decide +kernel
  | cell c a b => show decide (("cell" : Str) = "box") = false; decide +kernel
def Reg.isBall : Reg → Bool
  | .ball _ _ => true
  | _ => false
theorem w_ball (R : Reg) : decide (R.w = ("ball" : Str)) = R.isBall := by
  cases R with
  | ball c r => show decide (("ball" : Str) = "ball") = true; decide +kernel
  | box l h => show decide (("box" : Str) = "ball") = false; decide +kernel
  | cell c a b => show decide (("cell" : Str) = "ball") = false; decide +kernel
theorem isBox_of {R : Reg} (h : R.isBox = true) : ∃ l u, R = .box l u := by
  cases R with
  | box l u => exact ⟨l, u, rfl⟩
  | ball c r => cases h
  | cell c a b => cases h
section
variable {X : Cx} {W : Wd X.K} {Γ : Gm} {e : Expr} {pos p3 : Pos} {j : Nat} {R : Reg}
theorem ei_ints {tg : Expr} {a : Vc} (h : EvD X W Γ e (.list (a.map .int))) : EvI X W Γ tg e a.length fun i => .int (a.getD i 0) :=
  (ei_list (f := fun i => .int (a.getD i 0)) h fun i hi => by rw [← getI a (by simpa using hi)]; exact getD_of hi).congr (by simp) fun i _ => rfl
theorem ev_w (h : EvD X W Γ e R.d) : EvD X W Γ (.Subscript e (.Constant (.int 0) j p3) pos) (.str R.w) := by cases R <;> exact ev_ix0 h rfl
theorem ev_c (h : EvD X W Γ e R.d) : EvD X W Γ (.Subscript e (.Constant (.int 1) j p3) pos) (vec R.c) := by cases R <;> exact ev_ix1 h rfl
variable {elt tg iter : Expr} {scope : Scope} {n : Nat} {f : Nat → PyData} {Γi : Nat → Gm} {js : List Nat} {lpos : Pos} {rest : List Stmt} {P : Post}
theorem x_setLcD (i : Nat) (own : List (Str × Nat)) (g : Nat → PyData) {ds : List PyData} {y : Str} {py : Pos} {spos : Pos} (hi : EvI X W Γ tg iter n f) (blk : BlkOk X.N X.env.scope scope own) (hg : ∀ s H C cl fp i, i < n → AsG (X.blk s H scope (compEnvC scope cl C X.env) fp) W (wipeG Γ (own.map (·.2))) tg (f i) (Γi i) js) (hjs : ∀ j ∈ js, j ∈ own.map (·.2))
    (he : ∀ s H C cl fp i, i < n → EvD (X.blk s H scope (compEnvC scope cl C X.env) fp) W (Γi i) elt (g i)) (hfl : ∀ i, i < n → Fl (g i)) (hn : n ≤ 100000) (hds : PyData.list ((List.range n).map g) = .list ds) (k : ExB X W (Γ.set i (some (.list ds))) rest P)
    (hsw : swapsWith (.ListComp elt [⟨tg, iter, [], 0⟩] scope lpos) (some (.Name y py)) spos.line X.env = pure true := by exact sw_true rfl rfl rfl (by decide +kernel)) (hy : X.N[i]? = some y := by rfl) (hyl : X.env.scope.names.lookup y = some .local := by rfl)
    (hfs : ∀ x, foldedSetIterable iter X.env x = pure x := by intro _; rfl) : ExB X W Γ (.Assign [.Name y py] (.ListComp elt [⟨tg, iter, [], 0⟩] scope lpos) spos :: rest) P :=
  x_setLc i own (Pl := fun i x => x = g i) hi blk hg hjs he (fun i x hi q => q ▸ hfl i hi) hn (fun ds' hd => by rw [each_map hd, hds]; exact k) hsw hy hyl hfs
end
/-- shapes -/
def RL (n : Nat) : Reg → Prop
  | .ball c _ => c.length = n ∧ Bd 1000000 c
  | .box l h => l.length = n ∧ h.length = n
  | .cell c _ _ => c.length = n ∧ Bd 1000000 c
/-- as a region inside of another one -/
def RI (n : Nat) : Reg → Prop
  | .ball c r => c.length = n ∧ Bd 10000 c ∧ 0 ≤ r ∧ r ≤ 400000000
  | .box l h => l.length = n ∧ h.length = n ∧ Bd 10000 l ∧ Bd 10000 h
  | .cell c a b => c.length = n ∧ Bd 10000 c ∧ 0 ≤ a ∧ a ≤ b ∧ b ≤ 400000000
def VI (n : Nat) (v : Vc) : Prop := v.length = n ∧ Bd 10000 v
theorem Bd.mono {m m' : Int} {a : Vc} (h : Bd m a) (hm : m ≤ m') : Bd m' a := fun x hx => by
  have := h x hx
  omega
theorem RI.c {n : Nat} {R : Reg} (h : RI n R) : VI n R.c := by
  cases R with
  | ball c r => exact ⟨h.1, h.2.1⟩
  | box l u => exact ⟨h.1, h.2.2.1⟩
  | cell c a b => exact ⟨h.1, h.2.1⟩
theorem RI.hi {n : Nat} {R : Reg} (h : RI n R) : 0 ≤ R.lo ∧ R.lo ≤ R.hi ∧ R.hi ≤ 400000000 := by
  cases R with
  | ball c r => exact ⟨Int.le_refl 0, h.2.2.1, h.2.2.2⟩
  | box l u => exact ⟨Int.le_refl 0, Int.le_refl 0, by show (0 : Int) ≤ 400000000; decide⟩
  | cell c a b => exact h.2.2
theorem dist_lt {k : Kd} {a b : Vc} {n : Nat} (ha : VI n a) (hb : VI n b) (hn : n ≤ 8) : 0 ≤ dist k a b ∧ dist k a b ≤ 3200000000 := by
  refine ⟨dist_nonneg k a b, ?_⟩
  have := dist_le k (m := 10000) (by decide) ha.2 hb.2 (ha.1.trans hb.1.symm) (by rw [ha.1]; exact hn)
  exact this
theorem rt_of {x y : Int} (h0 : 0 ≤ x) (h1 : x ≤ 3200000000) (h2 : 0 ≤ y) (h3 : y ≤ 400000000) : Rt x y := by
  refine ⟨h0, by omega, h2, ?_⟩
  have e : 4 * x * y ≤ 4 * 3200000000 * 400000000 := Int.mul_le_mul (by omega) h3 h2 (by omega)
  omega
section
variable {P : Program} {w : World} {K : PySem.W.Frag} {mg : Str → Option Value} {base : Heap}
def Fshell_of (ds : List PyData) (d : PyData) : Prop := ∃ R : Reg, ds = [R.d] ∧ R.isBox = false ∧ d = .tuple [.int R.lo, .int R.hi]
theorem ok_shell_of (T : Txt K mg) : FnOk P w K mg base CX0 1 T.t_shell_of.f T.t_shell_of.fd ["region"] (Pu K Fshell_of) := by
  refine ok_pure T.t_shell_of.fn sc_shell_of (fun ds d ⟨a, e, _⟩ => by rw [e]; rfl) fun cdv A outer s H E M hp ds d hr hF => ?_
  obtain ⟨R, rfl, hb, rfl⟩ := hF
  refine x_ret (ev_if (EvT.of (et_eqS (ev_w (ev_n 0)) ev_s) (w_ball R)) (fun h => ?_) fun h => ?_)
  · cases R with
    | ball c r => exact ev_tup (ea_cons ev_i (ea_cons (ev_ix2 (ev_n 0) rfl) ea_nil))
    | box l u => cases h
    | cell c a b => cases h
  · cases R with
    | cell c a b => exact ev_tup (ea_cons (ev_ix2 (ev_n 0) rfl) (ea_cons (ev_ix3 (ev_n 0) rfl) ea_nil))
    | box l u => cases hb
    | ball c r => cases h
def Fholds_vector (ds : List PyData) (d : PyData) : Prop := ∃ (k : Kd) (R : Reg) (v : Vc) (n : Nat), ds = [.str k.s, R.d, vec v] ∧ n ≤ 8 ∧ RL n R ∧ v.length = n ∧ Bd 1000000 v ∧ d = .bool (holds k R v)
theorem ok_holds_vector (T : Txt K mg) : FnOk P w K mg base CX0 3 T.t_holds_vector.f T.t_holds_vector.fd ["kind", "region", "vector"] (Pu K Fholds_vector) := by
  refine ok_pure T.t_holds_vector.fn sc_holds_vector (fun ds d ⟨a, b, c, n, e, _⟩ => by rw [e]; rfl) fun cdv A outer s H E M hp ds d hr hF => ?_
  obtain ⟨k, R, v, n, rfl, h8, hR, hv, hbv, rfl⟩ := hF
  refine x_ifr (EvT.of (et_eqS (ev_w (ev_n 1)) ev_s) (w_box R)) (fun h => ?_) fun h => ?_
  · obtain ⟨l, u, rfl⟩ := isBox_of h
    obtain ⟨h1, h2⟩ := hR
    refine x_ret ((ev_all T.b_all (EvE.of (ev_lc [("low", 3), ("part", 4), ("high", 5)] (fun i => .bool (decide (l.getD i 0 ≤ v.getD i 0 ∧ v.getD i 0 ≤ u.getD i 0)))
      (ei_zipV3 T.b_zip (ev_ix1 (ev_n 1) rfl) (ev_n 2) (ev_ix2 (ev_n 1) rfl) (by show v.length = l.length; omega) (by show u.length = l.length; omega)) (blkOk_by (N := ["kind", "region", "vector", "low", "part", "high", "least", "greatest"]) (sc := defScope s_holds_vector) (by decide +kernel))
      (fun _ _ _ _ _ i _ => as_3 3 4 5) (by decide) (fun _ _ _ _ _ i _ => ev_le2 (ev_n 3) (ev_n 4) (ev_n 5)) (fun i _ => .bl _) (by show l.length ≤ 100000; omega))
      (rB3 (fun a x b => decide (a ≤ x ∧ x ≤ b)) (show v.length = l.length by omega) (show u.length = l.length by omega)))).imp fun _ e => e)
  · refine x_two 6 7 (ev_call T.t_shell_of (ok_shell_of T) (hr.mono (by decide)) (ea_cons (ev_n 1) ea_nil) ⟨R, rfl, h, rfl⟩) ?_
    have hc : R.c.length = n ∧ Bd 1000000 R.c := by
      cases R with
      | ball c r => exact hR
      | cell c a b => exact hR
      | box l u => cases h
    refine x_ret ((ev_le2 (ev_n 6) (ev_call T.t_distance (ok_distance T) hr (ea_cons (ev_n 0) (ea_cons (ev_c (ev_n 1)) (ea_cons (ev_n 2) ea_nil))) ⟨k, R.c, v, rfl, by omega, by omega, hc.2, hbv, rfl⟩) (ev_n 7)).imp fun _ e => ?_)
    rw [e]
    cases R with
    | ball c r => rfl
    | cell c a b => rfl
    | box l u => cases h
def Fgap_to (ds : List PyData) (d : PyData) : Prop := ∃ l h p : Int, ds = [.int l, .int h, .int p] ∧ d = .int (gapTo l h p)
theorem ok_gap_to (T : Txt K mg) : FnOk P w K mg base CX0 1 T.t_gap_to.f T.t_gap_to.fd ["low", "high", "part"] (Pu K Fgap_to) := by
  refine ok_pure T.t_gap_to.fn sc_gap_to (fun ds d ⟨a, b, c, e, _⟩ => by rw [e]; rfl) fun cdv A outer s H E M hp ds d hr hF => ?_
  obtain ⟨l, h, p, rfl, rfl⟩ := hF
  refine x_ifr (et_lt (ev_n 2) (ev_n 0)) (fun q => x_ret ((ev_sub (ev_n 0) (ev_n 2)).imp fun _ e => ?_)) fun q => x_ret ((ev_ite (C := h < p) (et_gt (ev_n 2) (ev_n 1)) (fun _ => ev_sub (ev_n 2) (ev_n 1)) (fun _ => ev_i)).imp fun _ e => ?_)
  · rw [e]
    unfold gapTo
    rw [if_pos (of_decide_eq_true q)]
  · rw [e]
    unfold gapTo
    rw [if_neg (of_decide_eq_false q)]
    split <;> rfl
def Froom_to (ds : List PyData) (d : PyData) : Prop := ∃ l h p : Int, ds = [.int l, .int h, .int p] ∧ d = .int (roomTo l h p)
theorem ok_room_to (T : Txt K mg) : FnOk P w K mg base CX0 1 T.t_room_to.f T.t_room_to.fd ["low", "high", "part"] (Pu K Froom_to) := by
  refine ok_pure T.t_room_to.fn sc_room_to (fun ds d ⟨a, b, c, e, _⟩ => by rw [e]; rfl) fun cdv A outer s H E M hp ds d hr hF => ?_
  obtain ⟨l, h, p, rfl, rfl⟩ := hF
  exact x_ret (ev_max2 T.b_max (ev_abs T.b_abs (ev_sub (ev_n 2) (ev_n 0))) (ev_abs T.b_abs (ev_sub (ev_n 1) (ev_n 2))))
def Ffloor_of_shell (ds : List PyData) (d : PyData) : Prop := ∃ (k : Kd) (a b near far : Int), ds = [.str k.s, .tuple [.int a, .int b], .int near, .int far] ∧ (k = .sq → Rt near b ∧ Rt a far) ∧ d = .int (shellF k a b near far)
theorem ok_floor_of_shell (T : Txt K mg) : FnOk P w K mg base CX0 4 T.t_floor_of_shell.f T.t_floor_of_shell.fd ["kind", "shell", "near", "far"] (Pu K Ffloor_of_shell) := by
  refine ok_pure T.t_floor_of_shell.fn sc_floor_of_shell (fun ds d ⟨k, a, b, x, y, e, _⟩ => by rw [e]; rfl) fun cdv A outer s H E M hp ds d hr hF => ?_
  obtain ⟨k, a, b, x, y, rfl, hk, rfl⟩ := hF
  refine x_two 4 5 (ev_n 1) ?_
  refine x_ifr (et_gt (ev_n 2) (ev_n 5)) (fun q => x_ret ((ev_call T.t_least_beyond (ok_least_beyond T) hr (ea_cons (ev_n 0) (ea_cons (ev_n 2) (ea_cons (ev_n 5) ea_nil))) ⟨k, x, b, rfl, fun e => (hk e).1, rfl⟩).imp fun _ e => ?_)) fun q =>
    x_ret ((ev_ite (C := y < a) (et_lt (ev_n 3) (ev_n 4)) (fun _ => ev_call T.t_gap_of (ok_gap_of T) (hr.mono (by decide)) (ea_cons (ev_n 0) (ea_cons (ev_n 4) (ea_cons (ev_n 3) ea_nil))) ⟨k, a, y, rfl, fun e => (hk e).2, rfl⟩) (fun _ => ev_i)).imp fun _ e => ?_)
  · rw [e]
    unfold shellF
    rw [if_pos (of_decide_eq_true q)]
  · rw [e]
    unfold shellF
    rw [if_neg (of_decide_eq_false q)]
    split <;> rfl
theorem gapTo_le {l h p m : Int} (hl : -m ≤ l ∧ l ≤ m) (hh : -m ≤ h ∧ h ≤ m) (hp : -m ≤ p ∧ p ≤ m) : 0 ≤ gapTo l h p ∧ gapTo l h p ≤ 2 * m := by
  unfold gapTo
  split
  · omega
  · split <;> omega
theorem roomTo_le {l h p m : Int} (hl : -m ≤ l ∧ l ≤ m) (hh : -m ≤ h ∧ h ≤ m) (hp : -m ≤ p ∧ p ≤ m) : 0 ≤ roomTo l h p ∧ roomTo l h p ≤ 2 * m := by
  unfold roomTo
  split <;> split <;> omega
theorem z3_getD (f : Int → Int → Int → Int) {a b c : Vc} {i : Nat} (h : b.length = a.length) (k : c.length = a.length) (hi : i < a.length) : (z3 f a b c).getD i 0 = f (a.getD i 0) (b.getD i 0) (c.getD i 0) := by
  rw [List.getD_eq_getElem?_getD, z3_get f a b c i h k hi]
  rfl
/-- floors, ceilings -/
def Ffloor_of (ds : List PyData) (d : PyData) : Prop := ∃ (k : Kd) (R : Reg) (v : Vc) (n : Nat), ds = [.str k.s, R.d, vec v] ∧ n ≤ 8 ∧ RI n R ∧ VI n v ∧ d = .int (floorR k R v)
theorem ok_floor_of (T : Txt K mg) : FnOk P w K mg base CX0 5 T.t_floor_of.f T.t_floor_of.fd ["kind", "region", "vector"] (Pu K Ffloor_of) := by
  refine ok_pure T.t_floor_of.fn sc_floor_of (fun ds d ⟨k, a, b, n, e, _⟩ => by rw [e]; rfl) fun cdv A outer s H E M hp ds d hr hF => ?_
  obtain ⟨k, R, v, n, rfl, h8, hR, hv, rfl⟩ := hF
  refine x_ifr (EvT.of (et_eqS (ev_w (ev_n 1)) ev_s) (w_box R)) (fun h => ?_) fun h => ?_
  · obtain ⟨l, u, rfl⟩ := isBox_of h
    obtain ⟨h1, h2, b1, b2⟩ := hR
    have e2 : u.length = l.length := by omega
    have e3 : v.length = l.length := by have := hv.1; omega
    refine x_setLcD 3 [("low", 4), ("high", 5), ("part", 6)] (fun i => .int (gapTo (l.getD i 0) (u.getD i 0) (v.getD i 0))) (ei_zipV3 T.b_zip (ev_ix1 (ev_n 1) rfl) (ev_ix2 (ev_n 1) rfl) (ev_n 2) e2 e3)
      (blkOk_by (N := ["kind", "region", "vector", "gaps", "low", "high", "part", "gap", "away"]) (sc := defScope s_floor_of) (by decide +kernel)) (fun _ _ _ _ _ i _ => as_3 4 5 6) (by decide)
      (fun _ _ _ _ _ i _ => ev_call T.t_gap_to (ok_gap_to T) (hr.mono (by decide)) (ea_cons (ev_n 4) (ea_cons (ev_n 5) (ea_cons (ev_n 6) ea_nil))) ⟨_, _, _, rfl, rfl⟩) (fun i _ => .int _) (by show l.length ≤ 100000; omega) (rI3 gapTo e2 e3) ?_
    refine x_ret (ev_call T.t_joined_parts (ok_joined_parts T) (hr.mono (by decide)) (ea_cons (ev_n 0) (ea_cons (EvE.of (ev_lc [("gap", 7)] (fun i => .int (part k ((z3 gapTo l u v).getD i 0)))
      (ei_ints (ev_n 3))
      (blkOk_by (N := ["kind", "region", "vector", "gaps", "low", "high", "part", "gap", "away"]) (sc := defScope s_floor_of) (by decide +kernel)) (fun _ _ _ _ _ i _ => as_n 7) (by decide)
      (fun _ _ _ _ _ i hi => ev_call T.t_part_of (ok_part_of T) (hr.mono (by decide)) (ea_cons (ev_n 0) (ea_cons (ev_n 7) ea_nil)) ⟨k, _, rfl, ?_, rfl⟩) (fun i _ => .int _) (by rw [z3_len _ _ _ _ e2 e3]; omega)) (rI1 (part k) (z3 gapTo l u v))) ea_nil)) ⟨k, _, rfl, parts_nonneg k _, rfl⟩)
    rw [z3_len _ _ _ _ e2 e3] at hi
    rw [z3_getD _ e2 e3 hi]
    have := gapTo_le (bd_get b1 (by decide) i) (bd_get b2 (by decide) i) (bd_get hv.2 (by decide) i)
    unfold Big
    omega
  · have hc := RI.c hR
    have hh := RI.hi hR
    have hd := dist_lt (k := k) hc hv h8
    have hrt : Rt R.lo (dist k R.c v) := by
      have e : 4 * R.lo * dist k R.c v ≤ 4 * 400000000 * 3200000000 := Int.mul_le_mul (by omega) hd.2 hd.1 (by omega)
      exact ⟨hh.1, by omega, hd.1, by omega⟩
    refine x_setD 8 (ev_call T.t_distance (ok_distance T) (hr.mono (by decide)) (ea_cons (ev_n 0) (ea_cons (ev_c (ev_n 1)) (ea_cons (ev_n 2) ea_nil))) ⟨k, R.c, v, rfl, hv.1.trans hc.1.symm, by rw [hc.1]; exact h8, hc.2.mono (by decide), hv.2.mono (by decide), rfl⟩) ?_
    refine x_ret ((ev_call T.t_floor_of_shell (ok_floor_of_shell T) hr (ea_cons (ev_n 0) (ea_cons (ev_call T.t_shell_of (ok_shell_of T) (hr.mono (by decide)) (ea_cons (ev_n 1) ea_nil) ⟨R, rfl, h, rfl⟩) (ea_cons (ev_n 8) (ea_cons (ev_n 8) ea_nil))))
      ⟨k, R.lo, R.hi, _, _, rfl, fun _ => ⟨rt_of hd.1 hd.2 (by omega) hh.2.2, hrt⟩, rfl⟩).imp fun _ e => ?_)
    rw [e]
    cases R with
    | ball c r => rfl
    | cell c a b => rfl
    | box l u => cases h
def Fcapped (ds : List PyData) (d : PyData) : Prop := ∃ (k : Kd) (x n : Int), ds = [.str k.s, .int x, .int n] ∧ d = .int (cap k x n)
theorem ok_capped (T : Txt K mg) : FnOk P w K mg base CX0 1 T.t_capped.f T.t_capped.fd ["kind", "number", "places"] (Pu K Fcapped) := by
  refine ok_pure T.t_capped.fn sc_capped (fun ds d ⟨k, a, b, e, _⟩ => by rw [e]; rfl) fun cdv A outer s H E M hp ds d hr hF => ?_
  obtain ⟨k, x, n, rfl, rfl⟩ := hF
  refine x_ret ((ev_ite (C := k = .un) (EvT.of (et_eqS (ev_n 0) ev_s) (k_un k)) (fun _ => ev_min2 T.b_min (ev_n 1) (ev_n 2)) (fun _ => ev_n 1)).imp fun _ e => ?_)
  rw [e]
  unfold cap
  split <;> rfl
def Fceiling_of (ds : List PyData) (d : PyData) : Prop := ∃ (k : Kd) (R : Reg) (v : Vc) (n : Nat), ds = [.str k.s, R.d, vec v] ∧ n ≤ 8 ∧ RI n R ∧ VI n v ∧ d = .int (ceilR k R v)
theorem ok_ceiling_of (T : Txt K mg) : FnOk P w K mg base CX0 5 T.t_ceiling_of.f T.t_ceiling_of.fd ["kind", "region", "vector"] (Pu K Fceiling_of) := by
  refine ok_pure T.t_ceiling_of.fn sc_ceiling_of (fun ds d ⟨k, a, b, n, e, _⟩ => by rw [e]; rfl) fun cdv A outer s H E M hp ds d hr hF => ?_
  obtain ⟨k, R, v, n, rfl, h8, hR, hv, rfl⟩ := hF
  refine x_ifr (EvT.of (et_eqS (ev_w (ev_n 1)) ev_s) (w_box R)) (fun h => ?_) fun h => ?_
  · obtain ⟨l, u, rfl⟩ := isBox_of h
    obtain ⟨h1, h2, b1, b2⟩ := hR
    have e2 : u.length = l.length := by omega
    have e3 : v.length = l.length := by have := hv.1; omega
    refine x_setLcD 3 [("low", 4), ("high", 5), ("part", 6)] (fun i => .int (roomTo (l.getD i 0) (u.getD i 0) (v.getD i 0))) (ei_zipV3 T.b_zip (ev_ix1 (ev_n 1) rfl) (ev_ix2 (ev_n 1) rfl) (ev_n 2) e2 e3)
      (blkOk_by (N := ["kind", "region", "vector", "rooms", "low", "high", "part", "room", "away"]) (sc := defScope s_ceiling_of) (by decide +kernel)) (fun _ _ _ _ _ i _ => as_3 4 5 6) (by decide)
      (fun _ _ _ _ _ i _ => ev_call T.t_room_to (ok_room_to T) (hr.mono (by decide)) (ea_cons (ev_n 4) (ea_cons (ev_n 5) (ea_cons (ev_n 6) ea_nil))) ⟨_, _, _, rfl, rfl⟩) (fun i _ => .int _) (by show l.length ≤ 100000; omega) (rI3 roomTo e2 e3) ?_
    refine x_ret (ev_call T.t_joined_parts (ok_joined_parts T) (hr.mono (by decide)) (ea_cons (ev_n 0) (ea_cons (EvE.of (ev_lc [("room", 7)] (fun i => .int (part k ((z3 roomTo l u v).getD i 0)))
      (ei_ints (ev_n 3))
      (blkOk_by (N := ["kind", "region", "vector", "rooms", "low", "high", "part", "room", "away"]) (sc := defScope s_ceiling_of) (by decide +kernel)) (fun _ _ _ _ _ i _ => as_n 7) (by decide)
      (fun _ _ _ _ _ i hi => ev_call T.t_part_of (ok_part_of T) (hr.mono (by decide)) (ea_cons (ev_n 0) (ea_cons (ev_n 7) ea_nil)) ⟨k, _, rfl, ?_, rfl⟩) (fun i _ => .int _) (by rw [z3_len _ _ _ _ e2 e3]; omega)) (rI1 (part k) (z3 roomTo l u v))) ea_nil)) ⟨k, _, rfl, parts_nonneg k _, rfl⟩)
    rw [z3_len _ _ _ _ e2 e3] at hi
    rw [z3_getD _ e2 e3 hi]
    have := roomTo_le (bd_get b1 (by decide) i) (bd_get b2 (by decide) i) (bd_get hv.2 (by decide) i)
    unfold Big
    omega
  · have hc := RI.c hR
    have hh := RI.hi hR
    have hd := dist_lt (k := k) hc hv h8
    refine x_setD 8 (ev_call T.t_distance (ok_distance T) (hr.mono (by decide)) (ea_cons (ev_n 0) (ea_cons (ev_c (ev_n 1)) (ea_cons (ev_n 2) ea_nil))) ⟨k, R.c, v, rfl, hv.1.trans hc.1.symm, by rw [hc.1]; exact h8, hc.2.mono (by decide), hv.2.mono (by decide), rfl⟩) ?_
    refine x_ret ((ev_call T.t_capped (ok_capped T) (hr.mono (by decide)) (ea_cons (ev_n 0) (ea_cons (ev_call T.t_most_beyond (ok_most_beyond T) (hr.mono (by decide)) (ea_cons (ev_n 0) (ea_cons (ev_n 8) (ea_cons (ev_ix1 (ev_call T.t_shell_of (ok_shell_of T) (hr.mono (by decide)) (ea_cons (ev_n 1) ea_nil) ⟨R, rfl, h, rfl⟩) rfl) ea_nil)))
      ⟨k, _, R.hi, rfl, fun _ => rt_of hd.1 hd.2 (by omega) hh.2.2, rfl⟩) (ea_cons (ev_lenT T.b_len (ev_n 2)) ea_nil))) ⟨k, _, _, rfl, rfl⟩).imp fun _ e => ?_)
    rw [e, List.length_map]
    cases R with
    | ball c r => rfl
    | cell c a b => rfl
    | box l u => cases h
end
end Ng

set_option Elab.async false
set_option linter.all false
set_option maxRecDepth 100000
set_option maxHeartbeats 4000000
/-! The program's boxes; one region in another. -/
namespace Ng
open PySem PySem.Spec PyProof.Rows L2
theorem eqv_ints : ∀ a b : Vc, PyData.eqvAll (a.map .int) (b.map .int) = decide (a = b)
  | [], [] => by simp [PyData.eqvAll]
  | [], _ :: _ => by simp [PyData.eqvAll]
  | _ :: _, [] => by simp [PyData.eqvAll]
  | x :: a, y :: b => by
    rw [List.map_cons, List.map_cons, PyData.eqvAll, eqv_ints a b]
    by_cases h : x = y <;> by_cases k : a = b <;> simp [PyData.eqv, h, k]
theorem eqv_vec (a b : Vc) : PyData.eqv (vec a) (vec b) = decide (a = b) := by
  unfold vec
  rw [PyData.eqv, eqv_ints]
theorem eqv_box (l u a b : Vc) : PyData.eqv (Reg.box l u).d (Reg.box a b).d = (decide (l = a) && decide (u = b)) := by
  unfold Reg.d
  simp only [PyData.eqv, PyData.eqvAll, eqv_vec, beq_self_eq_true, Bool.true_and, Bool.and_true]
theorem lay_ints : ∀ a : Vc, PyData.canLayAll0 (a.map .int) = true
  | [] => by simp [PyData.canLayAll0]
  | x :: a => by simp [PyData.canLayAll0, PyData.canLay0, lay_ints a]
theorem nod_ints : ∀ a : Vc, PyData.hasDictAll (a.map .int) = false
  | [] => by simp [PyData.hasDictAll]
  | x :: a => by simp [PyData.hasDictAll, PyData.hasDict, nod_ints a]
theorem word_lay (R : Reg) : (PyData.str R.w).canLay0 = true := by
  cases R with
  | ball c r => show (PyData.str "ball").canLay0 = true; decide +kernel
  | box l h => show (PyData.str "box").canLay0 = true; decide +kernel
  | cell c a b => show (PyData.str "cell").canLay0 = true; decide +kernel
theorem shaped_reg (R : Reg) : SeqAt.shaped R.d = true := by
  have wl := word_lay R
  have hd : R.d.canLay0 = true := by
    cases R with
    | ball c r => simp only [Reg.d, vec, PyData.canLay0, PyData.canLayAll0, lay_ints, Bool.and_true, Bool.true_and] ; exact wl
    | box l h => simp only [Reg.d, vec, PyData.canLay0, PyData.canLayAll0, lay_ints, Bool.and_true, Bool.true_and] ; exact wl
    | cell c a b => simp only [Reg.d, vec, PyData.canLay0, PyData.canLayAll0, lay_ints, Bool.and_true, Bool.true_and] ; exact wl
  have dp : R.d.depth ≤ 64 := by
    cases R <;> simp [Reg.d, vec, PyData.depth, PyData.depthAll, depth_ints]
  unfold SeqAt.shaped
  rw [hd, decide_eq_true dp]
  rfl
theorem nod_reg (R : Reg) : R.d.hasDict = false := by
  cases R <;> simp [Reg.d, vec, PyData.hasDict, PyData.hasDictAll, nod_ints]
theorem rvs_reg (R S : Reg) : rvs R.d S.d := ⟨shaped_reg R, shaped_reg S, nod_reg R, nod_reg S⟩
def RO (n : Nat) : Reg → Prop
  | .ball c _ => VI n c
  | .box l h => l.length = n ∧ h.length = n
  | .cell c _ _ => VI n c
theorem RI.o {n : Nat} {R : Reg} (h : RI n R) : RO n R := by
  cases R with
  | ball c r => exact ⟨h.1, h.2.1⟩
  | box l u => exact ⟨h.1, h.2.1⟩
  | cell c a b => exact ⟨h.1, h.2.1⟩
theorem RO.l {n : Nat} {R : Reg} (h : RO n R) : RL n R := by
  cases R with
  | ball c r => exact ⟨h.1, h.2.mono (by decide)⟩
  | box l u => exact h
  | cell c a b => exact ⟨h.1, h.2.mono (by decide)⟩
section
variable {X : Cx} {W : Wd X.K} {Γ : Gm}
theorem ei_zipNV {a b : Expr} {p pos tpos : Pos} {nm : Str} {u v : Vc} (hm : X.mg "zip" = none) (h : EvD X W Γ a (vec u)) (k : EvD X W Γ b (vec v)) (hl : v.length = u.length) (hg : Gl X "zip" := by rfl)
    (hs : starEach [a, b] X.env = (false, eval a X.env) :: starEach [b] X.env := by rfl) (hs2 : starEach [b] X.env = (false, eval b X.env) :: starEach [] X.env := by rfl) (hpl : (backTo pos (starEach [b] X.env)).any (·.1) = false := by rfl) :
    EvI X W Γ (.Name nm tpos) (.Call (.Name "zip" p) [a, b] [] pos) u.length fun i => .tuple [.int (u.getD i 0), .int (v.getD i 0)] :=
  (ei_zipN hm h k (by simp [hl]) hg hs hs2 hpl).congr (by simp) fun i hi => by
    rw [List.length_map] at hi
    rw [getI u hi, getI v (by omega)]
end
section
variable {P : Program} {w : World} {K : PySem.W.Frag} {mg : Str → Option Value} {base : Heap}
def Flowered (ds : List PyData) (d : PyData) : Prop := ∃ (l u a b : Vc) (n : Nat), ds = [(Reg.box l u).d, vec a, vec b] ∧ n ≤ 8 ∧ l.length = n ∧ u.length = n ∧ a.length = n ∧ b.length = n ∧ d = (Reg.box (List.zipWith min l a) (List.zipWith max u b)).d
theorem ok_lowered_and_raised (T : Txt K mg) : FnOk P w K mg base CX0 1 T.t_lowered_and_raised.f T.t_lowered_and_raised.fd ["box", "lows", "highs"] (Pu K Flowered) := by
  refine ok_pure T.t_lowered_and_raised.fn sc_lowered_and_raised (fun ds d ⟨l, u, a, b, n, e, _⟩ => by rw [e]; rfl) fun cdv A outer s H E M hp ds d hr hF => ?_
  obtain ⟨l, u, a, b, n, rfl, h8, h1, h2, h3, h4, rfl⟩ := hF
  have e3 : a.length = l.length := by omega
  have e4 : b.length = u.length := by omega
  refine x_setD 3 (ev_tupleOf T.b_tuple (EvE.of (ev_lc [("pair", 4)] (fun i => .int (min (l.getD i 0) (a.getD i 0)))
      (ei_zipNV T.b_zip (ev_ix1 (ev_n 0) rfl) (ev_n 1) e3) (blkOk_by (N := ["box", "lows", "highs", "lower", "pair"]) (sc := defScope s_lowered_and_raised) (by decide +kernel))
      (fun _ _ _ _ _ i _ => as_n 4) (by decide) (fun _ _ _ _ _ i _ => ev_minP T.b_min (ev_n 4)) (fun i _ => .int _) (by omega)) (rI2 (fun x y => min x y) e3))) ?_
  exact x_ret (ev_tup (ea_cons ev_s (ea_cons (ev_n 3) (ea_cons (ev_tupleOf T.b_tuple (EvE.of (ev_lc [("pair", 4)] (fun i => .int (max (u.getD i 0) (b.getD i 0)))
      (ei_zipNV T.b_zip (ev_ix2 (ev_n 0) rfl) (ev_n 2) e4) (blkOk_by (N := ["box", "lows", "highs", "lower", "pair"]) (sc := defScope s_lowered_and_raised) (by decide +kernel))
      (fun _ _ _ _ _ i _ => as_n 4) (by decide) (fun _ _ _ _ _ i _ => ev_maxP T.b_max (ev_n 4)) (fun i _ => .int _) (by omega)) (rI2 (fun x y => max x y) e4))) ea_nil))))
def optI : Option Int → PyData
  | none => .none
  | some i => .int i
def Fside (ds : List PyData) (d : PyData) : Prop := ∃ (k : Kd) (r : Int), ds = [.str k.s, .int r] ∧ 0 ≤ r ∧ r < 2 ^ 64 ∧ d = optI (side k r)
theorem ok_side_of (T : Txt K mg) : FnOk P w K mg base CX0 1 T.t_side_of.f T.t_side_of.fd ["kind", "radius"] (Pu K Fside) := by
  refine ok_pure T.t_side_of.fn sc_side_of (fun ds d ⟨l, u, e, _⟩ => by rw [e]; rfl) fun cdv A outer s H E M hp ds d hr hF => ?_
  obtain ⟨k, r, rfl, h0, h1, rfl⟩ := hF
  refine x_ifr (EvT.of (et_eqS (ev_n 0) ev_s) (k_un k)) (fun h => x_ret ((ev_ite (C := r = 0) (et_eqI (ev_n 1) ev_i) (fun _ => ev_i) (fun _ => ev_non)).imp fun _ e => ?_)) fun h => x_ret ((ev_ite (C := k = .sq) (EvT.of (et_eqS (ev_n 0) ev_s) (k_sq k)) (fun _ => ev_isqrt T.isqrt (ev_n 1) h0 h1) (fun _ => ev_n 1)).imp fun _ e => ?_)
  · rw [e, of_decide_eq_true h]
    unfold side
    by_cases hr : r = 0 <;> simp [hr, optI]
  · rw [e]
    have := of_decide_eq_false h
    cases k <;> first | rfl | exact absurd rfl this
def Faround (ds : List PyData) (d : PyData) : Prop := ∃ (k : Kd) (R : Reg) (n : Nat), ds = [.str k.s, R.d] ∧ n ≤ 8 ∧ RI n R ∧ d = boxD (around k R)
theorem around_nb {k : Kd} {R : Reg} (h : R.isBox = false) : around k R = (side k R.hi).map fun s => (R.c.map (· - s), R.c.map (· + s)) := by
  cases R with
  | ball c r => rfl
  | cell c a b => rfl
  | box l u => cases h
theorem ok_box_around (T : Txt K mg) : FnOk P w K mg base CX0 2 T.t_box_around.f T.t_box_around.fd ["kind", "region"] (Pu K Faround) := by
  refine ok_pure T.t_box_around.fn sc_box_around (fun ds d ⟨l, u, n, e, _⟩ => by rw [e]; rfl) fun cdv A outer s H E M hp ds d hr hF => ?_
  obtain ⟨k, R, n, rfl, h8, hR, rfl⟩ := hF
  refine x_ifr (EvT.of (et_eqS (ev_w (ev_n 1)) ev_s) (w_box R)) (fun h => ?_) fun h => ?_
  · obtain ⟨l, u, rfl⟩ := isBox_of h
    exact x_ret (ev_n 1)
  · have hh := RI.hi hR
    have hc := RI.c hR
    refine x_setD 2 (ev_call T.t_side_of (ok_side_of T) (hr.mono (by decide)) (ea_cons (ev_n 0) (ea_cons (ev_ix1 (ev_call T.t_shell_of (ok_shell_of T) (hr.mono (by decide)) (ea_cons (ev_n 1) ea_nil) ⟨R, rfl, h, rfl⟩) rfl) ea_nil)) ⟨k, R.hi, rfl, by omega, by omega, rfl⟩) ?_
    rw [around_nb h]
    cases side k R.hi with
    | none => exact x_ifr (et_isN (ev_n 2)) (fun _ => x_ret ev_non) (fun z => Bool.noConfusion z)
    | some t =>
      refine x_ifr (et_isN (ev_n 2)) (fun z => Bool.noConfusion z) fun _ => ?_
      exact x_ret (ev_tup (ea_cons ev_s (ea_cons (ev_tupleOf T.b_tuple (EvE.of (ev_lc [("part", 3)] (fun i => .int (R.c.getD i 0 - t))
          (ei_vec (ev_c (ev_n 1))) (blkOk_by (N := ["kind", "region", "side", "part"]) (sc := defScope s_box_around) (by decide +kernel))
          (fun _ _ _ _ _ i _ => as_n 3) (by decide) (fun _ _ _ _ _ i _ => ev_sub (ev_n 3) (ev_n 2)) (fun i _ => .int _) (by have := hc.1; omega)) (rI1 (· - t) R.c)))
        (ea_cons (ev_tupleOf T.b_tuple (EvE.of (ev_lc [("part", 3)] (fun i => .int (R.c.getD i 0 + t))
          (ei_vec (ev_c (ev_n 1))) (blkOk_by (N := ["kind", "region", "side", "part"]) (sc := defScope s_box_around) (by decide +kernel))
          (fun _ _ _ _ _ i _ => as_n 3) (by decide) (fun _ _ _ _ _ i _ => ev_add (ev_n 3) (ev_n 2)) (fun i _ => .int _) (by have := hc.1; omega)) (rI1 (· + t) R.c))) ea_nil))))
def Finside (ds : List PyData) (d : PyData) : Prop := ∃ (k : Kd) (I O : Reg) (n : Nat), ds = [.str k.s, I.d, O.d] ∧ n ≤ 8 ∧ RI n I ∧ RO n O ∧ d = .bool (inside k I O)
theorem around_len {k : Kd} {n : Nat} {R : Reg} {a b : Vc} (h : RI n R) (e : around k R = some (a, b)) : a.length = n ∧ b.length = n := by
  cases hb : R.isBox with
  | true =>
    obtain ⟨l, u, rfl⟩ := isBox_of hb
    cases e
    exact ⟨h.1, h.2.1⟩
  | false =>
    rw [around_nb hb] at e
    obtain ⟨t, _, e⟩ := Option.map_eq_some_iff.mp e
    cases e
    exact ⟨by rw [List.length_map]; exact h.c.1, by rw [List.length_map]; exact h.c.1⟩
theorem ok_is_inside (T : Txt K mg) : FnOk P w K mg base CX0 6 T.t_is_inside.f T.t_is_inside.fd ["kind", "inner", "outer"] (Pu K Finside) := by
  refine ok_pure T.t_is_inside.fn sc_is_inside (fun ds d ⟨l, u, o, n, e, _⟩ => by rw [e]; rfl) fun cdv A outer s H E M hp ds d hr hF => ?_
  obtain ⟨k, I, O, n, rfl, h8, hI, hO, rfl⟩ := hF
  refine x_ifr (EvT.of (et_eqS (ev_w (ev_n 2)) ev_s) (w_box O)) (fun h => ?_) fun h => ?_
  · obtain ⟨l, u, rfl⟩ := isBox_of h
    refine x_setD 3 (ev_call T.t_box_around (ok_box_around T) (hr.mono (by decide)) (ea_cons (ev_n 0) (ea_cons (ev_n 1) ea_nil)) ⟨k, I, n, rfl, h8, hI, rfl⟩) ?_
    cases ha : around k I with
    | none =>
      refine x_ret ((ev_and (q := false) (ev_notN (ev_n 3)) (fun z => Bool.noConfusion z)).imp fun _ e => ?_)
      rw [e]
      unfold inside
      rw [ha]
      rfl
    | some p =>
      obtain ⟨a, b⟩ := p
      obtain ⟨l1, l2⟩ := around_len hI ha
      refine x_ret ((ev_and (ev_notN (ev_n 3)) fun _ => ev_one (ev_eqD (ev_call T.t_lowered_and_raised (ok_lowered_and_raised T) (hr.mono (by decide))
        (ea_cons (ev_n 2) (ea_cons (ev_ix1 (ev_n 3) rfl) (ea_cons (ev_ix2 (ev_n 3) rfl) ea_nil))) ⟨l, u, a, b, n, rfl, h8, hO.1, hO.2, l1, l2, rfl⟩) (ev_n 2) (rvs_reg _ _))).imp fun _ e => ?_)
      rw [e, eqv_box]
      unfold inside
      rw [ha]
      rfl
  · have hc : VI n O.c := by
      cases O with
      | ball c r => exact hO
      | cell c a b => exact hO
      | box l u => cases h
    refine x_two 4 5 (ev_call T.t_shell_of (ok_shell_of T) (hr.mono (by decide)) (ea_cons (ev_n 2) ea_nil) ⟨O, rfl, h, rfl⟩) ?_
    refine x_ret ((ev_and (ev_le (ev_n 4) (ev_call T.t_floor_of (ok_floor_of T) hr (ea_cons (ev_n 0) (ea_cons (ev_n 1) (ea_cons (ev_c (ev_n 2)) ea_nil))) ⟨k, I, O.c, n, rfl, h8, hI, hc, rfl⟩))
      fun _ => ev_one (ev_le (ev_call T.t_ceiling_of (ok_ceiling_of T) hr (ea_cons (ev_n 0) (ea_cons (ev_n 1) (ea_cons (ev_c (ev_n 2)) ea_nil))) ⟨k, I, O.c, n, rfl, h8, hI, hc, rfl⟩) (ev_n 5))).imp fun _ e => ?_)
    rw [e]
    cases O with
    | ball c r => rfl
    | cell c a b => rfl
    | box l u => cases h
end
end Ng

set_option Elab.async false
set_option linter.all false
set_option maxRecDepth 100000
set_option maxHeartbeats 1000000
/-! Plain: what the law counts is what the program counts. -/
namespace Ng
open PySem PySem.Spec PyProof.Rows L2
theorem part_neg (k : Kd) (x : Int) : part k (-x) = part k x := by
  cases k with
  | sq => exact Int.neg_mul_neg x x
  | un => unfold part; dsimp only; split <;> split <;> omega
  | su => unfold part; dsimp only; split <;> split <;> omega
  | mo => unfold part; dsimp only; split <;> split <;> omega
theorem part_sym (k : Kd) (x y : Int) : part k (x - y) = part k (y - x) := by
  rw [← part_neg k (y - x)]
  congr 1
  omega
theorem parts_zip (k : Kd) (a b : Vc) : (sub a b).map (part k) = List.zipWith (fun x y => part k (x - y)) a b := by
  unfold sub
  rw [List.map_zipWith]
theorem dist_symm (k : Kd) (a b : Vc) : dist k a b = dist k b a := by
  unfold dist
  rw [parts_zip, parts_zip]
  congr 1
  rw [List.zipWith_comm]
  congr 1
  funext x y
  exact part_sym k y x
theorem sq_lt {a b : Int} (h0 : 0 ≤ a) (h : a * a < (b + 1) * (b + 1)) (hb : 0 ≤ b) : a ≤ b := by
  by_cases hab : a ≤ b
  · exact hab
  · exfalso
    have : (b + 1) * (b + 1) ≤ a * a := Int.mul_le_mul (by omega) (by omega) (by omega) h0
    omega
theorem isq_unique {n m : Int} (h0 : 0 ≤ m) (h1 : m * m ≤ n) (h2 : n < (m + 1) * (m + 1)) : isq n = m := by
  have hn : 0 ≤ n := Int.le_trans (msn m) h1
  have a := isq_sq hn
  have b := isq_lt n
  have c := isq_nonneg n
  exact Int.le_antisymm (sq_lt c (by omega) h0) (sq_lt h0 (by omega) c)
theorem gap_symm (k : Kd) (a b : Int) : gap k a b = gap k b a := by
  unfold gap
  rw [show 4 * a * b = 4 * b * a by rw [Int.mul_assoc, Int.mul_assoc, Int.mul_comm a b]]
  split
  · omega
  · split <;> split <;> omega
theorem joined_succ (k : Kd) (ps : List Int) (p : Int) : joined k (ps ++ [p]) = if k = .mo then max (joined k ps) p else joined k ps + p := by
  cases k <;> simp [joined, List.foldl_append]
theorem joined_take (k : Kd) (ps : List Int) {i : Nat} {p : Int} (h : ps[i]? = some p) : joined k (ps.take (i + 1)) = if k = .mo then max (joined k (ps.take i)) p else joined k (ps.take i) + p := by
  rw [← joined_succ, List.take_add_one, h]
  rfl
/-- low corner at most the high corner -/
def Ord : Vc → Vc → Prop
  | [], [] => True
  | x :: l, y :: u => x ≤ y ∧ Ord l u
  | _, _ => False
theorem Ord.len : ∀ {l u : Vc}, Ord l u → u.length = l.length
  | [], [], _ => rfl
  | [], _ :: _, h => h.elim
  | _ :: _, [], h => h.elim
  | x :: l, y :: u, h => by rw [List.length_cons, List.length_cons, Ord.len h.2]
theorem Ord.of : ∀ {l u : Vc}, u.length = l.length → (∀ i, i < l.length → l.getD i 0 ≤ u.getD i 0) → Ord l u
  | [], [], _, _ => trivial
  | [], _ :: _, h, _ => by simp at h
  | _ :: _, [], h, _ => by simp at h
  | x :: l, y :: u, h, k => ⟨by simpa using k 0 (by simp), Ord.of (by simpa using h) fun i hi => by simpa using k (i + 1) (by simp; omega)⟩
def clampV (p l u : Int) : Int := min (max p l) u
def farV (p l u : Int) : Int := if l + u ≤ 2 * p then l else u
def farU (p l u : Int) : Int := if u ≠ p then u else l
theorem floor_box (k : Kd) : ∀ (l u v : Vc), Ord l u → v.length = l.length → (sub v (z3 clampV v l u)).map (part k) = (z3 gapTo l u v).map (part k)
  | [], [], _, _, _ => by simp [z3, sub]
  | [], _ :: _, _, h, _ => h.elim
  | _ :: _, [], _, h, _ => h.elim
  | _ :: _, _ :: _, [], _, h => by simp at h
  | x :: l, y :: u, p :: v, h, e => by
    have ih := floor_box k l u v h.2 (by simpa using e)
    unfold sub at ih ⊢
    simp only [z3, List.zipWith_cons_cons, List.map_cons, ih]
    congr 1
    have hxy := h.1
    unfold clampV gapTo
    by_cases h1 : p < x
    · rw [if_pos h1, show min (max p x) y = x by omega]
      exact part_sym k p x
    · rw [if_neg h1]
      by_cases h2 : y < p
      · rw [if_pos h2, show min (max p x) y = y by omega]
      · rw [if_neg h2, show min (max p x) y = p by omega, Int.sub_self]
theorem room_far {x y p : Int} (h : x ≤ y) : part .su (p - farV p x y) = roomTo x y p := by
  unfold farV roomTo
  show (if p - (if x + y ≤ 2 * p then x else y) < 0 then -(p - (if x + y ≤ 2 * p then x else y)) else p - (if x + y ≤ 2 * p then x else y)) = _
  by_cases h1 : x + y ≤ 2 * p
  · rw [if_pos h1]
    split <;> split <;> omega
  · rw [if_neg h1]
    split <;> split <;> split <;> omega
theorem room_nonneg (x y p : Int) : 0 ≤ roomTo x y p := by
  unfold roomTo
  split <;> split <;> omega
theorem part_su (x : Int) : part .su x = if x < 0 then -x else x := rfl
theorem part_abs (k : Kd) (x : Int) : part k (part .su x) = part k x := by
  rw [part_su]
  split
  · exact part_neg k x
  · rfl
theorem ceil_box (k : Kd) : ∀ (l u v : Vc), Ord l u → v.length = l.length → (sub v (z3 farV v l u)).map (part k) = (z3 roomTo l u v).map (part k)
  | [], [], _, _, _ => by simp [z3, sub]
  | [], _ :: _, _, h, _ => h.elim
  | _ :: _, [], _, h, _ => h.elim
  | _ :: _, _ :: _, [], _, h => by simp at h
  | x :: l, y :: u, p :: v, h, e => by
    have ih := ceil_box k l u v h.2 (by simpa using e)
    unfold sub at ih ⊢
    simp only [z3, List.zipWith_cons_cons, List.map_cons, ih]
    congr 1
    rw [← room_far h.1, part_abs]
theorem ceil_boxU : ∀ (l u v : Vc), Ord l u → v.length = l.length → (sub v (z3 farU v l u)).map (part .un) = (z3 roomTo l u v).map (part .un)
  | [], [], _, _, _ => by simp [z3, sub]
  | [], _ :: _, _, h, _ => h.elim
  | _ :: _, [], _, h, _ => h.elim
  | _ :: _, _ :: _, [], _, h => by simp at h
  | x :: l, y :: u, p :: v, h, e => by
    have ih := ceil_boxU l u v h.2 (by simpa using e)
    unfold sub at ih ⊢
    simp only [z3, List.zipWith_cons_cons, List.map_cons, ih]
    congr 1
    unfold part farU roomTo
    dsimp only
    split <;> split <;> split <;> split <;> split <;> omega
theorem z3_swap {α : Type} (f : Int → Int → Int → α) : ∀ a b c : Vc, z3 (fun x y z => f y z x) c a b = z3 f a b c
  | [], _, [] => rfl
  | [], _, _ :: _ => rfl
  | _ :: _, [], [] => rfl
  | _ :: _, [], _ :: _ => rfl
  | _ :: _, _ :: _, [] => rfl
  | x :: a, y :: b, z :: c => by simp [z3, z3_swap f a b c]
/-- lows and highs taken in: nothing new -/
theorem within_min : ∀ (l a : Vc), a.length = l.length → decide (List.zipWith min l a = l) = (List.zipWith (fun x y => decide (x ≤ y)) l a).all id
  | [], [], _ => by simp
  | [], _ :: _, h => by simp at h
  | _ :: _, [], h => by simp at h
  | x :: l, y :: a, h => by
    have ih := within_min l a (by simpa using h)
    simp only [List.zipWith_cons_cons, List.all_cons, id, ← ih, List.cons.injEq, Bool.decide_and]
    congr 1
    exact decide_eq_decide.mpr (by omega)
theorem within_max : ∀ (l a : Vc), a.length = l.length → decide (List.zipWith max l a = l) = (List.zipWith (fun x y => decide (y ≤ x)) l a).all id
  | [], [], _ => by simp
  | [], _ :: _, h => by simp at h
  | _ :: _, [], h => by simp at h
  | x :: l, y :: a, h => by
    have ih := within_max l a (by simpa using h)
    simp only [List.zipWith_cons_cons, List.all_cons, id, ← ih, List.cons.injEq, Bool.decide_and]
    congr 1
    exact decide_eq_decide.mpr (by omega)
def wiV (a b l h : Int) : Bool := decide (l ≤ a) && decide (b ≤ h)
def z4 {α : Type} (f : Int → Int → Int → Int → α) : Vc → Vc → Vc → Vc → List α
  | x :: xs, y :: ys, z :: zs, t :: ts => f x y z t :: z4 f xs ys zs ts
  | _, _, _, _ => []
theorem within_all : ∀ (a b l h : Vc), b.length = a.length → l.length = a.length → h.length = a.length → ((List.range a.length).map fun i => wiV (a.getD i 0) (b.getD i 0) (l.getD i 0) (h.getD i 0)).all id = (decide (List.zipWith min l a = l) && decide (List.zipWith max h b = h))
  | [], b, l, h, e1, e2, e3 => by
    have := List.length_eq_zero_iff.mp e1
    have := List.length_eq_zero_iff.mp e2
    have := List.length_eq_zero_iff.mp e3
    subst_vars
    rfl
  | x :: a, [], _, _, e, _, _ => by simp at e
  | x :: a, _ :: _, [], _, _, e, _ => by simp at e
  | x :: a, _ :: _, _ :: _, [], _, _, e => by simp at e
  | x :: a, y :: b, z :: l, t :: h, e1, e2, e3 => by
    have ih := within_all a b l h (by simpa using e1) (by simpa using e2) (by simpa using e3)
    rw [List.length_cons, List.range_succ_eq_map, List.map_cons, List.map_map, List.all_cons]
    have : (List.map ((fun i => wiV ((x :: a).getD i 0) ((y :: b).getD i 0) ((z :: l).getD i 0) ((t :: h).getD i 0)) ∘ Nat.succ) (List.range a.length)).all id = ((List.range a.length).map fun i => wiV (a.getD i 0) (b.getD i 0) (l.getD i 0) (h.getD i 0)).all id := by
      congr 1
    rw [this, ih]
    show (wiV x y z t && _) = _
    simp only [List.zipWith_cons_cons, List.cons.injEq, Bool.decide_and]
    unfold wiV
    rw [show decide (min z x = z) = decide (z ≤ x) from decide_eq_decide.mpr (by omega), show decide (max t y = t) = decide (y ≤ t) from decide_eq_decide.mpr (by omega)]
    cases decide (z ≤ x) <;> cases decide (y ≤ t) <;> simp
end Ng

set_option Elab.async false
set_option linter.all false
set_option maxRecDepth 100000
set_option maxHeartbeats 4000000
/-! The law's own counts. -/
namespace Ng
open PySem PySem.Spec PyProof.Rows L2
section
variable {X : Cx} {W : Wd X.K} {Γ : Gm} {e e2 : Expr} {pos p : Pos}
theorem ev_ixL {ds : List PyData} {i : Nat} {d : PyData} (h : EvD X W Γ e (.list ds)) (k : EvD X W Γ e2 (.int (i : Int))) (hd : ds[i]? = some d) (hs : PlainIx e2 := by exact fun _ _ => rfl) : EvD X W Γ (.Subscript e e2 pos) d :=
  ex_ixL h k (fun x y e1 e2 => ⟨ds, e1, i, e2, d, hd, rfl⟩) hs
theorem vget {a : Vc} {i : Nat} (h : i < a.length) : (a.map PyData.int)[i]? = some (.int (a.getD i 0)) := by
  rw [List.getElem?_map, List.getElem?_eq_getElem h, getD_lt h]
  rfl
theorem ev_at {a : Vc} {i : Nat} (h : EvD X W Γ e (vec a)) (k : EvD X W Γ e2 (.int (i : Int))) (hi : i < a.length) (hs : PlainIx e2 := by exact fun _ _ => rfl) : EvD X W Γ (.Subscript e e2 pos) (.int (a.getD i 0)) := ev_ixT h k (vget hi) hs
theorem ev_atL {a : Vc} {i : Nat} (h : EvD X W Γ e (.list (a.map .int))) (k : EvD X W Γ e2 (.int (i : Int))) (hi : i < a.length) (hs : PlainIx e2 := by exact fun _ _ => rfl) : EvD X W Γ (.Subscript e e2 pos) (.int (a.getD i 0)) := ev_ixL h k (vget hi) hs
theorem ev_len {a : Vc} (hm : X.mg "len" = none) (h : EvD X W Γ e (vec a)) (hg : Gl X "len" := by rfl) (he : starEach [e] X.env = (false, eval e X.env) :: starEach [] X.env := by rfl) (hpl : (backTo pos (starEach [] X.env)).any (·.1) = false := by rfl) : EvD X W Γ (.Call (.Name "len" p) [e] [] pos) (.int (a.length : Int)) :=
  EvE.of (ev_lenT hm h hg he hpl) (by rw [List.length_map])
theorem ei_to {tg : Expr} {n : Nat} (hm : X.mg "range" = none) (h : EvD X W Γ e (.int (n : Int))) (h1 : n ≤ 100000) (hg : Gl X "range" := by rfl) (hs : starEach [e] X.env = [(false, eval e X.env)] := by rfl) : EvI X W Γ tg (.Call (.Name "range" p) [e] [] pos) n fun i => .int (i : Int) :=
  (ei_range1 hm h (by omega) (by omega) hg hs).congr (Int.toNat_natCast n) fun _ _ => rfl
end
section
variable {P : Program} {w : World} {K : PySem.W.Frag} {mg : Str → Option Value} {base : Heap}
def Flpart (ds : List PyData) (d : PyData) : Prop := ∃ (k : Kd) (x y : Int), ds = [.str k.s, .int x, .int y] ∧ Big (x - y) ∧ d = .int (part k (x - y))
theorem ok_law_part (T : Txt K mg) : FnOk P w K mg base CX0 1 T.t_law_part.f T.t_law_part.fd ["_law_kind", "_law_one", "_law_other"] (Pu K Flpart) := by
  refine ok_pure T.t_law_part.fn sc_law_part (fun ds d ⟨a, b, c, e, _⟩ => by rw [e]; rfl) fun cdv A outer s H E M hp ds d hr hF => ?_
  obtain ⟨k, x, y, rfl, hb, rfl⟩ := hF
  refine x_setD 3 (ev_ite (C := y < x) (et_gt (ev_n 1) (ev_n 2)) (fun _ => ev_sub (ev_n 1) (ev_n 2)) (fun _ => ev_sub (ev_n 2) (ev_n 1))) ?_
  have e : (if y < x then PyData.int (x - y) else .int (y - x)) = .int (part .su (x - y)) := by
    rw [part_su]
    split
    · rw [if_neg (by omega)]
    · split
      · congr 1; omega
      · congr 1; omega
  rw [e]
  have hz : Big (part .su (x - y)) ∧ 0 ≤ part .su (x - y) := by
    rw [part_su]
    unfold Big at hb ⊢
    split <;> omega
  rw [← part_abs k (x - y)]
  generalize part .su (x - y) = z at hz
  refine x_ret ((ev_ite (C := k = .sq) (EvT.of (et_eqS (ev_n 0) ev_s) (k_sq k)) (fun _ => ev_mulL (ev_n 3) (ev_n 3) hz.1) fun _ => ev_ite (C := k = .un) (EvT.of (et_eqS (ev_n 0) ev_s) (k_un k)) (fun _ => ev_intB T.b_int (ev_gt (ev_n 3) ev_i)) fun _ => ev_n 3).imp fun _ e => ?_)
  rw [e]
  have h0 := hz.2
  cases k with
  | sq => rfl
  | un =>
    show PyData.int (if decide (0 < z) then 1 else 0) = .int (if z = 0 then 0 else 1)
    by_cases hz : z = 0
    · rw [if_pos hz, decide_eq_false (by omega)]; rfl
    · rw [if_neg hz, decide_eq_true (by omega)]; rfl
  | su =>
    show PyData.int z = .int (if z < 0 then -z else z)
    rw [if_neg (by omega)]
  | mo =>
    show PyData.int z = .int (if z < 0 then -z else z)
    rw [if_neg (by omega)]
def Fldist (ds : List PyData) (d : PyData) : Prop := ∃ (k : Kd) (a b : Vc) (o : PyData), ds = [.str k.s, vec a, o] ∧ (o = vec b ∨ o = .list (b.map .int)) ∧ b.length = a.length ∧ a.length ≤ 8 ∧ Bd 1000000 a ∧ Bd 1000000 b ∧ d = .int (dist k a b)
theorem ok_law_distance (T : Txt K mg) : FnOk P w K mg base CX0 2 T.t_law_distance.f T.t_law_distance.fd ["_law_kind", "_law_one", "_law_other"] (Pu K Fldist) := by
  refine ok_pure T.t_law_distance.fn sc_law_distance (fun ds d ⟨a, b, c, o, e, _⟩ => by rw [e]; rfl) fun cdv A outer s H E M hp ds d hr hF => ?_
  obtain ⟨k, a, b, o, rfl, ho, hl, h8, ha, hb, rfl⟩ := hF
  have hps : ((sub a b).map (part k)).length = a.length := by rw [List.length_map, sub_len a b hl.symm]
  refine x_setD 3 ev_i ?_
  refine x_for (ei_to T.b_range (ev_len T.b_len (ev_n 1)) (by omega)) (fun i Γ => ∃ x y, Γ = [some (.str k.s), some (vec a), some o, some (.int (joined k (((sub a b).map (part k)).take i))), x, y]) ⟨none, none, by cases k <;> rfl⟩ ?_ ?_
  · rintro i _ hi ⟨x, y, rfl⟩
    refine ⟨_, _, as_n 4, ?_⟩
    have hb' : i < b.length := by omega
    have hp : ((sub a b).map (part k))[i]? = some (part k (a.getD i 0 - b.getD i 0)) := by
      rw [parts_zip, List.getElem?_zipWith, List.getElem?_eq_getElem hi, List.getElem?_eq_getElem hb', getD_lt hi, getD_lt hb']
    refine x_setD 5 (ev_call T.t_law_part (ok_law_part T) (hr.mono (by decide)) (ea_cons (ev_n 0) (ea_cons (ev_at (ev_n 1) (ev_n 4) hi) (ea_cons (?_ : EvD _ _ _ _ (.int (b.getD i 0))) ea_nil))) ⟨k, _, _, rfl, ?_, rfl⟩) ?_
    · rcases ho with rfl | rfl
      · exact ev_at (ev_n 2) (ev_n 4) hb'
      · exact ev_atL (ev_n 2) (ev_n 4) hb'
    · have h1 := bd_get ha (by decide) i
      have h2 := bd_get hb (by decide) i
      unfold Big
      omega
    · generalize hq : part k (a.getD i 0 - b.getD i 0) = q at hp ⊢
      generalize hz : joined k (((sub a b).map (part k)).take i) = z
      refine x_setD 3 (EvE.of (ev_ite (C := k = .mo) (EvT.of (et_eqS (ev_n 0) ev_s) (k_mo k)) (fun _ => ev_ite (C := z < q) (et_gt (ev_n 5) (ev_n 3)) (fun _ => ev_n 5) (fun _ => ev_n 3)) (fun _ => ev_add (ev_n 3) (ev_n 5))) (d' := .int (joined k (((sub a b).map (part k)).take (i + 1)))) ?_) (x_nil ⟨_, _, rfl⟩)
      rw [joined_take k _ hp, hz]
      split
      · split
        · rw [show max z q = q by omega]
        · rw [show max z q = z by omega]
      · rfl
  · rintro _ ⟨x, y, rfl⟩
    refine x_ret ((ev_n 3).imp fun _ e => ?_)
    rw [e, List.take_of_length_le (by omega)]
    rfl
def Flroot (ds : List PyData) (d : PyData) : Prop := ∃ n : Int, ds = [.int n] ∧ 0 ≤ n ∧ n < 2 ^ 64 ∧ d = .int (isq n)
theorem pow_half {i : Nat} (h : i < 40) : (2 : Int) ^ (40 - i) = 2 * 2 ^ (40 - (i + 1)) := by
  rw [show 40 - i = (40 - (i + 1)) + 1 by omega, Int.pow_succ, Int.mul_comm]
theorem pow_le40 {i : Nat} (h : i ≤ 40) : (1 : Int) ≤ 2 ^ i ∧ (2 : Int) ^ i ≤ 1099511627776 := by
  have e : (2 : Int) ^ i = ((2 ^ i : Nat) : Int) := by rw [Int.natCast_pow]; rfl
  have h1 : 2 ^ i ≤ 2 ^ 40 := Nat.pow_le_pow_right (by decide) h
  have h2 : 0 < 2 ^ i := Nat.pow_pos (by decide)
  rw [e]
  omega
theorem ok_law_root (T : Txt K mg) : FnOk P w K mg base CX0 1 T.t_law_root.f T.t_law_root.fd ["_law_number"] (Pu K Flroot) := by
  refine ok_pure T.t_law_root.fn sc_law_root (fun ds d ⟨a, e, _⟩ => by rw [e]; rfl) fun cdv A outer s H E M hp ds d hr hF => ?_
  obtain ⟨n, rfl, h0, h1, rfl⟩ := hF
  refine x_two 1 2 (ev_tup (ea_cons ev_i (ea_cons ev_i ea_nil))) ?_
  have mid : ∀ (j : Nat) (x y : Option PyData), j ≤ 40 → n < 2 ^ j * 2 ^ j → ExB (cx P w K mg base ["_law_number", "_law_low", "_law_high", "_law_turn", "_law_middle"] "_law_root" s_law_root T.t_law_root.f cdv A outer s H E) (pw K M hp) [some (.int n), some (.int 0), some (.int (2 ^ j)), x, y] ((defBody s_law_root).drop 2) { nx := fun _ => PyData.int (isq n) = .none, rt := fun x => x = .int (isq n) } := by
    intro j x y hj hn
    have last : ∀ (l h : Int) (x y : Option PyData), 0 ≤ l → l * l ≤ n → n < h * h → l < h → h - l ≤ 1 → ExB (cx P w K mg base ["_law_number", "_law_low", "_law_high", "_law_turn", "_law_middle"] "_law_root" s_law_root T.t_law_root.f cdv A outer s H E) (pw K M hp) [some (.int n), some (.int l), some (.int h), x, y] ((defBody s_law_root).drop 3) { nx := fun _ => PyData.int (isq n) = .none, rt := fun x => x = .int (isq n) } := by
      intro l h x y a b c f d
      refine x_ret ((ev_n 1).imp fun _ q => ?_)
      rw [q, isq_unique a b (by rw [show l + 1 = h by omega]; exact c)]
    refine x_for (ei_to (n := 40) T.b_range ev_i (by decide)) (fun i Γ => ∃ l h x y, Γ = [some (.int n), some (.int l), some (.int h), x, y] ∧ 0 ≤ l ∧ l * l ≤ n ∧ n < h * h ∧ l < h ∧ h - l ≤ 2 ^ (40 - i)) ⟨0, 2 ^ j, x, y, rfl, by decide, by simpa using h0, hn, by have := pow_le40 hj; omega, by have := pow_le40 hj; omega⟩ ?_ ?_
    · rintro i _ hi ⟨l, h, x, y, rfl, a, b, c, d, f⟩
      refine ⟨_, _, as_n 3, ?_⟩
      refine x_if (et_le (ev_sub (ev_n 2) (ev_n 1)) ev_i) (fun q => x_brk (last l h _ _ a b c d (of_decide_eq_true q))) fun q => x_nil ?_
      have q := of_decide_eq_false q
      have hm := pow_half hi
      have hp := pow_le40 (show 40 - i ≤ 40 by omega)
      refine x_setD 4 (ev_div (ev_add (ev_n 1) (ev_n 2)) ev_i (by decide) (by decide)) ?_
      generalize hmd : (l + h) / 2 = m
      have m1 : l < m := by omega
      have m2 : m < h := by omega
      have m3 : h - m ≤ 2 ^ (40 - (i + 1)) := by omega
      have m4 : m - l ≤ 2 ^ (40 - (i + 1)) := by omega
      refine x_if (et_le (ev_mulL (ev_n 4) (ev_n 4) ?_) (ev_n 0)) (fun t => x_setD 1 (ev_n 4) (x_nil (x_nil ⟨m, h, _, _, rfl, by omega, of_decide_eq_true t, c, m2, m3⟩))) fun t => x_setD 2 (ev_n 4) (x_nil (x_nil ⟨l, m, _, _, rfl, a, b, Int.not_le.mp (of_decide_eq_false t), m1, m4⟩))
      have m5 : l ≤ 18446744073709551616 := by
        by_cases hl : l ≤ 18446744073709551616
        · exact hl
        · exfalso
          have : l * 1 ≤ l * l := Int.mul_le_mul_of_nonneg_left (by omega) a
          omega
      have m6 : l < 4294967296 := by
        by_cases hl : l < 4294967296
        · exact hl
        · exfalso
          have : (4294967296 : Int) * 4294967296 ≤ l * l := Int.mul_le_mul (by omega) (by omega) (by decide) a
          omega
      omega
    · rintro _ ⟨l, h, x, y, rfl, a, b, c, d, f⟩
      exact last l h x y a b c d (by simpa using f)
  refine x_for (ei_to (n := 40) T.b_range ev_i (by decide)) (fun i Γ => ∃ x y, Γ = [some (.int n), some (.int 0), some (.int (2 ^ i)), x, y]) ⟨none, none, rfl⟩ ?_ ?_
  · rintro i _ hi ⟨x, y, rfl⟩
    refine ⟨_, _, as_n 3, ?_⟩
    have hp := pow_le40 (show i ≤ 40 by omega)
    refine x_if (et_gt (ev_mulL (ev_n 2) (ev_n 2) (by omega)) (ev_n 0)) (fun q => x_brk (mid i _ _ (by omega) (of_decide_eq_true q))) fun q => x_nil (x_setD 2 (EvE.of (ev_mulL (ev_n 2) ev_i (by omega)) (d' := .int (2 ^ (i + 1))) (by rw [Int.pow_succ])) (x_nil ⟨_, _, rfl⟩))
  · rintro _ ⟨x, y, rfl⟩
    exact mid 40 x y (by decide) (by omega)
end
end Ng

set_option Elab.async false
set_option linter.all false
set_option maxRecDepth 100000
set_option maxHeartbeats 4000000
/-! The law's own floors, ceilings, boxes. -/
namespace Ng
open PySem PySem.Spec PyProof.Rows L2
/-- low at most high -/
def Okk : Reg → Prop
  | .box l u => Ord l u
  | _ => True
section
variable {P : Program} {w : World} {K : PySem.W.Frag} {mg : Str → Option Value} {base : Heap}
theorem ok_law_gap (T : Txt K mg) : FnOk P w K mg base CX0 2 T.t_law_gap.f T.t_law_gap.fd ["_law_kind", "_law_one", "_law_other"] (Pu K Fgap_of) := by
  refine ok_pure T.t_law_gap.fn sc_law_gap (fun ds d ⟨a, b, c, e, _⟩ => by rw [e]; rfl) fun cdv A outer s H E M hp ds d hr hF => ?_
  obtain ⟨k, a, b, rfl, h, rfl⟩ := hF
  refine x_ret ((ev_ite (C := k = .sq) (EvT.of (et_eqS (ev_n 0) ev_s) (k_sq k))
    (fun hk => ev_sub (ev_add (ev_n 1) (ev_n 2)) (ev_call T.t_law_root (ok_law_root T) hr (ea_cons (ev_mulL (ev_mulL ev_i (ev_n 1) (by decide)) (ev_n 2) (by have := (h hk).1; have := (h hk).2.1; omega)) ea_nil) ⟨_, rfl, (h hk).nonneg, (h hk).2.2.2, rfl⟩))
    (fun _ => ev_sub (ev_max2 T.b_max (ev_n 1) (ev_n 2)) (ev_min2 T.b_min (ev_n 1) (ev_n 2)))).imp fun _ e => ?_)
  rw [e]
  unfold gap
  split
  · rfl
  · show PyData.int (max a b - min a b) = _
    congr 1
    split <;> omega
theorem ok_law_most (T : Txt K mg) : FnOk P w K mg base CX0 2 T.t_law_most.f T.t_law_most.fd ["_law_kind", "_law_one", "_law_other"] (Pu K Fmost_beyond) := by
  refine ok_pure T.t_law_most.fn sc_law_most (fun ds d ⟨a, b, c, e, _⟩ => by rw [e]; rfl) fun cdv A outer s H E M hp ds d hr hF => ?_
  obtain ⟨k, a, b, rfl, h, rfl⟩ := hF
  refine x_ret ((ev_add (ev_add (ev_n 1) (ev_n 2)) (EvE.of (ev_ite (C := k = .sq) (EvT.of (et_eqS (ev_n 0) ev_s) (k_sq k))
    (fun hk => ev_call T.t_law_root (ok_law_root T) hr (ea_cons (ev_mulL (ev_mulL ev_i (ev_n 1) (by decide)) (ev_n 2) (by have := (h hk).1; have := (h hk).2.1; omega)) ea_nil) ⟨_, rfl, (h hk).nonneg, (h hk).2.2.2, rfl⟩)
    (fun _ => ev_i)) (d' := .int (if k = .sq then isq (4 * a * b) else 0)) (by split <;> rfl))).imp fun _ e => ?_)
  rw [e]
  unfold most
  split
  · rfl
  · rw [Int.add_zero]
theorem ok_law_shell (T : Txt K mg) : FnOk P w K mg base CX0 1 T.t_law_shell.f T.t_law_shell.fd ["_law_region_here"] (Pu K Fshell_of) := by
  refine ok_pure T.t_law_shell.fn sc_law_shell (fun ds d ⟨a, e, _⟩ => by rw [e]; rfl) fun cdv A outer s H E M hp ds d hr hF => ?_
  obtain ⟨R, rfl, hb, rfl⟩ := hF
  refine x_ret (ev_if (EvT.of (et_eqS (ev_w (ev_n 0)) ev_s) (w_ball R)) (fun h => ?_) fun h => ?_)
  · cases R with
    | ball c r => exact ev_tup (ea_cons ev_i (ea_cons (ev_ix2 (ev_n 0) rfl) ea_nil))
    | box l u => cases h
    | cell c a b => cases h
  · cases R with
    | cell c a b => exact ev_tup (ea_cons (ev_ix2 (ev_n 0) rfl) (ea_cons (ev_ix3 (ev_n 0) rfl) ea_nil))
    | box l u => cases hb
    | ball c r => cases h
theorem ok_law_holds (T : Txt K mg) : FnOk P w K mg base CX0 3 T.t_law_holds.f T.t_law_holds.fd ["_law_kind", "_law_region_here", "_law_vector"] (Pu K Fholds_vector) := by
  refine ok_pure T.t_law_holds.fn sc_law_holds (fun ds d ⟨a, b, c, n, e, _⟩ => by rw [e]; rfl) fun cdv A outer s H E M hp ds d hr hF => ?_
  obtain ⟨k, R, v, n, rfl, h8, hR, hv, hbv, rfl⟩ := hF
  refine x_ifr (EvT.of (et_eqS (ev_w (ev_n 1)) ev_s) (w_box R)) (fun h => ?_) fun h => ?_
  · obtain ⟨l, u, rfl⟩ := isBox_of h
    obtain ⟨h1, h2⟩ := hR
    refine x_ret ((ev_all T.b_all (EvE.of (ev_lc [("_law_at", 3)] (fun i => .bool (decide (l.getD i 0 ≤ v.getD i 0 ∧ v.getD i 0 ≤ u.getD i 0)))
      (ei_to T.b_range (ev_len T.b_len (ev_n 2)) (by omega)) (blkOk_by (N := ["_law_kind", "_law_region_here", "_law_vector", "_law_at", "_law_least", "_law_greatest"]) (sc := defScope s_law_holds) (by decide +kernel))
      (fun _ _ _ _ _ i _ => as_n 3) (by decide) (fun _ _ _ _ _ i hi => ev_le2 (ev_at (ev_ix1 (ev_n 1) rfl) (ev_n 3) (by omega)) (ev_at (ev_n 2) (ev_n 3) (by omega)) (ev_at (ev_ix2 (ev_n 1) rfl) (ev_n 3) (by omega))) (fun i _ => .bl _) (by omega))
      (by rw [show v.length = l.length by omega]; exact rB3 (fun a x b => decide (a ≤ x ∧ x ≤ b)) (show v.length = l.length by omega) (show u.length = l.length by omega)))).imp fun _ e => e)
  · refine x_two 4 5 (ev_call T.t_law_shell (ok_law_shell T) (hr.mono (by decide)) (ea_cons (ev_n 1) ea_nil) ⟨R, rfl, h, rfl⟩) ?_
    have hc : R.c.length = n ∧ Bd 1000000 R.c := by
      cases R with
      | ball c r => exact hR
      | cell c a b => exact hR
      | box l u => cases h
    refine x_ret ((ev_le2 (ev_n 4) (ev_call T.t_law_distance (ok_law_distance T) hr (ea_cons (ev_n 0) (ea_cons (ev_c (ev_n 1)) (ea_cons (ev_n 2) ea_nil))) ⟨k, R.c, v, _, rfl, .inl rfl, by omega, by omega, hc.2, hbv, rfl⟩) (ev_n 5)).imp fun _ e => ?_)
    rw [e]
    cases R with
    | ball c r => rfl
    | cell c a b => rfl
    | box l u => cases h
theorem clamp_bd {m : Int} {v l u : Vc} (hv : Bd m v) (hl : Bd m l) (hu : Bd m u) (e1 : l.length = v.length) (e2 : u.length = v.length) (f : Int → Int → Int → Int) (hf : ∀ x y z, f x y z = x ∨ f x y z = y ∨ f x y z = z) : Bd m (z3 f v l u) := by
  intro x hx
  obtain ⟨i, hi⟩ := List.mem_iff_getElem?.mp hx
  have hlt : i < v.length := by
    have := (List.getElem?_eq_some_iff.mp hi).1
    rwa [z3_len f v l u e1 e2] at this
  rw [z3_get f v l u i e1 e2 hlt] at hi
  have := Option.some.inj hi
  rw [getD_lt hlt, getD_lt (show i < l.length by omega), getD_lt (show i < u.length by omega)] at this
  rcases hf v[i] l[i] u[i] with q | q | q
  · rw [← this, q]; exact hv _ (List.getElem_mem _)
  · rw [← this, q]; exact hl _ (List.getElem_mem _)
  · rw [← this, q]; exact hu _ (List.getElem_mem _)
def Flfloor (ds : List PyData) (d : PyData) : Prop := ∃ (k : Kd) (R : Reg) (v : Vc) (n : Nat), ds = [.str k.s, R.d, vec v] ∧ n ≤ 8 ∧ RI n R ∧ Okk R ∧ VI n v ∧ d = .int (floorR k R v)
theorem rt_of2 {x y : Int} (h0 : 0 ≤ x) (h1 : x ≤ 3200000000) (h2 : 0 ≤ y) (h3 : y ≤ 400000000) : Rt x y := rt_of h0 h1 h2 h3
theorem ok_law_floor (T : Txt K mg) : FnOk P w K mg base CX0 3 T.t_law_floor.f T.t_law_floor.fd ["_law_kind", "_law_region_here", "_law_vector"] (Pu K Flfloor) := by
  refine ok_pure T.t_law_floor.fn sc_law_floor (fun ds d ⟨k, a, b, n, e, _⟩ => by rw [e]; rfl) fun cdv A outer s H E M hp ds d hr hF => ?_
  obtain ⟨k, R, v, n, rfl, h8, hR, ho, hv, rfl⟩ := hF
  refine x_ifr (EvT.of (et_eqS (ev_w (ev_n 1)) ev_s) (w_box R)) (fun h => ?_) fun h => ?_
  · obtain ⟨l, u, rfl⟩ := isBox_of h
    obtain ⟨h1, h2, b1, b2⟩ := hR
    have hv1 := hv.1
    have e1 : l.length = v.length := by omega
    have e2 : u.length = v.length := by omega
    refine x_setLcD 3 [("_law_at", 4)] (fun i => .int (clampV (v.getD i 0) (l.getD i 0) (u.getD i 0))) (ei_to T.b_range (ev_len T.b_len (ev_n 2)) (by omega))
      (blkOk_by (N := ["_law_kind", "_law_region_here", "_law_vector", "_law_nearest", "_law_at", "_law_least", "_law_greatest", "_law_away"]) (sc := defScope s_law_floor) (by decide +kernel)) (fun _ _ _ _ _ i _ => as_n 4) (by decide)
      (fun _ _ _ _ _ i hi => ev_min2 T.b_min (ev_max2 T.b_max (ev_at (ev_n 2) (ev_n 4) hi) (ev_at (ev_ix1 (ev_n 1) rfl) (ev_n 4) (by omega))) (ev_at (ev_ix2 (ev_n 1) rfl) (ev_n 4) (by omega))) (fun i _ => .int _) (by omega) (rI3 clampV e1 e2) ?_
    refine x_ret ((ev_call T.t_law_distance (ok_law_distance T) hr (ea_cons (ev_n 0) (ea_cons (ev_n 2) (ea_cons (ev_n 3) ea_nil))) ⟨k, v, z3 clampV v l u, _, rfl, .inr rfl, z3_len _ _ _ _ e1 e2, by omega, hv.2.mono (by decide), (clamp_bd hv.2 b1 b2 e1 e2 clampV (by intro x y z; unfold clampV; omega)).mono (by decide), rfl⟩).imp fun _ e => ?_)
    rw [e]
    show PyData.int (joined k ((sub v (z3 clampV v l u)).map (part k))) = _
    rw [floor_box k l u v ho (by omega)]
    rfl
  · have hc := RI.c hR
    have hh := RI.hi hR
    have hd := dist_lt (k := k) hc hv h8
    rw [dist_symm] at hd
    refine x_two 5 6 (ev_call T.t_law_shell (ok_law_shell T) (hr.mono (by decide)) (ea_cons (ev_n 1) ea_nil) ⟨R, rfl, h, rfl⟩) ?_
    refine x_setD 7 (ev_call T.t_law_distance (ok_law_distance T) hr (ea_cons (ev_n 0) (ea_cons (ev_n 2) (ea_cons (ev_c (ev_n 1)) ea_nil))) ⟨k, v, R.c, _, rfl, .inl rfl, hc.1.trans hv.1.symm, by rw [hv.1]; exact h8, hv.2.mono (by decide), hc.2.mono (by decide), rfl⟩) ?_
    refine x_ret ((ev_ite (C := R.hi < dist k v R.c) (et_gt (ev_n 7) (ev_n 6)) (fun _ => ev_call T.t_law_gap (ok_law_gap T) (hr.mono (by decide)) (ea_cons (ev_n 0) (ea_cons (ev_n 7) (ea_cons (ev_n 6) ea_nil))) ⟨k, _, _, rfl, fun _ => rt_of2 hd.1 hd.2 (by omega) hh.2.2, rfl⟩)
      fun _ => ev_ite (C := dist k v R.c < R.lo) (et_lt (ev_n 7) (ev_n 5)) (fun _ => ev_call T.t_law_gap (ok_law_gap T) (hr.mono (by decide)) (ea_cons (ev_n 0) (ea_cons (ev_n 7) (ea_cons (ev_n 5) ea_nil))) ⟨k, _, _, rfl, fun _ => rt_of2 hd.1 hd.2 (by omega) (by omega), rfl⟩) fun _ => ev_i).imp fun _ e => ?_)
    rw [e]
    have eq : floorR k R v = shellF k R.lo R.hi (dist k v R.c) (dist k v R.c) := by
      cases R with
      | ball c r => unfold floorR; rw [dist_symm]
      | cell c a b => unfold floorR; rw [dist_symm]
      | box l u => cases h
    rw [eq]
    unfold shellF beyond
    split
    · rfl
    · split
      · rw [gap_symm]
      · rfl
def Flceil (ds : List PyData) (d : PyData) : Prop := ∃ (k : Kd) (R : Reg) (v : Vc) (n : Nat), ds = [.str k.s, R.d, vec v] ∧ n ≤ 8 ∧ RI n R ∧ Okk R ∧ VI n v ∧ d = .int (ceilR k R v)
theorem ok_law_ceiling (T : Txt K mg) : FnOk P w K mg base CX0 3 T.t_law_ceiling.f T.t_law_ceiling.fd ["_law_kind", "_law_region_here", "_law_vector"] (Pu K Flceil) := by
  refine ok_pure T.t_law_ceiling.fn sc_law_ceiling (fun ds d ⟨k, a, b, n, e, _⟩ => by rw [e]; rfl) fun cdv A outer s H E M hp ds d hr hF => ?_
  obtain ⟨k, R, v, n, rfl, h8, hR, ho, hv, rfl⟩ := hF
  refine x_ifr (EvT.of (et_eqS (ev_w (ev_n 1)) ev_s) (w_box R)) (fun h => ?_) fun h => ?_
  · obtain ⟨l, u, rfl⟩ := isBox_of h
    obtain ⟨h1, h2, b1, b2⟩ := hR
    have hv1 := hv.1
    have e1 : l.length = v.length := by omega
    have e2 : u.length = v.length := by omega
    refine x_setLcD 3 [("_law_at", 4)] (fun i => .int (farV (v.getD i 0) (l.getD i 0) (u.getD i 0))) (ei_to T.b_range (ev_len T.b_len (ev_n 2)) (by omega))
      (blkOk_by (N := ["_law_kind", "_law_region_here", "_law_vector", "_law_farthest", "_law_at", "_law_most_here"]) (sc := defScope s_law_ceiling) (by decide +kernel)) (fun _ _ _ _ _ i _ => as_n 4) (by decide)
      (fun _ _ _ _ _ i hi => EvE.of (ev_ite (C := l.getD i 0 + u.getD i 0 ≤ 2 * v.getD i 0) (et_ge (ev_mulL ev_i (ev_at (ev_n 2) (ev_n 4) hi) (by decide)) (ev_add (ev_at (ev_ix1 (ev_n 1) rfl) (ev_n 4) (by omega)) (ev_at (ev_ix2 (ev_n 1) rfl) (ev_n 4) (by omega))))
        (fun _ => ev_at (ev_ix1 (ev_n 1) rfl) (ev_n 4) (by omega)) (fun _ => ev_at (ev_ix2 (ev_n 1) rfl) (ev_n 4) (by omega))) (by unfold farV; split <;> rfl)) (fun i _ => .int _) (by omega) (rI3 farV e1 e2) ?_
    refine x_if (EvT.of (et_eqS (ev_n 0) ev_s) (k_un k)) (fun q => ?_) fun q => x_nil ?_
    · have q := of_decide_eq_true q
      subst q
      refine x_setLcD 3 [("_law_at", 4)] (fun i => .int (farU (v.getD i 0) (l.getD i 0) (u.getD i 0))) (ei_to T.b_range (ev_len T.b_len (ev_n 2)) (by omega))
        (blkOk_by (N := ["_law_kind", "_law_region_here", "_law_vector", "_law_farthest", "_law_at", "_law_most_here"]) (sc := defScope s_law_ceiling) (by decide +kernel)) (fun _ _ _ _ _ i _ => as_n 4) (by decide)
        (fun _ _ _ _ _ i hi => EvE.of (ev_ite (C := u.getD i 0 ≠ v.getD i 0) (et_neI (ev_at (ev_ix2 (ev_n 1) rfl) (ev_n 4) (by omega)) (ev_at (ev_n 2) (ev_n 4) hi))
          (fun _ => ev_at (ev_ix2 (ev_n 1) rfl) (ev_n 4) (by omega)) (fun _ => ev_at (ev_ix1 (ev_n 1) rfl) (ev_n 4) (by omega))) (by unfold farU; split <;> rfl)) (fun i _ => .int _) (by omega) (rI3 farU e1 e2) (x_nil ?_)
      refine x_ret ((ev_call T.t_law_distance (ok_law_distance T) hr (ea_cons (ev_n 0) (ea_cons (ev_n 2) (ea_cons (ev_n 3) ea_nil))) ⟨.un, v, z3 farU v l u, _, rfl, .inr rfl, z3_len _ _ _ _ e1 e2, by omega, hv.2.mono (by decide), (clamp_bd hv.2 b1 b2 e1 e2 farU (by intro x y z; unfold farU; split <;> simp)).mono (by decide), rfl⟩).imp fun _ e => ?_)
      rw [e]
      show PyData.int (joined .un ((sub v (z3 farU v l u)).map (part .un))) = _
      rw [ceil_boxU l u v ho (by omega)]
      rfl
    · refine x_ret ((ev_call T.t_law_distance (ok_law_distance T) hr (ea_cons (ev_n 0) (ea_cons (ev_n 2) (ea_cons (ev_n 3) ea_nil))) ⟨k, v, z3 farV v l u, _, rfl, .inr rfl, z3_len _ _ _ _ e1 e2, by omega, hv.2.mono (by decide), (clamp_bd hv.2 b1 b2 e1 e2 farV (by intro x y z; unfold farV; split <;> simp)).mono (by decide), rfl⟩).imp fun _ e => ?_)
      rw [e]
      show PyData.int (joined k ((sub v (z3 farV v l u)).map (part k))) = _
      rw [ceil_box k l u v ho (by omega)]
      rfl
  · have hc := RI.c hR
    have hh := RI.hi hR
    have hd := dist_lt (k := k) hc hv h8
    rw [dist_symm] at hd
    refine x_setD 5 (ev_call T.t_law_most (ok_law_most T) (hr.mono (by decide)) (ea_cons (ev_n 0) (ea_cons (ev_call T.t_law_distance (ok_law_distance T) hr (ea_cons (ev_n 0) (ea_cons (ev_n 2) (ea_cons (ev_c (ev_n 1)) ea_nil))) ⟨k, v, R.c, _, rfl, .inl rfl, hc.1.trans hv.1.symm, by rw [hv.1]; exact h8, hv.2.mono (by decide), hc.2.mono (by decide), rfl⟩)
      (ea_cons (ev_ix1 (ev_call T.t_law_shell (ok_law_shell T) (hr.mono (by decide)) (ea_cons (ev_n 1) ea_nil) ⟨R, rfl, h, rfl⟩) rfl) ea_nil))) ⟨k, _, R.hi, rfl, fun _ => rt_of2 hd.1 hd.2 (by omega) hh.2.2, rfl⟩) ?_
    refine x_ret ((ev_ite (C := k = .un) (EvT.of (et_eqS (ev_n 0) ev_s) (k_un k)) (fun _ => ev_min2 T.b_min (ev_n 5) (ev_len T.b_len (ev_n 2))) (fun _ => ev_n 5)).imp fun _ e => ?_)
    rw [e]
    have eq : ceilR k R v = cap k (most k (dist k v R.c) R.hi) (v.length : Int) := by
      cases R with
      | ball c r => unfold ceilR; rw [dist_symm]
      | cell c a b => unfold ceilR; rw [dist_symm]
      | box l u => cases h
    rw [eq]
    unfold cap
    split <;> rfl
theorem ok_law_around_due (T : Txt K mg) : FnOk P w K mg base CX0 2 T.t_law_around_due.f T.t_law_around_due.fd ["_law_kind", "_law_region_here"] (Pu K Faround) := by
  refine ok_pure T.t_law_around_due.fn sc_law_around_due (fun ds d ⟨l, u, n, e, _⟩ => by rw [e]; rfl) fun cdv A outer s H E M hp ds d hr hF => ?_
  obtain ⟨k, R, n, rfl, h8, hR, rfl⟩ := hF
  refine x_ifr (EvT.of (et_eqS (ev_w (ev_n 1)) ev_s) (w_box R)) (fun h => ?_) fun h => ?_
  · obtain ⟨l, u, rfl⟩ := isBox_of h
    exact x_ret (ev_n 1)
  · have hh := RI.hi hR
    have hc := RI.c hR
    refine x_setD 2 (ev_ix1 (ev_call T.t_law_shell (ok_law_shell T) (hr.mono (by decide)) (ea_cons (ev_n 1) ea_nil) ⟨R, rfl, h, rfl⟩) rfl) ?_
    rw [around_nb h]
    refine x_ifr (et_w (ew_and (EvT.of (et_eqS (ev_n 0) ev_s) (k_un k)) fun _ => ew_and1 (et_gt (ev_n 2) ev_i))) (fun q => ?_) fun q => ?_
    · rw [Bool.and_eq_true] at q
      have q1 := of_decide_eq_true q.1
      have q2 := of_decide_eq_true q.2
      subst q1
      have : side .un R.hi = none := if_neg (by omega)
      rw [this]
      exact x_ret ev_non
    · have hs : side k R.hi = some (if k = .sq then isq R.hi else R.hi) := by
        cases k with
        | sq => rfl
        | su => rfl
        | mo => rfl
        | un =>
          have : R.hi = 0 := by
            have : decide (0 < R.hi) = false := by simpa using q
            have := of_decide_eq_false this
            omega
          show (if R.hi = 0 then some 0 else none) = some R.hi
          rw [if_pos this, this]
      rw [hs]
      generalize ht : (if k = .sq then isq R.hi else R.hi) = t
      refine x_setD 3 (EvE.of (ev_ite (C := k = .sq) (EvT.of (et_eqS (ev_n 0) ev_s) (k_sq k)) (fun _ => ev_call T.t_law_root (ok_law_root T) (hr.mono (by decide)) (ea_cons (ev_n 2) ea_nil) ⟨_, rfl, by omega, by omega, rfl⟩) (fun _ => ev_n 2)) (d' := .int t) (by rw [← ht]; split <;> rfl)) ?_
      exact x_ret (ev_tup (ea_cons ev_s (ea_cons (ev_tupleOf T.b_tuple (EvE.of (ev_lc [("_law_part_here", 4)] (fun i => .int (R.c.getD i 0 - t))
          (ei_vec (ev_c (ev_n 1))) (blkOk_by (N := ["_law_kind", "_law_region_here", "_law_most_here", "_law_side", "_law_part_here"]) (sc := defScope s_law_around_due) (by decide +kernel))
          (fun _ _ _ _ _ i _ => as_n 4) (by decide) (fun _ _ _ _ _ i _ => ev_sub (ev_n 4) (ev_n 3)) (fun i _ => .int _) (by have := hc.1; omega)) (rI1 (· - t) R.c)))
        (ea_cons (ev_tupleOf T.b_tuple (EvE.of (ev_lc [("_law_part_here", 4)] (fun i => .int (R.c.getD i 0 + t))
          (ei_vec (ev_c (ev_n 1))) (blkOk_by (N := ["_law_kind", "_law_region_here", "_law_most_here", "_law_side", "_law_part_here"]) (sc := defScope s_law_around_due) (by decide +kernel))
          (fun _ _ _ _ _ i _ => as_n 4) (by decide) (fun _ _ _ _ _ i _ => ev_add (ev_n 4) (ev_n 3)) (fun i _ => .int _) (by have := hc.1; omega)) (rI1 (· + t) R.c))) ea_nil))))
def Flinside (ds : List PyData) (d : PyData) : Prop := ∃ (k : Kd) (I O : Reg) (n : Nat), ds = [.str k.s, I.d, O.d] ∧ n ≤ 8 ∧ RI n I ∧ Okk I ∧ RO n O ∧ d = .bool (inside k I O)
theorem ok_law_inside_due (T : Txt K mg) : FnOk P w K mg base CX0 4 T.t_law_inside_due.f T.t_law_inside_due.fd ["_law_kind", "_law_inner", "_law_outer"] (Pu K Flinside) := by
  refine ok_pure T.t_law_inside_due.fn sc_law_inside_due (fun ds d ⟨l, u, o, n, e, _⟩ => by rw [e]; rfl) fun cdv A outer s H E M hp ds d hr hF => ?_
  obtain ⟨k, I, O, n, rfl, h8, hI, hk, hO, rfl⟩ := hF
  refine x_ifr (EvT.of (et_eqS (ev_w (ev_n 2)) ev_s) (w_box O)) (fun h => ?_) fun h => ?_
  · obtain ⟨l, u, rfl⟩ := isBox_of h
    refine x_setD 3 (ev_call T.t_law_around_due (ok_law_around_due T) (hr.mono (by decide)) (ea_cons (ev_n 0) (ea_cons (ev_n 1) ea_nil)) ⟨k, I, n, rfl, h8, hI, rfl⟩) ?_
    cases ha : around k I with
    | none =>
      refine x_ret ((ev_and (q := false) (ev_notN (ev_n 3)) (fun z => Bool.noConfusion z)).imp fun _ e => ?_)
      rw [e]
      unfold inside
      rw [ha]
      rfl
    | some p =>
      obtain ⟨a, b⟩ := p
      obtain ⟨l1, l2⟩ := around_len hI ha
      have h1 := hO.1
      have h2 := hO.2
      refine x_ret ((ev_and (q := ((List.range a.length).map fun i => wiV (a.getD i 0) (b.getD i 0) (l.getD i 0) (u.getD i 0)).all id) (ev_notN (ev_n 3)) fun _ => ev_one (ev_all T.b_all (EvE.of (ev_lc [("_law_at", 4)] (fun i => .bool (wiV (a.getD i 0) (b.getD i 0) (l.getD i 0) (u.getD i 0)))
        (ei_to T.b_range (ev_len T.b_len (ev_ix1 (ev_n 3) rfl)) (by omega)) (blkOk_by (N := ["_law_kind", "_law_inner", "_law_outer", "_law_box", "_law_at", "_law_least", "_law_greatest"]) (sc := defScope s_law_inside_due) (by decide +kernel))
        (fun _ _ _ _ _ i _ => as_n 4) (by decide) (fun _ _ _ _ _ i hi => ev_and (ev_le (ev_at (ev_ix1 (ev_n 2) rfl) (ev_n 4) (by omega)) (ev_at (ev_ix1 (ev_n 3) rfl) (ev_n 4) (by omega))) fun _ => ev_one (ev_le (ev_at (ev_ix2 (ev_n 3) rfl) (ev_n 4) (by omega)) (ev_at (ev_ix2 (ev_n 2) rfl) (ev_n 4) (by omega)))) (fun i _ => .bl _) (by omega))
        (by rw [List.map_map]; rfl)))).imp fun _ e => ?_)
      rw [e, within_all a b l u (by omega) (by omega) (by omega)]
      unfold inside
      rw [ha]
      rfl
  · have hc : VI n O.c := by
      cases O with
      | ball c r => exact hO
      | cell c a b => exact hO
      | box l u => cases h
    refine x_two 5 6 (ev_call T.t_law_shell (ok_law_shell T) (hr.mono (by decide)) (ea_cons (ev_n 2) ea_nil) ⟨O, rfl, h, rfl⟩) ?_
    refine x_ret ((ev_and (ev_ge (ev_call T.t_law_floor (ok_law_floor T) hr (ea_cons (ev_n 0) (ea_cons (ev_n 1) (ea_cons (ev_c (ev_n 2)) ea_nil))) ⟨k, I, O.c, n, rfl, h8, hI, hk, hc, rfl⟩) (ev_n 5))
      fun _ => ev_one (ev_le (ev_call T.t_law_ceiling (ok_law_ceiling T) hr (ea_cons (ev_n 0) (ea_cons (ev_n 1) (ea_cons (ev_c (ev_n 2)) ea_nil))) ⟨k, I, O.c, n, rfl, h8, hI, hk, hc, rfl⟩) (ev_n 6))).imp fun _ e => ?_)
    rw [e]
    cases O with
    | ball c r => rfl
    | cell c a b => rfl
    | box l u => cases h
end
end Ng

set_option Elab.async false
set_option linter.all false
set_option maxRecDepth 100000
set_option maxHeartbeats 4000000
/-! The law's window. -/
namespace Ng
open PySem PySem.Spec PyProof.Rows L2
def put (v : Vc) (i : Nat) (x : Int) : Vc := v.take i ++ [x] ++ v.drop (i + 1)
def pair1 (v : Vc) (w : Int) (i : Nat) : List Vc := [put v i (v.getD i 0 + w), put v i (v.getD i 0 + -w)]
def win1 (v : Vc) (w : Int) : Nat → List Vc
  | 0 => [v]
  | i + 1 => win1 v w i ++ pair1 v w i
def row (w : Nat) (x : Int) (s : Vc) : List Vc := (List.range (2 * w + 1)).map fun (t : Nat) => s ++ [x + (-(w : Int) + (t : Int))]
def win2 (v : Vc) (w : Nat) : Nat → List Vc
  | 0 => [[]]
  | i + 1 => (win2 v w i).flatMap (row w (v.getD i 0))
def window (v : Vc) (w : Nat) : List Vc := if 3 < v.length then win1 v w v.length else win2 v w v.length
theorem put_len {v : Vc} {i : Nat} {x : Int} (h : i < v.length) : (put v i x).length = v.length := by
  unfold put
  simp
  omega
theorem bd_put {m m' : Int} {v : Vc} {i : Nat} {x : Int} (h : Bd m v) (hm : m ≤ m') (hx : -m' ≤ x ∧ x ≤ m') : Bd m' (put v i x) := by
  intro y hy
  unfold put at hy
  rw [List.mem_append, List.mem_append, List.mem_singleton] at hy
  rcases hy with (hy | rfl) | hy
  · exact h.mono hm y (List.mem_of_mem_take hy)
  · exact hx
  · exact h.mono hm y (List.mem_of_mem_drop hy)
theorem win1_ok {m w : Int} {v : Vc} (h : Bd m v) (hm : 0 ≤ m) (hw : 0 ≤ w) : ∀ i, i ≤ v.length → ∀ x ∈ win1 v w i, x.length = v.length ∧ Bd (m + w) x
  | 0, _, x, hx => by
    have := List.mem_singleton.mp hx
    subst this
    exact ⟨rfl, h.mono (by omega)⟩
  | i + 1, hi, x, hx => by
    rcases List.mem_append.mp hx with hx | hx
    · exact win1_ok h hm hw i (by omega) x hx
    · have hv := bd_get h hm i
      rcases List.mem_cons.mp hx with rfl | hx
      · exact ⟨put_len (by omega), bd_put h (by omega) (by omega)⟩
      · have := List.mem_singleton.mp hx
        subst this
        exact ⟨put_len (by omega), bd_put h (by omega) (by omega)⟩
theorem win2_ok {m : Int} {w : Nat} {v : Vc} (h : Bd m v) (hm : 0 ≤ m) : ∀ i, i ≤ v.length → ∀ x ∈ win2 v w i, x.length = i ∧ Bd (m + w) x
  | 0, _, x, hx => by
    have := List.mem_singleton.mp hx
    subst this
    exact ⟨rfl, fun y hy => by simp at hy⟩
  | i + 1, hi, x, hx => by
    obtain ⟨s, hs, hx⟩ := List.mem_flatMap.mp hx
    obtain ⟨t, ht, rfl⟩ := List.mem_map.mp hx
    have ht := List.mem_range.mp ht
    obtain ⟨a, b⟩ := win2_ok h hm i (by omega) s hs
    refine ⟨by simp [a], fun y hy => ?_⟩
    rcases List.mem_append.mp hy with hy | hy
    · exact b y hy
    · have := List.mem_singleton.mp hy
      subst this
      have := bd_get h hm i
      omega
theorem win2_mem {w : Nat} {v : Vc} : ∀ i, ∀ x ∈ win2 v w i, x.length = i
  | 0, x, hx => by
    have := List.mem_singleton.mp hx
    subst this
    rfl
  | i + 1, x, hx => by
    obtain ⟨s, hs, hx⟩ := List.mem_flatMap.mp hx
    obtain ⟨t, ht, rfl⟩ := List.mem_map.mp hx
    have := win2_mem i s hs
    simp [this]
theorem flat_take (f : Vc → List Vc) {L : List Vc} {j : Nat} (h : j < L.length) : (L.take (j + 1)).flatMap f = (L.take j).flatMap f ++ f (L.getD j []) := by
  rw [List.take_add_one, List.flatMap_append, List.getD_eq_getElem?_getD, List.getElem?_eq_getElem h]
  simp
theorem window_ok {m : Int} {w : Nat} {v : Vc} (h : Bd m v) (hm : 0 ≤ m) {x : Vc} (hx : x ∈ window v w) : x.length = v.length ∧ Bd (m + w) x := by
  unfold window at hx
  split at hx
  · exact win1_ok h hm (by omega) _ (Nat.le_refl _) x hx
  · exact win2_ok h hm _ (Nat.le_refl _) x hx
theorem win1_len (v : Vc) (w : Int) : ∀ i, (win1 v w i).length = 1 + 2 * i
  | 0 => rfl
  | i + 1 => by
    show (win1 v w i ++ pair1 v w i).length = _
    rw [List.length_append, win1_len v w i]
    show 1 + 2 * i + 2 = _
    omega
theorem row_len (w : Nat) (x : Int) (s : Vc) : (row w x s).length = 2 * w + 1 := by
  unfold row
  rw [List.length_map, List.length_range]
theorem flat_len (w : Nat) (x : Int) : ∀ L : List Vc, (L.flatMap (row w x)).length = L.length * (2 * w + 1)
  | [] => by simp
  | s :: L => by rw [List.flatMap_cons, List.length_append, row_len, flat_len w x L, List.length_cons, Nat.add_mul]; omega
theorem win2_len (v : Vc) (w : Nat) : ∀ i, (win2 v w i).length = (2 * w + 1) ^ i
  | 0 => rfl
  | i + 1 => by
    show ((win2 v w i).flatMap (row w (v.getD i 0))).length = _
    rw [flat_len, win2_len v w i, Nat.pow_succ]
def vecs (L : List Vc) : PyData := .list (L.map vec)
section
variable {P : Program} {w : World} {K : PySem.W.Frag} {mg : Str → Option Value} {base : Heap}
theorem vget0 {L : List Vc} {i : Nat} (h : i < L.length) : (L.map vec)[i]? = some (vec (L.getD i [])) := by
  rw [List.getElem?_map, List.getElem?_eq_getElem h, List.getD_eq_getElem?_getD, List.getElem?_eq_getElem h]
  rfl
theorem ei_vecs {X : Cx} {W : Wd X.K} {Γ : Gm} {e tg : Expr} {L : List Vc} (h : EvD X W Γ e (vecs L)) : EvI X W Γ tg e L.length fun i => vec (L.getD i []) :=
  (ei_list (f := fun i => vec (L.getD i [])) h fun i hi => vget0 (by simpa using hi)).congr (by simp) fun _ _ => rfl
theorem put_vec (v : Vc) (i : Nat) (x : Int) : PyData.tuple ((v.map .int).take i ++ [.int x] ++ (v.map .int).drop (i + 1)) = vec (put v i x) := by
  unfold vec put
  rw [List.map_append, List.map_append, List.map_take, List.map_drop]
  rfl
theorem fl_vec (v : Vc) : Fl (vec v) := .tup (FlL.of fun d hd => by
  obtain ⟨x, _, rfl⟩ := List.mem_map.mp hd
  exact .int x)
def Flwindow (ds : List PyData) (d : PyData) : Prop := ∃ (v : Vc) (w : Nat), ds = [vec v, .int w] ∧ v.length ≤ 8 ∧ w ≤ 3 ∧ d = vecs (window v w)
theorem pow3 {w i : Nat} (hw : w ≤ 3) (hi : i ≤ 3) : (2 * w + 1) ^ i ≤ 343 :=
  Nat.le_trans (Nat.pow_le_pow_left (show 2 * w + 1 ≤ 7 by omega) i) (Nat.le_trans (Nat.pow_le_pow_right (by decide) hi) (by decide))
theorem ok_law_window (T : Txt K mg) : FnOk P w K mg base CX0 1 T.t_law_window.f T.t_law_window.fd ["_law_vector", "_law_wide"] (Pu K Flwindow) := by
  refine ok_pure T.t_law_window.fn sc_law_window (fun ds d ⟨a, b, e, _⟩ => by rw [e]; rfl) fun cdv A outer s H E M hp ds d hr hF => ?_
  obtain ⟨v, wd, rfl, h8, hw, rfl⟩ := hF
  refine x_ifr (et_gt (ev_len T.b_len (ev_n 0)) ev_i) (fun q => ?_) fun q => ?_
  · have q : 3 < v.length := by
      have := of_decide_eq_true q
      omega
    have ew : window v wd = win1 v wd v.length := by
      unfold window
      rw [if_pos q]
    rw [ew]
    refine x_setD 2 (ev_lst (ea_cons (ev_n 0) ea_nil)) ?_
    refine x_for (ei_to T.b_range (ev_len T.b_len (ev_n 0)) (by omega)) (fun i Γ => ∃ a b c d e, Γ = [some (vec v), some (.int wd), some (vecs (win1 v wd i)), a, b, c, d, e]) ⟨none, none, none, none, none, rfl⟩ ?_ ?_
    · rintro i _ hi ⟨a, b, c, d, e, rfl⟩
      refine ⟨_, _, as_n 3, ?_⟩
      refine x_setD 2 (EvE.of (ev_catL (ev_n 2) (ev_lc [("_law_step", 4)] (fun j => vec (put v i (v.getD i 0 + [(wd : Int), -(wd : Int)].getD j 0)))
        (ei_ints (a := [(wd : Int), -(wd : Int)]) (ev_lst (ea_cons (ev_n 1) (ea_cons (ev_neg (ev_n 1)) ea_nil))))
        (blkOk_by (N := ["_law_vector", "_law_wide", "_law_found", "_law_at", "_law_step", "_law_part_here", "_law_longer", "_law_some"]) (sc := defScope s_law_window) (by decide +kernel))
        (fun _ _ _ _ _ j _ => as_n 4) (by decide) (fun _ _ _ _ _ j hj => EvE.of (ev_catT (ev_catT (ev_slTo (ev_n 0) (ev_n 3)) (ev_tup (ea_cons (ev_add (ev_at (ev_n 0) (ev_n 3) hi) (ev_n 4)) ea_nil)) ?_) (ev_slFrom (i := i + 1) (ev_n 0) (EvE.of (ev_add (ev_n 3) ev_i) rfl)) ?_) (put_vec v i _)) (fun j _ => fl_vec _) (show 2 ≤ 100000 by decide)) ?_) (d' := vecs (win1 v wd (i + 1))) ?_) (x_nil ⟨_, _, _, _, _, rfl⟩)
      · simp; omega
      · simp; omega
      · simp [win1_len]; omega
      · show PyData.list (_ ++ [_, _]) = PyData.list (List.map vec (win1 v wd i ++ pair1 v wd i))
        rw [List.map_append]
        rfl
    · rintro _ ⟨a, b, c, d, e, rfl⟩
      exact x_ret (ev_n 2)
  · have q : v.length ≤ 3 := by
      have := of_decide_eq_false q
      omega
    have ew : window v wd = win2 v wd v.length := by
      unfold window
      rw [if_neg (by omega)]
    rw [ew]
    refine x_setD 2 (d := vecs [[]]) (ev_lst (ea_cons (ev_tup ea_nil) ea_nil)) ?_
    refine x_for (ei_vec (ev_n 0)) (fun i Γ => ∃ a b c d e, Γ = [some (vec v), some (.int wd), some (vecs (win2 v wd i)), a, b, c, d, e]) ⟨none, none, none, none, none, rfl⟩ ?_ ?_
    · rintro i _ hi ⟨a, b, c, d, e, rfl⟩
      refine ⟨_, _, as_n 5, ?_⟩
      refine x_setD 6 (d := vecs []) (ev_lst ea_nil) ?_
      have hl := win2_len v wd i
      have h3 := pow3 hw (show i ≤ 3 by omega)
      generalize hL : win2 v wd i = L at hl ⊢
      generalize hx : v.getD i 0 = x
      refine x_for (ei_vecs (L := L) (ev_n 2)) (fun j Γ => ∃ a b e, Γ = [some (vec v), some (.int wd), some (vecs L), a, b, some (.int x), some (vecs ((L.take j).flatMap (row wd x))), e]) ⟨_, _, _, rfl⟩ ?_ ?_
      · rintro j _ hj ⟨a, b, e, rfl⟩
        refine ⟨_, _, as_n 7, ?_⟩
        refine x_setD 6 (EvE.of (ev_catL (ev_n 6) (ev_lc [("_law_step", 4)] (fun t => vec (L.getD j [] ++ [x + (-(wd : Int) + (t : Int))]))
          (ei_range2 T.b_range (ev_neg (ev_n 1)) (ev_add (ev_n 1) ev_i) (by omega))
          (blkOk_by (N := ["_law_vector", "_law_wide", "_law_found", "_law_at", "_law_step", "_law_part_here", "_law_longer", "_law_some"]) (sc := defScope s_law_window) (by decide +kernel))
          (fun _ _ _ _ _ t _ => as_n 4) (by decide) (fun _ _ _ _ _ t ht => EvE.of (ev_catT (ev_n 7) (ev_tup (ea_cons (ev_add (ev_n 5) (ev_n 4)) ea_nil)) ?_) ?_) (fun j _ => fl_vec _) (by omega)) ?_) (d' := vecs ((L.take (j + 1)).flatMap (row wd x))) ?_) (x_nil ⟨_, _, _, rfl⟩)
        · have hm : L.getD j [] ∈ L := by
            rw [List.getD_eq_getElem?_getD, List.getElem?_eq_getElem hj]
            exact List.getElem_mem hj
          have := win2_mem i (L.getD j []) (by rw [hL]; exact hm)
          rw [List.length_map, this]
          show i + 1 ≤ 100000
          omega
        · show PyData.tuple (_ ++ [_]) = PyData.tuple (List.map _ (_ ++ [_]))
          rw [List.map_append]
          rfl
        · rw [List.length_map, flat_len, List.length_take, List.length_map, List.length_range]
          have : min j L.length * (2 * wd + 1) ≤ 343 * 7 := Nat.mul_le_mul (by omega) (by omega)
          omega
        · rw [flat_take _ hj, show ((wd : Int) + 1 - -(wd : Int)).toNat = 2 * wd + 1 by omega]
          unfold vecs row
          rw [List.map_append, List.map_map]
          rfl
      · rintro _ ⟨a, b, e, rfl⟩
        have h2 : win2 v wd (i + 1) = L.flatMap (row wd x) := by
          show (win2 v wd i).flatMap (row wd (v.getD i 0)) = _
          rw [hL, hx]
        rw [List.take_length, ← h2]
        exact x_setD 2 (ev_n 6) (x_nil ⟨_, _, _, _, _, rfl⟩)
    · rintro _ ⟨a, b, c, d, e, rfl⟩
      exact x_ret (ev_n 2)
end
end Ng

set_option Elab.async false
set_option linter.all false
set_option maxRecDepth 100000
set_option maxHeartbeats 1000000
/-! Plain: a region inside of another one holds no vector that the other one lacks. -/
namespace Ng
open PySem PySem.Spec PyProof.Rows L2
def jn (k : Kd) (p q : Int) : Int := if k = .mo then max p q else p + q
theorem fold_max : ∀ (ps : List Int) (a b : Int), ps.foldl max (max a b) = max a (ps.foldl max b)
  | [], _, _ => rfl
  | p :: ps, a, b => by
    rw [List.foldl_cons, List.foldl_cons, show max (max a b) p = max a (max b p) by omega, fold_max ps a (max b p)]
theorem joined_cons (k : Kd) (p : Int) (ps : List Int) (h : 0 ≤ p) : joined k (p :: ps) = jn k p (joined k ps) := by
  cases k with
  | mo =>
    show (p :: ps).foldl max 0 = max p (ps.foldl max 0)
    rw [List.foldl_cons, show max 0 p = max p 0 by omega, fold_max]
  | sq => exact List.sum_cons
  | su => exact List.sum_cons
  | un => exact List.sum_cons
theorem joined_nil (k : Kd) : joined k [] = 0 := by cases k <;> rfl
theorem dist_nil (k : Kd) : dist k [] [] = 0 := joined_nil k
theorem dist_cons (k : Kd) (x y : Int) (a b : Vc) : dist k (x :: a) (y :: b) = jn k (part k (x - y)) (dist k a b) := by
  show joined k (part k (x - y) :: (sub a b).map (part k)) = _
  rw [joined_cons k _ _ (part_nonneg k _)]
  rfl
theorem jn_mono {k : Kd} {p p' q q' : Int} (h : p ≤ p') (h2 : q ≤ q') : jn k p q ≤ jn k p' q' := by
  unfold jn
  split <;> omega
theorem part_mono (k : Kd) {x y : Int} (h : part .su x ≤ part .su y) : part k x ≤ part k y := by
  rw [← part_abs k x, ← part_abs k y]
  have h0 : 0 ≤ part .su x := part_nonneg .su x
  generalize part .su x = a at h h0
  generalize part .su y = b at h
  cases k with
  | sq => exact Int.mul_le_mul h h h0 (by omega)
  | un => unfold part; dsimp only; split <;> split <;> omega
  | su => unfold part; dsimp only; split <;> split <;> omega
  | mo => unfold part; dsimp only; split <;> split <;> omega
theorem part_tri {k : Kd} (hk : k ≠ .sq) (x y : Int) : part k (x + y) ≤ part k x + part k y := by
  cases k with
  | sq => exact absurd rfl hk
  | un => unfold part; dsimp only; split <;> split <;> split <;> omega
  | su => unfold part; dsimp only; split <;> split <;> split <;> omega
  | mo => unfold part; dsimp only; split <;> split <;> split <;> omega
theorem jn_tri {k : Kd} {p q r s t u : Int} (h : p ≤ q + r) (h2 : s ≤ t + u) : jn k p s ≤ jn k q t + jn k r u := by
  unfold jn
  split <;> omega
theorem dist_tri {k : Kd} (hk : k ≠ .sq) : ∀ a b c : Vc, b.length = a.length → c.length = a.length → dist k a c ≤ dist k a b + dist k b c
  | [], [], [], _, _ => by rw [dist_nil]; decide
  | [], _ :: _, _, h, _ => by simp at h
  | [], [], _ :: _, _, h => by simp at h
  | _ :: _, [], _, h, _ => by simp at h
  | _ :: _, _ :: _, [], _, h => by simp at h
  | x :: a, y :: b, z :: c, h1, h2 => by
    rw [dist_cons, dist_cons, dist_cons]
    refine jn_tri ?_ (dist_tri hk a b c (by simpa using h1) (by simpa using h2))
    have := part_tri hk (x - y) (y - z)
    rwa [show x - y + (y - z) = x - z by omega] at this
/-- Cauchy, Schwarz -/
theorem cs_step {X Y D u w : Int} (hX : 0 ≤ X) (hY : 0 ≤ Y) (h : D * D ≤ X * Y) : (D + u * w) * (D + u * w) ≤ (X + u * u) * (Y + w * w) := by
  have hS : 0 ≤ X * (w * w) + Y * (u * u) := Int.add_nonneg (Int.mul_nonneg hX (msn w)) (Int.mul_nonneg hY (msn u))
  have hT : 2 * (D * (u * w)) ≤ X * (w * w) + Y * (u * u) := by
    by_cases hle : 2 * (D * (u * w)) ≤ X * (w * w) + Y * (u * u)
    · exact hle
    · exfalso
      have a1 : (X * (w * w) + Y * (u * u) + 1) * (X * (w * w) + Y * (u * u) + 1) ≤ (2 * (D * (u * w))) * (2 * (D * (u * w))) := Int.mul_le_mul (by omega) (by omega) (by omega) (by omega)
      have a2 : (2 * (D * (u * w))) * (2 * (D * (u * w))) = 4 * ((D * D) * ((u * w) * (u * w))) := by grind
      have a3 : (D * D) * ((u * w) * (u * w)) ≤ (X * Y) * ((u * w) * (u * w)) := Int.mul_le_mul_of_nonneg_right h (msn _)
      have a4 : (X * (w * w) + Y * (u * u)) * (X * (w * w) + Y * (u * u)) = 4 * ((X * Y) * ((u * w) * (u * w))) + (X * (w * w) - Y * (u * u)) * (X * (w * w) - Y * (u * u)) := by grind
      have a5 := msn (X * (w * w) - Y * (u * u))
      have a6 : (X * (w * w) + Y * (u * u) + 1) * (X * (w * w) + Y * (u * u) + 1) = (X * (w * w) + Y * (u * u)) * (X * (w * w) + Y * (u * u)) + 2 * (X * (w * w) + Y * (u * u)) + 1 := by grind
      omega
  have e : (X + u * u) * (Y + w * w) - (D + u * w) * (D + u * w) = (X * Y - D * D) + (X * (w * w) + Y * (u * u) - 2 * (D * (u * w))) := by grind
  omega
theorem cs_dist : ∀ a b c : Vc, b.length = a.length → c.length = a.length → ∃ D : Int, dist .sq b c = dist .sq a b + dist .sq a c - 2 * D ∧ D * D ≤ dist .sq a b * dist .sq a c
  | [], [], [], _, _ => ⟨0, by simp [dist_nil], by simp [dist_nil]⟩
  | [], _ :: _, _, h, _ => by simp at h
  | [], [], _ :: _, _, h => by simp at h
  | _ :: _, [], _, h, _ => by simp at h
  | _ :: _, _ :: _, [], _, h => by simp at h
  | x :: a, y :: b, z :: c, h1, h2 => by
    obtain ⟨D, e, h⟩ := cs_dist a b c (by simpa using h1) (by simpa using h2)
    rw [dist_cons, dist_cons, dist_cons]
    show ∃ D' : Int, (y - z) * (y - z) + dist .sq b c = (x - y) * (x - y) + dist .sq a b + ((x - z) * (x - z) + dist .sq a c) - 2 * D' ∧ D' * D' ≤ ((x - y) * (x - y) + dist .sq a b) * ((x - z) * (x - z) + dist .sq a c)
    refine ⟨D + (x - y) * (x - z), ?_, ?_⟩
    · rw [e]; grind
    · have := cs_step (u := x - y) (w := x - z) (dist_nonneg .sq a b) (dist_nonneg .sq a c) h
      rwa [Int.add_comm ((x - y) * (x - y)), Int.add_comm ((x - z) * (x - z))]
/-- m is no more than the root of n -/
theorem le_isq {m n : Int} (hn : 0 ≤ n) (h : 0 ≤ m → m * m ≤ n) : m ≤ isq n := by
  by_cases h0 : 0 ≤ m
  · exact sq_lt h0 (Int.lt_of_le_of_lt (h h0) (isq_lt n)) (isq_nonneg n)
  · have := isq_nonneg n
    omega
theorem isq_mono {a b : Int} (h : a ≤ b) (ha : 0 ≤ a) : isq a ≤ isq b := le_isq (by omega) fun _ => Int.le_trans (isq_sq ha) h
section
variable {x y z : Int}
/-- Heron -/
def Her (x y z : Int) : Prop := (x + y - z) * (x + y - z) ≤ 4 * x * y
theorem her_dist {a b c : Vc} (h1 : b.length = a.length) (h2 : c.length = a.length) : Her (dist .sq a b) (dist .sq a c) (dist .sq b c) := by
  obtain ⟨D, e, h⟩ := cs_dist a b c h1 h2
  unfold Her
  rw [e]
  generalize dist .sq a b = p at h ⊢
  generalize dist .sq a c = q at h ⊢
  have : (p + q - (p + q - 2 * D)) * (p + q - (p + q - 2 * D)) = 4 * (D * D) := by grind
  have : 4 * p * q = 4 * (p * q) := by grind
  omega
theorem her_far (h : Her x y z) (hx : 0 ≤ x) (hy : 0 ≤ y) {b : Int} (hb : y ≤ b) : z ≤ x + b + isq (4 * x * b) := by
  have m1 : 4 * x * y ≤ 4 * x * b := Int.mul_le_mul_of_nonneg_left hb (by omega)
  have m0 : 0 ≤ 4 * x * y := Int.mul_nonneg (by omega) hy
  have : z - x - y ≤ isq (4 * x * b) := le_isq (by omega) fun _ => by
    have e : (z - x - y) * (z - x - y) = (x + y - z) * (x + y - z) := by grind
    unfold Her at h
    omega
  omega
theorem her_near (h : Her x y z) (hy : 0 ≤ y) (hz : 0 ≤ z) {b : Int} (hb : y ≤ b) (hx : b ≤ x) : x + b - isq (4 * x * b) ≤ z := by
  have m0 : 0 ≤ 4 * x * b := Int.mul_nonneg (by omega) (by omega)
  have : x + b - z ≤ isq (4 * x * b) := le_isq m0 fun _ => by
    have e : ((x + b - z) * (x + b - z) - 4 * x * b) = ((x + y - z) * (x + y - z) - 4 * x * y) + (b - y) * (b + y - 2 * x - 2 * z) := by grind
    have m : 0 ≤ (b - y) * (2 * x + 2 * z - b - y) := Int.mul_nonneg (by omega) (by omega)
    have m' : (b - y) * (b + y - 2 * x - 2 * z) = -((b - y) * (2 * x + 2 * z - b - y)) := by grind
    unfold Her at h
    omega
  omega
theorem her_in (h : Her x y z) (hx : 0 ≤ x) (hz : 0 ≤ z) {a : Int} (ha : a ≤ y) (hxa : x < a) : a + x - isq (4 * a * x) ≤ z := by
  have m0 : 0 ≤ 4 * a * x := Int.mul_nonneg (by omega) hx
  have : a + x - z ≤ isq (4 * a * x) := le_isq m0 fun hm => by
    by_cases hq : (a + x - z) * (a + x - z) ≤ 4 * a * x
    · exact hq
    · exfalso
      unfold Her at h
      have e : (a + x - z) * (a + x - z) - 4 * a * x = ((x + y - z) * (x + y - z) - 4 * x * y) + (y - a) * (2 * x + 2 * z - a - y) := by grind
      have hp : 0 < (y - a) * (2 * x + 2 * z - a - y) := by omega
      have hp2 : 0 < 2 * x + 2 * z - a - y := by
        by_cases hn : 0 < 2 * x + 2 * z - a - y
        · exact hn
        · exfalso
          have : 0 ≤ (y - a) * -(2 * x + 2 * z - a - y) := Int.mul_nonneg (by omega) (by omega)
          rw [Int.mul_neg] at this
          omega
      have e2 : (a + x - z) * (a + x - z) - 4 * a * x = (x + z - a) * (x + z - a) - 4 * (x * z) := by grind
      have e3 : (x + z - a) * (x + z - a) ≤ (2 * x) * z := Int.mul_le_mul (by omega) (by omega) (by omega) (by omega)
      have e4 : 2 * x * z = 2 * (x * z) := by grind
      have e5 := Int.mul_nonneg hx hz
      omega
  omega
end
/-- shells -/
theorem far_ok {k : Kd} {c C v : Vc} {b : Int} (h1 : C.length = c.length) (h2 : v.length = c.length) (hb : dist k c v ≤ b) : dist k C v ≤ most k (dist k c C) b := by
  have hx := dist_nonneg k c C
  have hy := dist_nonneg k c v
  unfold most
  by_cases hk : k = .sq
  · subst hk
    rw [if_pos rfl]
    exact her_far (her_dist h1 h2) hx hy hb
  · rw [if_neg hk]
    have := dist_tri hk C c v (by omega) (by omega)
    rw [dist_symm k C c] at this
    omega
theorem near_ok {k : Kd} {c C v : Vc} {a b : Int} (h1 : C.length = c.length) (h2 : v.length = c.length) (ha : a ≤ dist k c v) (hb : dist k c v ≤ b) : shellF k a b (dist k c C) (dist k c C) ≤ dist k C v := by
  have hx := dist_nonneg k c C
  have hy := dist_nonneg k c v
  have hz := dist_nonneg k C v
  unfold shellF beyond
  split
  · rename_i hlt
    unfold gap
    by_cases hk : k = .sq
    · subst hk
      rw [if_pos rfl]
      exact her_near (her_dist h1 h2) hy hz hb (by omega)
    · rw [if_neg hk, if_neg (by omega)]
      have := dist_tri hk c v C (by omega) (by omega)
      rw [dist_symm k v C] at this
      omega
  · split
    · rename_i hlt
      unfold gap
      by_cases hk : k = .sq
      · subst hk
        rw [if_pos rfl]
        exact her_in (her_dist h1 h2) hx hz ha hlt
      · rw [if_neg hk, if_neg (by omega)]
        have := dist_tri hk c C v (by omega) (by omega)
        omega
    · exact hz
theorem un_len : ∀ a b : Vc, dist .un a b ≤ (b.length : Int)
  | [], [] => by rw [dist_nil]; decide
  | [], _ :: _ => by
    show (0 : Int) ≤ _
    omega
  | _ :: _, [] => by
    show (0 : Int) ≤ _
    omega
  | x :: a, y :: b => by
    rw [dist_cons]
    have := un_len a b
    show (if x - y = 0 then (0 : Int) else 1) + dist .un a b ≤ ((b.length + 1 : Nat) : Int)
    split <;> omega
/-- v lies in the box -/
def InB : Vc → Vc → Vc → Prop
  | x :: l, y :: u, p :: v => (x ≤ p ∧ p ≤ y) ∧ InB l u v
  | _, _, _ => True
theorem inB_iff (k : Kd) : ∀ l u v : Vc, holds k (.box l u) v = true ↔ InB l u v
  | [], _, _ => by simp [holds, z3, InB]
  | _ :: _, [], _ => by simp [holds, z3, InB]
  | _ :: _, _ :: _, [] => by simp [holds, z3, InB]
  | x :: l, y :: u, p :: v => by
    have ih := inB_iff k l u v
    unfold holds at ih ⊢
    simp only [z3, List.all_cons, id, Bool.and_eq_true, decide_eq_true_eq, InB, ih]
theorem box_floor (k : Kd) : ∀ l u C v : Vc, u.length = l.length → C.length = l.length → v.length = l.length → InB l u v → joined k ((z3 gapTo l u C).map (part k)) ≤ dist k C v
  | [], [], [], [], _, _, _, _ => by rw [dist_nil]; simp [z3, joined_nil]
  | [], _ :: _, _, _, h, _, _, _ => by simp at h
  | [], [], _ :: _, _, _, h, _, _ => by simp at h
  | [], [], [], _ :: _, _, _, h, _ => by simp at h
  | _ :: _, [], _, _, h, _, _, _ => by simp at h
  | _ :: _, _ :: _, [], _, _, h, _, _ => by simp at h
  | _ :: _, _ :: _, _ :: _, [], _, _, h, _ => by simp at h
  | x :: l, y :: u, p :: C, q :: v, h1, h2, h3, h => by
    have ih := box_floor k l u C v (by simpa using h1) (by simpa using h2) (by simpa using h3) h.2
    rw [dist_cons]
    show joined k (part k (gapTo x y p) :: (z3 gapTo l u C).map (part k)) ≤ _
    rw [joined_cons k _ _ (part_nonneg k _)]
    refine jn_mono (part_mono k ?_) ih
    have := h.1
    rw [part_su, part_su]
    unfold gapTo
    split <;> split <;> (try split) <;> (try split) <;> omega
theorem box_ceil (k : Kd) : ∀ l u C v : Vc, u.length = l.length → C.length = l.length → v.length = l.length → InB l u v → dist k C v ≤ joined k ((z3 roomTo l u C).map (part k))
  | [], [], [], [], _, _, _, _ => by rw [dist_nil]; simp [z3, joined_nil]
  | [], _ :: _, _, _, h, _, _, _ => by simp at h
  | [], [], _ :: _, _, _, h, _, _ => by simp at h
  | [], [], [], _ :: _, _, _, h, _ => by simp at h
  | _ :: _, [], _, _, h, _, _, _ => by simp at h
  | _ :: _, _ :: _, [], _, _, h, _, _ => by simp at h
  | _ :: _, _ :: _, _ :: _, [], _, _, h, _ => by simp at h
  | x :: l, y :: u, p :: C, q :: v, h1, h2, h3, h => by
    have ih := box_ceil k l u C v (by simpa using h1) (by simpa using h2) (by simpa using h3) h.2
    rw [dist_cons]
    show _ ≤ joined k (part k (roomTo x y p) :: (z3 roomTo l u C).map (part k))
    rw [joined_cons k _ _ (part_nonneg k _)]
    refine jn_mono (part_mono k ?_) ih
    have h0 := room_nonneg x y p
    have := h.1
    rw [part_su, part_su, if_neg (show ¬ roomTo x y p < 0 by omega)]
    unfold roomTo
    split <;> split <;> split <;> omega
end Ng

set_option Elab.async false
set_option linter.all false
set_option maxRecDepth 100000
set_option maxHeartbeats 1000000
/-! Plain: boxes hold what they are drawn around; the edges of a ball. -/
namespace Ng
open PySem PySem.Spec PyProof.Rows L2
theorem jn_le {k : Kd} {p q m : Int} (hp : 0 ≤ p) (hq : 0 ≤ q) (h : jn k p q ≤ m) : p ≤ m ∧ q ≤ m := by
  unfold jn at h
  split at h <;> omega
theorem inB_of {k : Kd} {M s : Int} (hs : ∀ x, part k x ≤ M → -s ≤ x ∧ x ≤ s) : ∀ c v : Vc, dist k c v ≤ M → InB (c.map (· - s)) (c.map (· + s)) v
  | [], _, _ => by simp [InB]
  | _ :: _, [], _ => by simp [InB]
  | x :: c, y :: v, h => by
    rw [dist_cons] at h
    obtain ⟨h1, h2⟩ := jn_le (part_nonneg k _) (dist_nonneg k c v) h
    have := hs _ h1
    exact ⟨⟨show x - s ≤ y by omega, show y ≤ x + s by omega⟩, inB_of hs c v h2⟩
theorem side_ok {k : Kd} {r s : Int} (h : side k r = some s) : ∀ x, part k x ≤ r → -s ≤ x ∧ x ≤ s := by
  intro x hx
  cases k with
  | sq =>
    have e : s = isq r := (Option.some.inj h).symm
    have hx : x * x ≤ r := hx
    have h0 : 0 ≤ r := Int.le_trans (msn x) hx
    have a := le_isq h0 (m := x) fun _ => hx
    have b := le_isq h0 (m := -x) fun _ => by rwa [Int.neg_mul_neg]
    omega
  | su =>
    have e : s = r := (Option.some.inj h).symm
    rw [part_su] at hx
    split at hx <;> omega
  | mo =>
    have e : s = r := (Option.some.inj h).symm
    have hx : (if x < 0 then -x else x) ≤ r := hx
    split at hx <;> omega
  | un =>
    have hx : (if x = 0 then (0 : Int) else 1) ≤ r := hx
    have h : (if r = 0 then some (0 : Int) else none) = some s := h
    split at h
    · have e : s = 0 := (Option.some.inj h).symm
      split at hx <;> omega
    · cases h
theorem holds_nb {k : Kd} {R : Reg} {v : Vc} (h : R.isBox = false) : holds k R v = decide (R.lo ≤ dist k R.c v ∧ dist k R.c v ≤ R.hi) := by
  cases R with
  | ball c r => rfl
  | cell c a b => rfl
  | box l u => cases h
theorem around_sound {k : Kd} {I : Reg} {a b v : Vc} (ha : around k I = some (a, b)) (hv : holds k I v = true) : InB a b v := by
  cases hb : I.isBox with
  | true =>
    obtain ⟨l, u, rfl⟩ := isBox_of hb
    cases ha
    exact (inB_iff k _ _ v).mp hv
  | false =>
    rw [around_nb hb] at ha
    obtain ⟨s, hs, e⟩ := Option.map_eq_some_iff.mp ha
    cases e
    rw [holds_nb hb] at hv
    exact inB_of (side_ok hs) _ _ (of_decide_eq_true hv).2
theorem inB_mono : ∀ (l u a b v : Vc), a.length = l.length → b.length = u.length → List.zipWith min l a = l → List.zipWith max u b = u → InB a b v → InB l u v
  | [], _, _, _, _, _, _, _, _, _ => by simp [InB]
  | _ :: _, [], _, _, _, _, _, _, _, _ => by simp [InB]
  | _ :: _, _ :: _, _, _, [], _, _, _, _, _ => by simp [InB]
  | _ :: _, _ :: _, [], _, _, h, _, _, _, _ => by simp at h
  | _ :: _, _ :: _, _ :: _, [], _, _, h, _, _, _ => by simp at h
  | x :: l, y :: u, p :: a, q :: b, z :: v, h1, h2, h3, h4, h5 => by
    rw [List.zipWith_cons_cons, List.cons.injEq] at h3 h4
    have := h5.1
    exact ⟨by omega, inB_mono l u a b v (by simpa using h1) (by simpa using h2) h3.2 h4.2 h5.2⟩
theorem inside_sound {k : Kd} {I O : Reg} {n : Nat} {v : Vc} (hI : RI n I) (hO : RO n O) (hv : v.length = n) (hin : inside k I O = true) (h : holds k I v = true) : holds k O v = true := by
  cases hb : O.isBox with
  | true =>
    obtain ⟨l, u, rfl⟩ := isBox_of hb
    unfold inside at hin
    cases ha : around k I with
    | none => rw [ha] at hin; cases hin
    | some p =>
      obtain ⟨a, b⟩ := p
      rw [ha] at hin
      dsimp only at hin
      rw [Bool.and_eq_true] at hin
      obtain ⟨l1, l2⟩ := around_len hI ha
      exact (inB_iff k l u v).mpr (inB_mono l u a b v (by rw [l1]; exact hO.1.symm) (by rw [l2]; exact hO.2.symm) (of_decide_eq_true hin.1) (of_decide_eq_true hin.2) (around_sound ha h))
  | false =>
    have hin' : (decide (O.lo ≤ floorR k I O.c) && decide (ceilR k I O.c ≤ O.hi)) = true := by
      cases O with
      | ball c r => exact hin
      | cell c a b => exact hin
      | box l u => cases hb
    have hc : O.c.length = n := by
      cases O with
      | ball c r => exact hO.1
      | cell c a b => exact hO.1
      | box l u => cases hb
    rw [Bool.and_eq_true] at hin'
    have h1 := of_decide_eq_true hin'.1
    have h2 := of_decide_eq_true hin'.2
    rw [holds_nb hb]
    have goal : floorR k I O.c ≤ dist k O.c v ∧ dist k O.c v ≤ ceilR k I O.c := by
      cases hbi : I.isBox with
      | true =>
        obtain ⟨l, u, rfl⟩ := isBox_of hbi
        have q := (inB_iff k l u v).mp h
        have g1 := hI.1
        have g2 := hI.2.1
        exact ⟨box_floor k l u O.c v (by omega) (by omega) (by omega) q, box_ceil k l u O.c v (by omega) (by omega) (by omega) q⟩
      | false =>
        rw [holds_nb hbi] at h
        obtain ⟨h3, h4⟩ := of_decide_eq_true h
        have g := hI.c.1
        have e1 : floorR k I O.c = shellF k I.lo I.hi (dist k I.c O.c) (dist k I.c O.c) := by
          cases I with
          | ball c r => rfl
          | cell c a b => rfl
          | box l u => cases hbi
        have e2 : ceilR k I O.c = cap k (most k (dist k I.c O.c) I.hi) (O.c.length : Int) := by
          cases I with
          | ball c r => rfl
          | cell c a b => rfl
          | box l u => cases hbi
        rw [e1, e2]
        refine ⟨near_ok (by omega) (by omega) h3 h4, ?_⟩
        have f := far_ok (k := k) (C := O.c) (show O.c.length = I.c.length by omega) (show v.length = I.c.length by omega) h4
        unfold cap
        split
        · rename_i hk
          subst hk
          have := un_len O.c v
          omega
        · exact f
    exact decide_eq_true ⟨by omega, by omega⟩
theorem jn_zero (k : Kd) {q : Int} (h : 0 ≤ q) : jn k 0 q = q := by
  unfold jn
  split <;> omega
theorem jn_zero' (k : Kd) {q : Int} (h : 0 ≤ q) : jn k q 0 = q := by
  unfold jn
  split <;> omega
theorem part_zero (k : Kd) : part k 0 = 0 := by cases k <;> rfl
theorem dist_self (k : Kd) : ∀ c : Vc, dist k c c = 0
  | [] => dist_nil k
  | x :: c => by rw [dist_cons, dist_self k c, Int.sub_self, part_zero, jn_zero k (by decide)]
theorem put_cons (x : Int) (c : Vc) (i : Nat) (y : Int) : put (x :: c) (i + 1) y = x :: put c i y := by
  unfold put
  simp
theorem put_zero (x : Int) (c : Vc) (y : Int) : put (x :: c) 0 y = y :: c := by
  unfold put
  simp
theorem dist_put (k : Kd) : ∀ (c : Vc) (i : Nat) (y : Int), i < c.length → dist k c (put c i y) = part k (c.getD i 0 - y)
  | [], _, _, h => by simp at h
  | x :: c, 0, y, _ => by
    rw [put_zero, dist_cons, dist_self, jn_zero' k (part_nonneg k _)]
    rfl
  | x :: c, i + 1, y, h => by
    rw [put_cons, dist_cons, dist_put k c i y (by simpa using h), Int.sub_self, part_zero, jn_zero k (part_nonneg k _)]
    rfl
theorem put_get : ∀ (c : Vc) (i : Nat) (y : Int), i < c.length → (put c i y).getD i 0 = y
  | [], _, _, h => by simp at h
  | x :: c, 0, y, _ => by rw [put_zero]; rfl
  | x :: c, i + 1, y, h => by
    rw [put_cons]
    exact put_get c i y (by simpa using h)
theorem put_put : ∀ (c : Vc) (i : Nat) (y z : Int), i < c.length → put (put c i y) i z = put c i z
  | [], _, _, _, h => by simp at h
  | x :: c, 0, y, z, _ => by rw [put_zero, put_zero, put_zero]
  | x :: c, i + 1, y, z, h => by
    rw [put_cons, put_cons, put_cons, put_put c i y z (by simpa using h)]
/-- the edge of a ball lies in it, the next vector does not -/
theorem edge_ok {k : Kd} {c : Vc} {r s : Int} {i : Nat} (hr : 0 ≤ r) (hs : side k r = some s) (hi : i < c.length) : holds k (.ball c r) (put c i (c.getD i 0 + s)) = true ∧ holds k (.ball c r) (put c i (c.getD i 0 + s + 1)) = false := by
  have e1 : holds k (.ball c r) (put c i (c.getD i 0 + s)) = decide (0 ≤ part k (-s) ∧ part k (-s) ≤ r) := by
    show decide (0 ≤ dist k c _ ∧ dist k c _ ≤ r) = _
    rw [dist_put k c i _ hi, show c.getD i 0 - (c.getD i 0 + s) = -s by omega]
  have e2 : holds k (.ball c r) (put c i (c.getD i 0 + s + 1)) = decide (0 ≤ part k (-(s + 1)) ∧ part k (-(s + 1)) ≤ r) := by
    show decide (0 ≤ dist k c _ ∧ dist k c _ ≤ r) = _
    rw [dist_put k c i _ hi, show c.getD i 0 - (c.getD i 0 + s + 1) = -(s + 1) by omega]
  rw [e1, e2, part_neg, part_neg]
  have p0 := part_nonneg k s
  suffices h : part k s ≤ r ∧ r < part k (s + 1) by
    exact ⟨decide_eq_true ⟨p0, h.1⟩, decide_eq_false fun q => by omega⟩
  cases k with
  | sq =>
    have e : s = isq r := (Option.some.inj hs).symm
    subst e
    exact ⟨isq_sq hr, isq_lt r⟩
  | su =>
    have e : s = r := (Option.some.inj hs).symm
    subst e
    rw [part_su, part_su, if_neg (by omega), if_neg (by omega)]
    omega
  | mo =>
    have e : s = r := (Option.some.inj hs).symm
    subst e
    show (if s < 0 then -s else s) ≤ s ∧ s < (if s + 1 < 0 then -(s + 1) else s + 1)
    rw [if_neg (by omega), if_neg (by omega)]
    omega
  | un =>
    have hs : (if r = 0 then some (0 : Int) else none) = some s := hs
    split at hs
    · have e : s = 0 := (Option.some.inj hs).symm
      subst e
      show (if (0 : Int) = 0 then (0 : Int) else 1) ≤ r ∧ r < (if (0 : Int) + 1 = 0 then 0 else 1)
      rw [if_pos rfl, if_neg (by decide)]
      omega
    · cases hs
end Ng

set_option Elab.async false
set_option linter.all false
set_option maxRecDepth 100000
set_option maxHeartbeats 4000000
/-! What is shown; the law's checks of one pair. -/
namespace Ng
open PySem PySem.Spec PyProof.Rows L2
theorem tupT_len (ts : List Str) : (tupleText ts).length ≤ piled ts + 3 := by
  unfold tupleText
  rw [strLen_append, strLen_append]
  have e1 : ((("(" : String) : Str)).length = 1 := rfl
  have e3 : (((if ts.length == 1 then ",)" else ")" : String) : Str)).length ≤ 2 := by split <;> decide
  rw [e1]
  by_cases h : ts = []
  · subst h
    have : (Str.join ", " []).length = 0 := by decide +kernel
    omega
  · have := join_length_add ts h
    omega
theorem lstT_len : ∀ ts : List Str, (listText ts).length ≤ piled ts + 3
  | [] => by decide +kernel
  | t :: r => by
    have h := textFrom_length_pos r 1 (("[" : Str) ++ (if (0 : Nat) > 0 then ", " else "" : String) ++ t) (Nat.succ_pos 0)
    have e : ((("[" : Str) ++ (if (0 : Nat) > 0 then ", " else "" : String) ++ t)).length = 1 + t.length := by
      rw [strLen_append, strLen_append]; rfl
    have hX : (listText (t :: r)).length = (textFrom 0 "[" (t :: r)).length + 1 := by
      show (textFrom 0 "[" (t :: r) ++ "]").length = _
      rw [strLen_append]; rfl
    have hY : (textFrom 0 "[" (t :: r)).length = (textFrom 1 (("[" : Str) ++ (if (0 : Nat) > 0 then ", " else "" : String) ++ t) r).length := rfl
    rw [hX, hY, h, e, piled_cons]
    omega
def Sz (x : Int) : Prop := -1000000000000 ≤ x ∧ x ≤ 1000000000000
theorem Sz.log {x : Int} (h : Sz x) : x.natAbs.log2 < 1920 := by
  unfold Sz at h
  by_cases h0 : x.natAbs = 0
  · rw [h0]; decide
  · exact Nat.lt_of_lt_of_le ((Nat.log2_lt h0).mpr (show x.natAbs < 2 ^ 40 by omega)) (by decide)
theorem Sz.len {x : Int} (h : Sz x) : (PyData.shown (.int x)).length ≤ 1921 := by
  have := int_text_len_1921 h.log
  simpa only [PyData.shown] using this
theorem ints_piled : ∀ {a : Vc}, (∀ x ∈ a, Sz x) → piled (PyData.shownAll (a.map .int)) ≤ a.length * 1923
  | [], _ => by simp [PyData.shownAll, piled_nil]
  | x :: a, h => by
    have h1 := Sz.len (h x List.mem_cons_self)
    have h2 := ints_piled (a := a) fun y hy => h y (List.mem_cons_of_mem _ hy)
    rw [List.map_cons, PyData.shownAll, piled_cons, List.length_cons]
    omega
theorem ints_able : ∀ {a : Vc}, (∀ x ∈ a, Sz x) → PyData.showableAll (a.map .int) = true
  | [], _ => by simp [PyData.showableAll]
  | x :: a, h => by
    have h2 := ints_able (a := a) fun y hy => h y (List.mem_cons_of_mem _ hy)
    rw [List.map_cons, PyData.showableAll, h2, PyData.showable, decide_eq_true (h x List.mem_cons_self).log]
    rfl
theorem vec_shown {a : Vc} (h : ∀ x ∈ a, Sz x) (h8 : a.length ≤ 8) : (vec a).shown.length ≤ 20000 := by
  unfold vec
  rw [PyData.shown]
  have h1 := tupT_len (PyData.shownAll (a.map .int))
  have h2 := ints_piled h
  have : a.length * 1923 ≤ 8 * 1923 := Nat.mul_le_mul_right _ h8
  omega
theorem vec_able {a : Vc} (h : ∀ x ∈ a, Sz x) : (vec a).showable = true := by
  unfold vec
  rw [PyData.showable, ints_able h]
/-- numbers that can be shown -/
def SzR : Reg → Prop
  | .ball c r => c.length ≤ 8 ∧ (∀ x ∈ c, Sz x) ∧ Sz r
  | .box l u => l.length ≤ 8 ∧ u.length ≤ 8 ∧ (∀ x ∈ l, Sz x) ∧ ∀ x ∈ u, Sz x
  | .cell c a b => c.length ≤ 8 ∧ (∀ x ∈ c, Sz x) ∧ Sz a ∧ Sz b
theorem reg_shown {R : Reg} (h : SzR R) : R.d.showable = true ∧ R.d.shown.length ≤ 60000 := by
  cases R with
  | ball c r =>
    obtain ⟨h1, h2, h3⟩ := h
    have a := vec_shown h2 h1
    have b := h3.len
    have e : (PyData.str "ball").shown.length ≤ 10 := by decide +kernel
    constructor
    · simp only [Reg.d, PyData.showable, PyData.showableAll, vec_able h2, Bool.and_true, Bool.true_and, decide_eq_true h3.log]
    · unfold Reg.d
      rw [PyData.shown]
      have := tupT_len (PyData.shownAll [.str "ball", vec c, .int r])
      simp only [PyData.shownAll, piled_cons, piled_nil] at this ⊢
      omega
  | box l u =>
    obtain ⟨h1, h2, h3, h4⟩ := h
    have a := vec_shown h3 h1
    have b := vec_shown h4 h2
    have e : (PyData.str "box").shown.length ≤ 10 := by decide +kernel
    constructor
    · simp only [Reg.d, PyData.showable, PyData.showableAll, vec_able h3, vec_able h4, Bool.and_true, Bool.true_and]
    · unfold Reg.d
      rw [PyData.shown]
      have := tupT_len (PyData.shownAll [.str "box", vec l, vec u])
      simp only [PyData.shownAll, piled_cons, piled_nil] at this ⊢
      omega
  | cell c x y =>
    obtain ⟨h1, h2, h3, h4⟩ := h
    have a := vec_shown h2 h1
    have b := h3.len
    have b2 := h4.len
    have e : (PyData.str "cell").shown.length ≤ 10 := by decide +kernel
    constructor
    · simp only [Reg.d, PyData.showable, PyData.showableAll, vec_able h2, Bool.and_true, Bool.true_and, decide_eq_true h3.log, decide_eq_true h4.log]
    · unfold Reg.d
      rw [PyData.shown]
      have := tupT_len (PyData.shownAll [.str "cell", vec c, .int x, .int y])
      simp only [PyData.shownAll, piled_cons, piled_nil] at this ⊢
      omega
theorem depth_reg (R : Reg) : R.d.depth ≤ 3 := by
  cases R <;> simp [Reg.d, vec, PyData.depth, PyData.depthAll, depth_ints]
theorem szl3 {n : Nat} (h : n ≤ 200000) : n ≤ sizeLine := Nat.le_trans h (by decide)
theorem shows_reg {R : Reg} (h : SzR R) : Shows R.d := ⟨nod_reg R, (reg_shown h).1, Nat.le_trans (depth_reg R) (by decide), szl3 (Nat.le_trans (reg_shown h).2 (by decide))⟩
theorem shows_two {R S : Reg} (h : SzR R) (k : SzR S) : Shows (.list [R.d, S.d]) := by
  refine ⟨?_, ?_, ?_, szl3 ?_⟩
  · simp only [PyData.hasDict, PyData.hasDictAll, nod_reg, Bool.or_self]
  · simp only [PyData.showable, PyData.showableAll, (reg_shown h).1, (reg_shown k).1, Bool.and_self]
  · have h1 := depth_reg R
    have h2 := depth_reg S
    simp only [PyData.depth, PyData.depthAll]
    omega
  · rw [PyData.shown]
    have h1 := (reg_shown h).2
    have h2 := (reg_shown k).2
    have := lstT_len (PyData.shownAll [R.d, S.d])
    simp only [PyData.shownAll, piled_cons, piled_nil] at this ⊢
    omega
theorem shows_none : Shows .none := by
  refine ⟨by decide +kernel, by decide +kernel, by decide +kernel, szl3 ?_⟩
  decide +kernel
theorem shows_bool (b : Bool) : Shows (.bool b) := by
  cases b
  · exact ⟨by decide +kernel, by decide +kernel, by decide +kernel, szl3 (by decide +kernel)⟩
  · exact ⟨by decide +kernel, by decide +kernel, by decide +kernel, szl3 (by decide +kernel)⟩
theorem Bd.sz {m : Int} {a : Vc} (h : Bd m a) (hm : m ≤ 1000000000000) : ∀ x ∈ a, Sz x := fun x hx => by
  have := h x hx
  unfold Sz
  omega
theorem RI.sz {n : Nat} {R : Reg} (h : RI n R) (h8 : n ≤ 8) : SzR R := by
  cases R with
  | ball c r => exact ⟨by rw [h.1]; exact h8, h.2.1.sz (by decide), by have := h.2.2; unfold Sz; omega⟩
  | box l u => exact ⟨by rw [h.1]; exact h8, by rw [h.2.1]; exact h8, h.2.2.1.sz (by decide), h.2.2.2.sz (by decide)⟩
  | cell c a b => exact ⟨by rw [h.1]; exact h8, h.2.1.sz (by decide), by have := h.2.2; unfold Sz; omega, by have := h.2.2; unfold Sz; omega⟩
theorem side_le {k : Kd} {r s : Int} (hr : 0 ≤ r) (h : side k r = some s) : 0 ≤ s ∧ s ≤ r := by
  cases k with
  | sq =>
    have e : s = isq r := (Option.some.inj h).symm
    have h1 := isq_nonneg r
    have h2 := isq_sq hr
    subst e
    refine ⟨h1, ?_⟩
    by_cases h3 : isq r = 0
    · omega
    · have : isq r * 1 ≤ isq r * isq r := Int.mul_le_mul_of_nonneg_left (by omega) h1
      omega
  | su => have e : s = r := (Option.some.inj h).symm; omega
  | mo => have e : s = r := (Option.some.inj h).symm; omega
  | un =>
    have h : (if r = 0 then some (0 : Int) else none) = some s := h
    split at h
    · have e : s = 0 := (Option.some.inj h).symm; omega
    · cases h
theorem around_bd {k : Kd} {n : Nat} {R : Reg} {a b : Vc} (h : RI n R) (e : around k R = some (a, b)) : Bd (10000 + R.hi) a ∧ Bd (10000 + R.hi) b := by
  cases hb : R.isBox with
  | true =>
    obtain ⟨l, u, rfl⟩ := isBox_of hb
    cases e
    exact ⟨h.2.2.1.mono (by show (10000 : Int) ≤ 10000 + 0; decide), h.2.2.2.mono (by show (10000 : Int) ≤ 10000 + 0; decide)⟩
  | false =>
    rw [around_nb hb] at e
    obtain ⟨t, ht, e⟩ := Option.map_eq_some_iff.mp e
    cases e
    have hh := h.hi
    have hs := side_le (by omega) ht
    constructor
    · intro x hx
      obtain ⟨y, hy, rfl⟩ := List.mem_map.mp hx
      have := h.c.2 y hy
      omega
    · intro x hx
      obtain ⟨y, hy, rfl⟩ := List.mem_map.mp hx
      have := h.c.2 y hy
      omega
theorem shows_box {k : Kd} {n : Nat} {R : Reg} (h : RI n R) (h8 : n ≤ 8) : Shows (boxD (around k R)) := by
  cases e : around k R with
  | none => exact shows_none
  | some p =>
    obtain ⟨a, b⟩ := p
    have l := around_len h e
    have bd := around_bd h e
    have hh := h.hi
    exact shows_reg (R := .box a b) ⟨by omega, by omega, bd.1.sz (by omega), bd.2.sz (by omega)⟩
theorem rvs_none : rvs .none .none := ⟨by decide +kernel, by decide +kernel, by decide +kernel, by decide +kernel⟩
theorem rvs_bool (p q : Bool) : rvs (.bool p) (.bool q) := by
  cases p <;> cases q <;> exact ⟨by decide +kernel, by decide +kernel, by decide +kernel, by decide +kernel⟩
theorem eqv_bool (p : Bool) : PyData.eqv (.bool p) (.bool p) = true := by cases p <;> decide +kernel
theorem rvs_box (o : Option (Vc × Vc)) : rvs (boxD o) (boxD o) := by
  cases o with
  | none => exact rvs_none
  | some p => exact rvs_reg (.box p.1 p.2) (.box p.1 p.2)
theorem eqv_boxD (o : Option (Vc × Vc)) : PyData.eqv (boxD o) (boxD o) = true := by
  cases o with
  | none => decide +kernel
  | some p =>
    show PyData.eqv (Reg.box p.1 p.2).d (Reg.box p.1 p.2).d = true
    rw [eqv_box, decide_eq_true rfl, decide_eq_true rfl]
    rfl
section
variable {K : PySem.W.Frag} {mg : Str → Option Value}
def g3 {α : Type} : List α → List α → List α
  | [], [o, i, k] => [k, i, o]
  | _, _ => []
def g2 {α : Type} : List α → List α → List α
  | [], [r, k] => [k, r]
  | _, _ => []
theorem kb_inside (T : Txt K mg) : KBinds K T.t_is_inside.fd ["kind", "inner", "outer"] ["outer", "inner", "kind"] g3 g3 where
  to s us ws hK hl := by
    obtain ⟨oc, od, kV, doc, pm, an, cdv, ct, osl, e, _⟩ := T.t_is_inside.fn.ex
    match us, ws, hl with
    | [], [o, i, k], _ =>
      rw [e]
      exact .of_eq rfl
  rel {vs us zs ws} r rz := by
    cases r with
    | cons _ _ => exact .nil
    | nil =>
      cases rz with
      | nil => exact .nil
      | cons a rz =>
        cases rz with
        | nil => exact .nil
        | cons b rz =>
          cases rz with
          | nil => exact .nil
          | cons c rz =>
            cases rz with
            | nil => exact .cons c (.cons b (.cons a .nil))
            | cons _ _ => exact .nil
theorem kb_around (T : Txt K mg) : KBinds K T.t_box_around.fd ["kind", "region"] ["region", "kind"] g2 g2 where
  to s us ws hK hl := by
    obtain ⟨oc, od, kV, doc, pm, an, cdv, ct, osl, e, _⟩ := T.t_box_around.fn.ex
    match us, ws, hl with
    | [], [r, k], _ =>
      rw [e]
      exact .of_eq rfl
  rel {vs us zs ws} r rz := by
    cases r with
    | cons _ _ => exact .nil
    | nil =>
      cases rz with
      | nil => exact .nil
      | cons a rz =>
        cases rz with
        | nil => exact .nil
        | cons b rz =>
          cases rz with
          | nil => exact .cons b (.cons a .nil)
          | cons _ _ => exact .nil
end
end Ng

set_option Elab.async false
set_option linter.all false
set_option maxRecDepth 100000
set_option maxHeartbeats 4000000
/-! The law's checks of one region, of one pair. -/
namespace Ng
open PySem PySem.Spec PyProof.Rows L2
section
variable {X : Cx} {W : Wd X.K} {Γ : Gm}
def EvK (X : Cx) (W : Wd X.K) (Γ : Gm) (kws : List Keyword) (cs : List PyData) : Prop := ∃ tk : TA, PK X kws tk ∧ (XOk X → ∀ σ H, En W H σ Γ → ∀ Q : List V → Hp → Prop, (∀ vs H', W.R H H' → W.L H' vs cs → Q vs H') → tk σ H Q)
theorem kw_nil : EvK X W Γ [] [] := ⟨_, pk_nil, fun _ σ H E Q hQ => hQ [] H (W.refl H) .nil⟩
theorem kw_cons {nm : Option Str} {e : Expr} {kp : Pos} {kws : List Keyword} {d : PyData} {cs : List PyData} (h : EvD X W Γ e d) (k : EvK X W Γ kws cs) : EvK X W Γ (⟨nm, e, kp⟩ :: kws) (d :: cs) := by
  obtain ⟨tk, hk, ht⟩ := k
  exact ⟨_, pk_cons peR hk, fun ok σ H E Q hQ => h ok σ H E _ fun v d' H1 r1 a e => ht ok σ H1 (E.mono r1) _ fun vs H2 r2 l => hQ (v :: vs) H2 (W.trans r1 r2) (.cons (e ▸ a.keep (W.keep r2)) l)⟩
theorem ev_kw {k : Nat} {x : Str} {p pos : Pos} {ps : List Str} {F : List PyData → PyData → Prop} {ds : List PyData} {d : PyData} {f : Addr} {fd : FuncData} {ks : List Str} {kws : List Keyword} {g : List Value → List Value → List Value} {gV : List V → List V → List V} (G : FnOk X.prog X.w X.K X.mg X.base CX0 k f fd ps (Pu X.K F)) (hr : Room k X.A) (hm : X.mg x = some (.ref f))
    (hk : PySem.W.keepIn X.K (.ref f) = true) (hb : KBinds X.K fd ps ks g gV) {cs : List PyData} (ht : EvK X W Γ kws cs)
    (hgv : ∀ (H : Hp) (vs : List V), W.L H vs cs → W.L H (gV [] vs) ds) (hF : F ds d) (hg : Gl X x := by rfl) (hall : (backToKw pos (keywordEach kws X.env)).all (·.1.isSome) = true := by rfl) (hks : (backToKw pos (keywordEach kws X.env)).filterMap (·.1) = ks := by rfl)
    (hdb : (x == ("__debug__" : Str)) = false := by decide) (hpl : ((backTo pos (starEach [] X.env)).any (·.1) || (backToKw pos (keywordEach kws X.env)).any (·.1.isNone)) = false := by rfl) : EvD X W Γ (.Call (.Name x p) [] kws pos) d := by
  obtain ⟨tk, hkw, h⟩ := ht
  exact ev_callK (es := []) G hr hm hk hb hkw h hgv hF hg hall hks hdb hpl
theorem g3_ok {a b c : PyData} : ∀ (H : Hp) (vs : List V), W.L H vs [a, b, c] → W.L H (g3 [] vs) [c, b, a] := fun H vs l => by
  cases l with
  | cons a l =>
  cases l with
  | cons b l =>
  cases l with
  | cons c l =>
  cases l
  exact .cons c (.cons b (.cons a .nil))
theorem g2_ok {a b : PyData} : ∀ (H : Hp) (vs : List V), W.L H vs [a, b] → W.L H (g2 [] vs) [b, a] := fun H vs l => by
  cases l with
  | cons a l =>
  cases l with
  | cons b l =>
  cases l
  exact .cons b (.cons a .nil)
end
section
variable {P : Program} {w : World} {K : PySem.W.Frag} {mg : Str → Option Value} {base : Heap}
def wide (v : Vc) : Nat := if v.length = 1 then 3 else if v.length = 2 then 2 else 1
theorem wide_le (v : Vc) : wide v ≤ 3 := by unfold wide; split <;> (try split) <;> omega
theorem ev_wide {X : Cx} {W : Wd X.K} {Γ : Gm} {e e' : Expr} {v : Vc} {p1 p2 p3 p4 p5 p6 p7 p8 p9 q1 q2 q3 q4 : Pos} {j1 j2 j3 j4 j5 : Nat} (hm : X.mg "len" = none) (h : EvD X W Γ e (vec v)) (h' : EvD X W Γ e' (vec v)) (hg : Gl X "len" := by rfl) (he : starEach [e] X.env = (false, eval e X.env) :: starEach [] X.env := by rfl)
    (he' : starEach [e'] X.env = (false, eval e' X.env) :: starEach [] X.env := by rfl) (hpl : (backTo p3 (starEach [] X.env)).any (·.1) = false := by rfl) (hpl2 : (backTo p7 (starEach [] X.env)).any (·.1) = false := by rfl) :
    EvD X W Γ (.IfExp (.Compare (.Call (.Name "len" p1) [e] [] p3) [.Eq] [.Constant (.int 1) j1 p4] p5) (.Constant (.int 3) j2 p6) (.IfExp (.Compare (.Call (.Name "len" p2) [e'] [] p7) [.Eq] [.Constant (.int 2) j3 p8] p9) (.Constant (.int 2) j4 q1) (.Constant (.int 1) j5 q2) q3) q4) (.int (wide v : Int)) := by
  refine EvE.of (ev_ite (C := (v.length : Int) = 1) (et_eqI (ev_len hm h hg he hpl) ev_i) (fun _ => ev_i) fun _ => ev_ite (C := (v.length : Int) = 2) (et_eqI (ev_len hm h' hg he' hpl2) ev_i) (fun _ => ev_i) fun _ => ev_i) ?_
  unfold wide
  by_cases h1 : v.length = 1
  · rw [if_pos (by omega), if_pos h1]; rfl
  · rw [if_neg (by omega), if_neg h1]
    by_cases h2 : v.length = 2
    · rw [if_pos (by omega), if_pos h2]; rfl
    · rw [if_neg (by omega), if_neg h2]; rfl
theorem getD_mem {L : List Vc} {i : Nat} (h : i < L.length) : L.getD i [] ∈ L := by
  rw [List.getD_eq_getElem?_getD, List.getElem?_eq_getElem h]
  exact List.getElem_mem h
/-- the second window's middle -/
def mid (I O : Reg) : Vc := match I with
  | .box _ u => u
  | _ => O.c
def Fright (ds : List PyData) (d : PyData) : Prop := ∃ (k : Kd) (I O : Reg) (n : Nat), ds = [.str k.s, I.d, O.d] ∧ n ≤ 8 ∧ RI n I ∧ Okk I ∧ RO n O ∧ VI n O.c ∧ d = .bool true
theorem ok_law_inside_right (T : Txt K mg) : FnG P w K mg base 7 T.t_law_inside_right.f T.t_law_inside_right.fd ["_law_kind", "_law_inner", "_law_outer"] (Pu K Fright) := by
  refine ok_pureG T.t_law_inside_right.fn sc_law_inside_right (fun ds d ⟨l, u, o, n, e, _⟩ => by rw [e]; rfl) fun cdv A outer s H M hp ds d hr hgd hF => ?_
  obtain ⟨k, I, O, n, rfl, h8, hI, hk, hO, hc, rfl⟩ := hF
  refine x_setD 3 (ev_call T.t_law_inside_due (ok_law_inside_due T) (hr.mono (by decide)) (ea_cons (ev_n 0) (ea_cons (ev_n 1) (ea_cons (ev_n 2) ea_nil))) ⟨k, I, O, n, rfl, h8, hI, hk, hO, rfl⟩) ?_
  refine x_ifr (b := false) (EvT.of (et_w (ew_or (et_neS (ev_repr hgd T.b_repr (ev_call T.t_is_inside (ok_is_inside T) hr (ea_cons (ev_n 0) (ea_cons (ev_n 1) (ea_cons (ev_n 2) ea_nil))) ⟨k, I, O, n, rfl, h8, hI, hO, rfl⟩) (shows_bool _)) (ev_repr hgd T.b_repr (ev_n 3) (shows_bool _)))
    fun _ => ew_or1 (et_neD (ev_kw (ok_is_inside T) hr T.t_is_inside.g T.t_is_inside.fn.kp (kb_inside T) (kw_cons (ev_n 2) (kw_cons (ev_n 1) (kw_cons (ev_n 0) kw_nil))) g3_ok ⟨k, I, O, n, rfl, h8, hI, hO, rfl⟩) (ev_n 3) (rvs_bool _ _)))) ?_) (fun z => Bool.noConfusion z) fun _ => ?_
  · rw [eqv_bool]
    simp
  have hmid : VI n (mid I O) := by
    cases I with
    | box l u => exact ⟨hI.2.1, hI.2.2.2⟩
    | ball c r => exact hc
    | cell c a b => exact hc
  refine x_for (ei_vecs (L := [I.c, mid I O]) (ev_if (EvT.of (et_eqS (ev_w (ev_n 1)) ev_s) (w_box I)) (fun h => ?_) fun h => ?_)) (fun i Γ => ∃ x y, Γ = [some (.str k.s), some I.d, some O.d, some (.bool (inside k I O)), x, y]) ⟨none, none, rfl⟩ ?_ ?_
  · obtain ⟨l, u, rfl⟩ := isBox_of h
    exact ev_lst (ds := [vec l, vec u]) (ea_cons (ev_ix1 (ev_n 1) rfl) (ea_cons (ev_ix2 (ev_n 1) rfl) ea_nil))
  · have e : mid I O = O.c := by
      cases I with
      | box l u => cases h
      | ball c r => rfl
      | cell c a b => rfl
    rw [e]
    exact ev_lst (ds := [vec I.c, vec O.c]) (ea_cons (ev_c (ev_n 1)) (ea_cons (ev_c (ev_n 2)) ea_nil))
  · rintro i _ hi ⟨x, y, rfl⟩
    refine ⟨_, _, as_n 4, ?_⟩
    have hv : VI n ([I.c, mid I O].getD i []) := by
      have := getD_mem hi
      rcases List.mem_cons.mp this with e | e
      · rw [e]; exact hI.c
      · rw [List.mem_singleton.mp e]; exact hmid
    generalize [I.c, mid I O].getD i [] = v at hv
    refine x_for (ei_vecs (ev_call T.t_law_window (ok_law_window T) (hr.mono (by decide)) (ea_cons (ev_n 4) (ea_cons (ev_wide T.b_len (ev_n 4) (ev_n 4)) ea_nil)) ⟨v, wide v, rfl, by rw [hv.1]; exact h8, wide_le v, rfl⟩)) (fun i Γ => ∃ x y, Γ = [some (.str k.s), some I.d, some O.d, some (.bool (inside k I O)), x, y]) ⟨_, _, rfl⟩ ?_ ?_
    · rintro j _ hj ⟨x, y, rfl⟩
      refine ⟨_, _, as_n 5, ?_⟩
      have hz := window_ok hv.2 (by decide) (getD_mem hj)
      generalize (window v (wide v)).getD j [] = z at hz
      have hzb : Bd 1000000 z := hz.2.mono (by have := wide_le v; omega)
      have hzl : z.length = n := hz.1.trans hv.1
      refine x_ifr (b := false) (EvT.of (et_w (ew_and (et_v (ev_n 3)) fun _ => ew_and (et_v (ev_call T.t_law_holds (ok_law_holds T) (hr.mono (by decide)) (ea_cons (ev_n 0) (ea_cons (ev_n 1) (ea_cons (ev_n 5) ea_nil))) ⟨k, I, z, n, rfl, h8, hI.o.l, hzl, hzb, rfl⟩)) fun _ =>
        ew_and1 (et_not (et_v (ev_call T.t_holds_vector (ok_holds_vector T) (hr.mono (by decide)) (ea_cons (ev_n 0) (ea_cons (ev_n 2) (ea_cons (ev_n 5) ea_nil))) ⟨k, O, z, n, rfl, h8, hO.l, hzl, hzb, rfl⟩))))) ?_) (fun z => Bool.noConfusion z) fun _ => x_nil ⟨_, _, rfl⟩
      cases h1 : inside k I O with
      | false => rfl
      | true =>
        cases h2 : holds k I z with
        | false => rfl
        | true => rw [inside_sound hI hO hzl h1 h2]; rfl
    · rintro _ ⟨x, y, rfl⟩
      exact x_nil ⟨_, _, rfl⟩
  · rintro _ ⟨x, y, rfl⟩
    exact x_ret ev_b
def Faright (ds : List PyData) (d : PyData) : Prop := ∃ (k : Kd) (R : Reg) (n : Nat), ds = [.str k.s, R.d] ∧ n ≤ 8 ∧ RI n R ∧ R.hi ≤ 10000 ∧ d = .bool true
theorem put_vecT {X : Cx} {W : Wd X.K} {Γ : Gm} {e1 e2 e3 e4 e5 : Expr} {v : Vc} {i : Nat} {x : Int} {p1 p2 p3 p4 p5 p6 p7 : Pos} {m1 : Nat} (h1 : EvD X W Γ e1 (vec v)) (h2 : EvD X W Γ e2 (.int (i : Int))) (h3 : EvD X W Γ e3 (.int x)) (h4 : EvD X W Γ e4 (vec v)) (h5 : EvD X W Γ e5 (.int ((i + 1 : Nat) : Int))) (h8 : v.length ≤ 100)
    (hs : starEach [e3] X.env = (false, eval e3 X.env) :: starEach [] X.env := by rfl) :
    EvD X W Γ (.BinOp (.BinOp (.Subscript e1 (.Slice none (some e2) none p1) p2) .Add (.Tuple [e3] m1 p3) p4) .Add (.Subscript e4 (.Slice (some e5) none none p5) p6) p7) (vec (put v i x)) :=
  EvE.of (ev_catT (ev_catT (ev_slTo h1 h2) (ev_tup (ea_cons h3 ea_nil hs)) (by simp; omega)) (ev_slFrom h4 h5) (by simp; omega)) (put_vec v i x)
theorem ok_law_around_right (T : Txt K mg) : FnG P w K mg base 4 T.t_law_around_right.f T.t_law_around_right.fd ["_law_kind", "_law_region_here"] (Pu K Faright) := by
  refine ok_pureG T.t_law_around_right.fn sc_law_around_right (fun ds d ⟨l, u, n, e, _⟩ => by rw [e]; rfl) fun cdv A outer s H M hp ds d hr hgd hF => ?_
  obtain ⟨k, R, n, rfl, h8, hR, hh, rfl⟩ := hF
  have hc := hR.c
  refine x_parD 2 3 (ev_call T.t_box_around (ok_box_around T) (hr.mono (by decide)) (ea_cons (ev_n 0) (ea_cons (ev_n 1) ea_nil)) ⟨k, R, n, rfl, h8, hR, rfl⟩) (ev_call T.t_law_around_due (ok_law_around_due T) (hr.mono (by decide)) (ea_cons (ev_n 0) (ea_cons (ev_n 1) ea_nil)) ⟨k, R, n, rfl, h8, hR, rfl⟩) ?_
  refine x_ifr (b := false) (EvT.of (et_w (ew_or (et_neS (ev_repr hgd T.b_repr (ev_n 2) (shows_box hR h8)) (ev_repr hgd T.b_repr (ev_n 3) (shows_box hR h8)))
    fun _ => ew_or1 (et_neD (ev_kw (ok_box_around T) (hr.mono (by decide)) T.t_box_around.g T.t_box_around.fn.kp (kb_around T) (kw_cons (ev_n 1) (kw_cons (ev_n 0) kw_nil)) g2_ok ⟨k, R, n, rfl, h8, hR, rfl⟩) (ev_n 2) (rvs_box _)))) ?_) (fun z => Bool.noConfusion z) fun _ => ?_
  · rw [eqv_boxD]
    simp
  cases hA : around k R with
  | none =>
    refine x_ifr (et_isN (ev_n 2)) (fun _ => ?_) (fun z => Bool.noConfusion z)
    refine x_ret ((ev_and (EvE.of (ev_eqS (ev_n 0) ev_s) (congrArg PyData.bool (k_un k))) fun _ => ev_one (EvE.of (ev_neS (ev_w (ev_n 1)) ev_s) (d' := .bool (!R.isBox)) ?_)).imp fun _ e => ?_)
    · rw [← w_box R]
      by_cases h : R.w = ("box" : Str) <;> simp [h]
    · rw [e]
      cases hb : R.isBox with
      | true =>
        obtain ⟨l, u, rfl⟩ := isBox_of hb
        cases hA
      | false =>
        rw [around_nb hb] at hA
        cases k with
        | un => rfl
        | sq => cases hA
        | su => cases hA
        | mo => cases hA
  | some p =>
    obtain ⟨a, b⟩ := p
    obtain ⟨l1, l2⟩ := around_len hR hA
    refine x_ifr (et_isN (ev_n 2)) (fun z => Bool.noConfusion z) fun _ => ?_
    refine x_for (ei_vecs (ev_call T.t_law_window (ok_law_window T) (hr.mono (by decide)) (ea_cons (ev_c (ev_n 1)) (ea_cons (ev_wide T.b_len (ev_c (ev_n 1)) (ev_c (ev_n 1))) ea_nil)) ⟨R.c, wide R.c, rfl, by rw [hc.1]; exact h8, wide_le _, rfl⟩)) (fun i Γ => ∃ x, Γ = [some (.str k.s), some R.d, some (Reg.box a b).d, some (Reg.box a b).d, x, none, none]) ⟨none, rfl⟩ ?_ ?_
    · rintro j _ hj ⟨x, rfl⟩
      refine ⟨_, _, as_n 4, ?_⟩
      have hz := window_ok hc.2 (by decide) (getD_mem hj)
      generalize (window R.c (wide R.c)).getD j [] = z at hz
      have hzb : Bd 1000000 z := hz.2.mono (by have := wide_le R.c; omega)
      have hzl : z.length = n := hz.1.trans hc.1
      refine x_ifr (b := false) (EvT.of (et_w (ew_and (et_v (ev_call T.t_law_holds (ok_law_holds T) hr (ea_cons (ev_n 0) (ea_cons (ev_n 1) (ea_cons (ev_n 4) ea_nil))) ⟨k, R, z, n, rfl, h8, hR.o.l, hzl, hzb, rfl⟩)) fun _ =>
        ew_and1 (et_not (et_v (ev_call T.t_law_holds (ok_law_holds T) hr (ea_cons (ev_n 0) (ea_cons (ev_n 2) (ea_cons (ev_n 4) ea_nil))) ⟨k, .box a b, z, n, rfl, h8, ⟨l1, l2⟩, hzl, hzb, rfl⟩))))) ?_) (fun z => Bool.noConfusion z) fun _ => x_nil ⟨_, rfl⟩
      cases h2 : holds k R z with
      | false => rfl
      | true => rw [(inB_iff k a b z).mpr (around_sound hA h2)]; rfl
    · rintro _ ⟨x, rfl⟩
      refine x_if (EvT.of (et_eqS (ev_w (ev_n 1)) ev_s) (w_ball R)) (fun hb => ?_) fun _ => x_nil (x_ret ev_b)
      cases R with
      | box l u => cases hb
      | cell c x y => cases hb
      | ball c r =>
        obtain ⟨s', hs, e⟩ := Option.map_eq_some_iff.mp hA
        cases e
        have hc1 := hc.1
        have hr0 := hR.2.2.1
        have hs2 := side_le hr0 hs
        refine x_for (ei_to (n := c.length) T.b_range (ev_len T.b_len (ev_c (R := .ball c r) (ev_n 1))) (by rw [show c.length = n from hc1]; omega)) (fun i Γ => ∃ x y z, Γ = [some (.str k.s), some (Reg.ball c r).d, some (Reg.box (c.map (· - s')) (c.map (· + s'))).d, some (Reg.box (c.map (· - s')) (c.map (· + s'))).d, x, y, z]) ⟨_, _, _, rfl⟩ ?_ ?_
        · rintro i _ hi ⟨x, y, z, rfl⟩
          refine ⟨_, _, as_n 5, ?_⟩
          have hi' : i < (c.map (· + s')).length := by rw [List.length_map]; exact hi
          have eg : (c.map (· + s')).getD i 0 = c.getD i 0 + s' := by
            rw [getD_lt hi', getD_lt hi, List.getElem_map]
          have hcl : c.length ≤ 8 := by rw [show c.length = n from hc1]; exact h8
          have hci := bd_get hR.2.1 (by decide) i
          have hh : r ≤ 10000 := hh
          obtain ⟨e1, e2⟩ := edge_ok hr0 hs hi
          refine x_setD 6 (put_vecT (x := c.getD i 0 + s') (ev_ix1 (ev_n 1) rfl) (ev_n 5) (eg ▸ ev_at (ev_ix2 (ev_n 2) rfl) (ev_n 5) hi') (ev_ix1 (ev_n 1) rfl) (EvE.of (ev_add (ev_n 5) ev_i) rfl) (by omega)) ?_
          refine x_ifr (b := false) (EvT.of (et_w (ew_or (et_not (et_v (ev_call T.t_holds_vector (ok_holds_vector T) hr (ea_cons (ev_n 0) (ea_cons (ev_n 1) (ea_cons (ev_n 6) ea_nil))) ⟨k, .ball c r, _, n, rfl, h8, hR.o.l, (put_len hi).trans hc1, bd_put (m' := 1000000) hR.2.1 (by decide) (by omega), rfl⟩)))
            fun _ => ew_or1 (et_v (ev_call T.t_holds_vector (ok_holds_vector T) hr (ea_cons (ev_n 0) (ea_cons (ev_n 1) (ea_cons (put_vecT (v := put c i (c.getD i 0 + s')) (x := c.getD i 0 + s' + 1) (ev_n 6) (ev_n 5) (EvE.of (ev_add (ev_at (ev_n 6) (ev_n 5) (by rw [put_len hi]; exact hi)) ev_i) (by rw [put_get c i _ hi])) (ev_n 6) (EvE.of (ev_add (ev_n 5) ev_i) rfl) (by rw [put_len hi]; omega)) ea_nil)))
              ⟨k, .ball c r, put c i (c.getD i 0 + s' + 1), n, by rw [put_put c i _ _ hi], h8, hR.o.l, (put_len hi).trans hc1, bd_put (m' := 1000000) hR.2.1 (by decide) (by omega), rfl⟩)))) ?_) (fun z => Bool.noConfusion z) fun _ => x_nil ⟨_, _, _, rfl⟩
          rw [e1, e2]
          rfl
        · rintro _ ⟨x, y, z, rfl⟩
          exact x_nil (x_ret ev_b)
end
end Ng

set_option Elab.async false
set_option linter.all false
set_option maxRecDepth 100000
set_option maxHeartbeats 4000000
/-! The world in which the law draws. -/
namespace Ng
open PySem PySem.Spec PyProof.Rows L2
def Mw (h l : Addr) : Addr → Prop := fun a => a = h ∨ a = l
/-- the law's heap: a list of drawn numbers, a stir -/
structure HC (h l : Addr) (ns : List Int) (st : Int) (H : Hp) : Prop where
  a : H h = some (.lst [.ref l, .int st])
  b : H l = some (.lst (ns.map V.int))
  n0 : ∀ n ∈ ns, 0 ≤ n
  s0 : 0 ≤ st ∧ st < 4294967296
  len : ns.length ≤ 60
def HW (h l : Addr) (H : Hp) : Prop := ∃ ns st, HC h l ns st H
theorem HC.ne {h l : Addr} {ns : List Int} {st : Int} {H : Hp} (c : HC h l ns st H) : h ≠ l := fun e => by
  have := c.a
  rw [e, c.b] at this
  cases ns with
  | nil => cases this
  | cons n ns => cases this
def ew (K : PySem.W.Frag) (h l : Addr) : Wd K where
  M := Mw h l
  hp := h
  R := fun H H' => (∀ b o, H b = some o → ¬ Mw h l b → H' b = some o) ∧ (HW h l H → HW h l H')
  Z := HW h l
  refl := fun H => ⟨fun _ _ e _ => e, fun z => z⟩
  trans := fun r1 r2 => ⟨fun b o e m => r2.1 b o (r1.1 b o e m) m, fun z => r2.2 (r1.2 z)⟩
  ext := fun {H H'} z e => ⟨fun b o q _ => e b o q, fun ⟨ns, st, c⟩ => ⟨ns, st, e _ _ c.a, e _ _ c.b, c.n0, c.s0, c.len⟩⟩
  keepZ := fun z r => r.2 z
  al := fun {H} z a m e => by
    obtain ⟨ns, st, c⟩ := z
    rcases m with rfl | rfl
    · rw [c.a] at e; cases e
    · rw [c.b] at e; cases e
  keep := fun r => r.1
  wr := fun {H H' p o} z r n => by
    obtain ⟨ns, st, c⟩ := r.2 z
    have hp : ∀ b, H' b ≠ none → p ≠ b → L2.upd H' p o b = H' b := fun b _ ne => upd_ne (Ne.symm ne)
    obtain ⟨ns0, st0, c0⟩ := z
    have e1 : p ≠ h := fun e => by rw [e, c0.a] at n; cases n
    have e2 : p ≠ l := fun e => by rw [e, c0.b] at n; cases n
    refine ⟨fun b ob q m => ?_, fun _ => ⟨ns, st, ?_, ?_, c.n0, c.s0, c.len⟩⟩
    · have : p ≠ b := fun e => by rw [e, q] at n; cases n
      rw [upd_ne (Ne.symm this)]
      exact r.1 b ob q m
    · rw [upd_ne (Ne.symm e1)]; exact c.a
    · rw [upd_ne (Ne.symm e2)]; exact c.b
/-- a def that draws -/
def Ew (K : PySem.W.Frag) (F : List PyData → (PyData → Prop) → Prop) : Sp := fun vs H Q _ => ∃ (h l : Addr) (ds : List PyData) (P : PyData → Prop), HW h l H ∧ DtL K (Mw h l) h H vs ds ∧ F ds P ∧ ∀ v d H', (ew K h l).R H H' → Dt K (Mw h l) h H' v d → P d → Q v H'
section
variable {P : Program} {w : World} {K : PySem.W.Frag} {mg : Str → Option Value} {base : Heap}
theorem ok_eff {x qual : Str} {st : Stmt} {f : Addr} {fd : FuncData} {N ps : List Str} {k : Nat} {F : List PyData → (PyData → Prop) → Prop} (Fn : Fun K x qual st f fd) (S : FnScope N ps (defScope st)) (len : ∀ ds R, F ds R → ds.length = ps.length)
    (body : ∀ (cdv : Value) (A : Around) (outer : List Env) (s : Shared) (H : Hp) (E : XK) (h l : Addr) (ds : List PyData) (R : PyData → Prop), Room k (A.deeper (envOfC qual (defScope st) s.heap.objs.size f cdv)) → F ds R →
      ExB (cx P w K mg base N qual st f cdv A outer s H E) (ew K h l) (startG N ds) (defBody st) { nx := fun _ => False, rt := R }) : FnOk P w K mg base CX0 (k + 1) f fd ps (Ew K F) := by
  refine Fn.ok S (fun vs H Q E h => ?_) fun cdv A outer s H vs Q E hr h => ?_
  · obtain ⟨h, l, ds, R, _, l, hF, _⟩ := h
    rw [l.len]
    exact len ds R hF
  · obtain ⟨h, l, ds, R, z, dl, hF, q⟩ := h
    refine ⟨_, pbR, body cdv A outer s H E h l ds R hr hF (xok S.nd hr) _ _ (en_start (W := ew K h l) z dl) _ ⟨fun σ' H' Γ' r e z => z.elim, fun v x H' r a e => q v x H' r a e, fun _ _ _ _ _ z => z.elim, fun _ _ _ _ _ z => z.elim⟩⟩
end
section
variable {X : Cx} {h l : Addr} {Γ : Gm} {k : Nat} {x : Str} {p pos : Pos} {e : Expr} {es : List Expr} {ps : List Str} {st : Stmt} {ds : List PyData} {R : PyData → Prop} {F : List PyData → (PyData → Prop) → Prop} {Pa : List PyData → Prop}
theorem ex_callE (T : Fnd X.K X.mg x st ps) (G : FnOk X.prog X.w X.K X.mg X.base CX0 k T.f T.fd ps (Ew X.K F)) (hr : Room k X.A) (ha : EvA X (ew X.K h l) Γ (e :: es) Pa) (hF : ∀ ds, Pa ds → ∃ R', F ds R' ∧ ∀ d, R' d → R d) (hg : Gl X x := by rfl) (hdb : (x == ("__debug__" : Str)) = false := by decide)
    (he : starEach (e :: es) X.env = (false, eval e X.env) :: starEach es X.env := by rfl) (hpl : (backTo pos (starEach es X.env)).any (·.1) = false := by rfl) : EvE X (ew X.K h l) Γ (.Call (.Name x p) (e :: es) [] pos) R := fun ok σ H E Q hQ =>
  runE (pe_call G hr hg T.g T.fn.kp T.b .nil pass0 paR hdb he hpl) (ha ok σ H E _ fun vs ds' H1 r1 l1 q => by
    obtain ⟨R', hF, hR⟩ := hF ds' q
    rw [List.append_nil]
    exact ⟨h, l, ds', R', (E.mono r1).z, l1, hF, fun v d H' r a p => hQ v d H' ((ew X.K h l).trans r1 r) a (hR d p)⟩)
theorem ints_dt {K : PySem.W.Frag} {M : Addr → Prop} {hp : Addr} {H : Hp} : ∀ ns : List Int, DtL K M hp H (ns.map V.int) (ns.map .int)
  | [] => .nil
  | n :: ns => .cons (.int n) (ints_dt ns)
/-- the law's heap, seen as data -/
theorem seen {K : PySem.W.Frag} {h l : Addr} {ns : List Int} {st : Int} {H : Hp} (c : HC h l ns st H) : Dt K (fun _ => False) 0 H (.ref h) (.list [.list (ns.map .int), .int st]) :=
  .lst c.a (fun z => z) (.cons (.lst c.b (fun z => z) (ints_dt ns)) (.cons (.int st) .nil))
theorem ev_ixLast {W : Wd X.K} {e2 : Expr} {d : PyData} {ds : List PyData} (h : EvD X W Γ e (.list (ds ++ [d]))) (k : EvD X W Γ e2 (.int (-1))) (hs : PlainIx e2 := by exact fun _ _ => rfl) : EvD X W Γ (.Subscript e e2 pos) d := fun ok σ H E Q hQ =>
  runE (pe_ix ix_list peR peR hs) (ex_two h k (P := fun z => z = d) (fun x y e1 e2 vx vy H z d1 d2 Q hQ => by
    subst e1 e2
    obtain ⟨p, xs, rfl, hq, _, l⟩ := d1.lst_inv
    have hl := l.len
    obtain ⟨v, ha, hv⟩ := l.get (i := ds.length) (d := d) (by simp)
    refine ⟨p, xs, -1, v, rfl, d2.int_inv, .of hq, ?_, hQ v d H (W.refl H) hv rfl⟩
    rw [List.length_append, List.length_singleton] at hl
    unfold atI ixN
    rw [hl, if_neg (by decide), if_pos (by omega), show ((-1 : Int) + ((ds.length + 1 : Nat) : Int)).toNat = ds.length by omega]
    exact ha) ok E hQ)
end
end Ng

set_option Elab.async false
set_option linter.all false
set_option maxRecDepth 100000
set_option maxHeartbeats 4000000
/-! One draw. -/
namespace Ng
open PySem PySem.Spec PyProof.Rows L2
theorem HC.same {h l : Addr} {ns : List Int} {st : Int} {H H' : Hp} (c : HC h l ns st H) (r : Same H H') : HC h l ns st H' := ⟨r _ _ c.a, r _ _ c.b, c.n0, c.s0, c.len⟩
theorem HC.setL {h l : Addr} {ns ms : List Int} {st : Int} {H : Hp} (c : HC h l ns st H) (h0 : ∀ n ∈ ms, 0 ≤ n) (hl : ms.length ≤ 60) : HC h l ms st (upd H l (.lst (ms.map V.int))) :=
  ⟨by rw [upd_ne c.ne]; exact c.a, upd_same, h0, c.s0, hl⟩
theorem HC.setH {h l : Addr} {ns : List Int} {st st' : Int} {H : Hp} (c : HC h l ns st H) (h0 : 0 ≤ st' ∧ st' < 4294967296) : HC h l ns st' (upd H h (.lst [.ref l, .int st'])) :=
  ⟨upd_same, by rw [upd_ne (Ne.symm c.ne)]; exact c.b, c.n0, h0, c.len⟩
section
variable {K : PySem.W.Frag} {h l : Addr} {ns ms : List Int} {st : Int} {H : Hp}
theorem r_same {H' : Hp} (c : HC h l ns st H) (r : Same H H') : (ew K h l).R H H' := (ew K h l).ext ⟨ns, st, c⟩ r
theorem r_updL {o : HO} (z : HW h l (upd H l o)) : (ew K h l).R H (upd H l o) := ⟨fun b ob q m => by rw [upd_ne fun e => m (.inr e)]; exact q, fun _ => z⟩
theorem r_updH {o : HO} (z : HW h l (upd H h o)) : (ew K h l).R H (upd H h o) := ⟨fun b ob q m => by rw [upd_ne fun e => m (.inl e)]; exact q, fun _ => z⟩
/-- what is seen -/
def sg (ns : List Int) (st m : Int) (r : Option PyData) : Gm := [some (.list [.list (ns.map .int), .int st]), some (.int m), r]
abbrev ow (K : PySem.W.Frag) : Wd K := pw K (fun _ => False) 0
theorem en_see {m : Int} {r : Option V} (c : HC h l ns st H) : En (ow K) H [some (.ref h), some (.int m), r] (sg ns st m none) := by
  refine ⟨fun a z => z.elim, rfl, fun i d q => ?_⟩
  match i, q with
  | 0, q => cases q; exact ⟨_, rfl, seen c⟩
  | 1, q => cases q; exact ⟨_, rfl, .int m⟩
  | 2, q => cases q
  | i + 3, q => cases q
theorem en_see2 {m n : Int} (c : HC h l ns st H) : En (ow K) H [some (.ref h), some (.int m), some (.int n)] (sg ns st m (some (.int n))) := by
  refine ⟨fun a z => z.elim, rfl, fun i d q => ?_⟩
  match i, q with
  | 0, q => cases q; exact ⟨_, rfl, seen c⟩
  | 1, q => cases q; exact ⟨_, rfl, .int m⟩
  | 2, q => cases q; exact ⟨_, rfl, .int n⟩
  | i + 3, q => cases q
theorem rvs_ints (ns : List Int) : rvs (.list (ns.map .int)) (.list []) := by
  refine ⟨?_, by decide +kernel, ?_, by decide +kernel⟩
  · unfold SeqAt.shaped
    rw [show (PyData.list (ns.map .int)).canLay0 = true by simp only [PyData.canLay0, lay_ints], decide_eq_true (show (PyData.list (ns.map .int)).depth ≤ 64 by simp [PyData.depth, depth_ints])]
    rfl
  · simp only [PyData.hasDict, nod_ints]
theorem eqv_nil : ∀ ns : List Int, PyData.eqv (.list (ns.map .int)) (.list []) = ns.isEmpty
  | [] => by simp [PyData.eqv, PyData.eqvAll]
  | _ :: _ => by simp [PyData.eqv, PyData.eqvAll]
end
section
variable {X : Cx} {h l : Addr} {ns : List Int} {st m : Int} {H : Hp} {σ : L2.St} {r : Option PyData}
/-- heap[0] -/
theorem run_h0 {x : Str} {p p3 pos : Pos} {j : Nat} {r : Option V} {Q : VK} (c : HC h l ns st H) (q : Q (.ref l) H) (hN : X.N[0]? = some x := by rfl)
    (hv : Vis X.env.scope x := by first | exact Or.inl rfl | exact Or.inr (Or.inl rfl) | exact Or.inr (Or.inr rfl)) (h1 : (x == ("__debug__" : Str)) = false := by decide)
    (h2 : (x == ("__classdict__" : Str)) = false := by decide) : RunE X (.Subscript (.Name x p) (.Constant (.int 0) j p3) pos) [some (.ref h), some (.int m), r] H Q :=
  runE (pe_ix ix_list (pe_var hN hv h1 h2) pe_int (fun _ _ => rfl)) ⟨.ref h, rfl, h, [.ref l, .int st], 0, .ref l, rfl, rfl, .of c.a, rfl, q⟩
theorem ev_h0 {x : Str} {p p3 pos : Pos} {j : Nat} (hN : X.N[0]? = some x := by rfl)
    (hv : Vis X.env.scope x := by first | exact Or.inl rfl | exact Or.inr (Or.inl rfl) | exact Or.inr (Or.inr rfl)) (h1 : (x == ("__debug__" : Str)) = false := by decide)
    (h2 : (x == ("__classdict__" : Str)) = false := by decide) : EvD X (ow X.K) (sg ns st m r) (.Subscript (.Name x p) (.Constant (.int 0) j p3) pos) (.list (ns.map .int)) :=
  ev_ixL (i := 0) (ev_n 0 (hd := rfl) hN hv h1 h2) ev_i rfl
theorem ev_h1 {x : Str} {p p3 pos : Pos} {j : Nat} (hN : X.N[0]? = some x := by rfl)
    (hv : Vis X.env.scope x := by first | exact Or.inl rfl | exact Or.inr (Or.inl rfl) | exact Or.inr (Or.inr rfl)) (h1 : (x == ("__debug__" : Str)) = false := by decide)
    (h2 : (x == ("__classdict__" : Str)) = false := by decide) : EvD X (ow X.K) (sg ns st m r) (.Subscript (.Name x p) (.Constant (.int 1) j p3) pos) (.int st) :=
  ev_ixL (i := 1) (ev_n 0 (hd := rfl) hN hv h1 h2) ev_i rfl
end
section
variable {P : Program} {w : World} {K : PySem.W.Frag} {mg : Str → Option Value} {base : Heap}
def Fdraw (ds : List PyData) (R : PyData → Prop) : Prop := ∃ m : Int, ds = [.dict [], .int m] ∧ 0 < m ∧ m < 1073741824 ∧ R = fun d => ∃ x : Int, d = .int x ∧ 0 ≤ x ∧ x < m
theorem map_snoc (ns : List Int) (n : Int) : (ns ++ [n]).map PyData.int = ns.map .int ++ [.int n] := by simp
theorem ok_law_draw (T : Txt K mg) : FnOk P w K mg base CX0 1 T.t_law_draw.f T.t_law_draw.fd ["_law_heap_here", "_law_many"] (Ew K Fdraw) := by
  refine ok_eff T.t_law_draw.fn sc_law_draw (fun ds R ⟨m, e, _⟩ => by rw [e]; rfl) fun cdv A outer s0 H0 E0 h l ds R hr hF => ?_
  obtain ⟨m, rfl, hm0, hm1, rfl⟩ := hF
  intro ok σ H E D s
  have hσ : ∃ r, σ = [some (.ref h), some (.int m), r] := by
    have hl := E.len
    obtain ⟨v0, a0, b0⟩ := E.at_ 0 (.dict []) rfl
    obtain ⟨v1, a1, b1⟩ := E.at_ 1 (.int m) rfl
    match σ, hl, a0, a1 with
    | [x, y, z], _, a0, a1 =>
      have e0 : x = some v0 := by simpa using a0
      have e1 : y = some v1 := by simpa using a1
      rw [b0.heap_inv] at e0
      rw [b1.int_inv] at e1
      exact ⟨z, by rw [e0, e1]; rfl⟩
  obtain ⟨r, rfl⟩ := hσ
  obtain ⟨ns, st, c⟩ := E.z
  have after : ∀ ns st H2, HC h l ns st H2 → (ew K h l).R H H2 → RunB (cx P w K mg base ["_law_heap_here", "_law_many", "_law_rest"] "_law_draw" s_law_draw T.t_law_draw.f cdv A outer s0 H0 E0) ((defBody s_law_draw).drop 1) D [some (.ref h), some (.int m), r] H2 := by
    intro ns st H2 c r2
    refine runB (pss_cons (ps_if ptR pbR pbR) pbR) ?_
    rcases List.eq_nil_or_concat ns with rfl | ⟨ms, n, e⟩
    · refine (EvT.of (et_neD ev_h0 (ev_lst ea_nil) (rvs_ints [])) (c := false) (by rw [eqv_nil]; rfl)) ok _ H2 (en_see c) _ fun H3 r3 => ?_
      refine runB pss_nil ?_
      have c3 := c.same r3
      have rr3 := (ew K h l).trans r2 (r_same c r3)
      refine runB (pss_cons (ps_asg peR (pg_sub peR peR set_list)) pbR) ?_
      refine (ev_mod (ev_intI T.b_int (ev_add (ev_mulR ev_h1 ev_i (by decide)) ev_i)) ev_i (by decide)) ok _ H3 (en_see c3) _ fun v d H4 r4 a e => ?_
      rw [e] at a
      rw [a.int_inv]
      have c4 := c3.same r4
      have rr4 := (ew K h l).trans rr3 (r_same c3 r4)
      refine runE (pe_var (i := 0) rfl (Or.inl rfl) (by decide) (by decide)) ⟨.ref h, rfl, runE pe_int ⟨h, [.ref l, .int st], 1, 1, rfl, rfl, c4.a, rfl, ?_⟩⟩
      have hst : 0 ≤ (st * 48271 + 13) % 2147483647 ∧ (st * 48271 + 13) % 2147483647 < 4294967296 := by omega
      generalize (st * 48271 + 13) % 2147483647 = st' at hst
      have c5 : HC h l [] st' (upd H4 h (.lst [.ref l, .int st'])) := c4.setH hst
      have rr5 := (ew K h l).trans rr4 (r_updH (K := K) ⟨_, _, c5⟩)
      refine runB (pss_cons (ps_ret peR) pbR) ?_
      refine (ev_mod (ev_intI T.b_int (ev_div ev_h1 ev_i (by decide) (by decide))) (ev_n 1) hm0) ok _ _ (en_see c5) _ fun v d H6 r6 a6 e6 => ?_
      rw [e6] at a6
      rw [a6.int_inv]
      exact s.rt _ _ H6 ((ew K h l).trans rr5 (r_same c5 r6)) (.int _) ⟨_, rfl, Int.emod_nonneg _ (by omega), Int.emod_lt_of_pos _ hm0⟩
    · have e' : ns = ms ++ [n] := by simpa using e
      subst e'
      refine (EvT.of (et_neD ev_h0 (ev_lst ea_nil) (rvs_ints (ms ++ [n]))) (c := true) (by rw [eqv_nil]; simp)) ok _ H2 (en_see c) _ fun H3 r3 => ?_
      have c3 := c.same r3
      have rr3 := (ew K h l).trans r2 (r_same c r3)
      have hn : 0 ≤ n := c3.n0 n (by simp)
      have hlen := c3.len
      rw [List.length_append, List.length_singleton] at hlen
      have hlast : ((ms ++ [n]).map V.int)[((ms ++ [n]).map V.int).length - 1]? = some (.int n) := by simp
      have ed : ((ms ++ [n]).map V.int).dropLast = ms.map V.int := by simp
      refine runB (pss_cons (ps_set ok.nd (i := 2) rfl (Or.inl rfl) (pe_bm0 PySem.F.plainAttrs_list PySem.F.slot_list_pop PySem.F.type_list_pop mt_pop peR)) pbR) ?_
      refine run_h0 c3 ⟨.inl ⟨rfl, _, .of c3.b⟩, l, _, .int n, rfl, rfl, c3.b, hlast, ?_⟩
      rw [ed]
      have c4 : HC h l ms st (upd H3 l (.lst (ms.map V.int))) := c3.setL (fun x hx => c3.n0 x (by simp [hx])) (by omega)
      have rr4 := (ew K h l).trans rr3 (r_updL (K := K) ⟨_, _, c4⟩)
      refine runB (pss_cons (ps_expr (pe_bm PySem.F.plainAttrs_list PySem.F.slot_list_append PySem.F.type_list_append mt_append peR paR)) pbR) ?_
      refine run_h0 (r := some (.int n)) c4 ⟨.inl ⟨rfl, _, .of c4.b⟩, (ea_cons (ev_div (ev_n 2) (ev_n 1) hm0 hm1) ea_nil) ok _ _ (en_see2 c4) _ fun vs ds H5 r5 l5 e5 => ?_⟩
      rw [e5] at l5
      obtain ⟨v5, rfl, d5⟩ := L1 l5
      have c5 := c4.same r5
      have rr5 := (ew K h l).trans rr4 (r_same c4 r5)
      refine ⟨l, ms.map V.int, .int (n / m), rfl, by rw [d5.int_inv], c5.b, szl' (by rw [List.length_map]; omega), ?_⟩
      have hq : 0 ≤ n / m := Int.ediv_nonneg hn (by omega)
      have c6 : HC h l (ms ++ [n / m]) st (upd H5 l (.lst ((ms ++ [n / m]).map V.int))) := c5.setL (fun x hx => by
        rcases List.mem_append.mp hx with hx | hx
        · exact c5.n0 x hx
        · rw [List.mem_singleton.mp hx]; exact hq) (by rw [List.length_append, List.length_singleton]; omega)
      rw [show ms.map V.int ++ [.int (n / m)] = (ms ++ [n / m]).map V.int by simp]
      have rr6 := (ew K h l).trans rr5 (r_updL (K := K) ⟨_, _, c6⟩)
      refine runB (pss_cons (ps_ret peR) pbR) ?_
      refine (ev_mod (ev_intI T.b_int (ev_n 2)) (ev_n 1) hm0) ok _ _ (en_see2 c6) _ fun v d H7 r7 a7 e7 => ?_
      rw [e7] at a7
      rw [a7.int_inv]
      exact s.rt _ _ H7 ((ew K h l).trans rr6 (r_same c6 r7)) (.int _) ⟨_, rfl, Int.emod_nonneg _ (by omega), Int.emod_lt_of_pos _ hm0⟩
  refine runB (pss_cons (ps_while ok.po ptR pbR) pbR) ?_
  refine ⟨fun k σ' H' => σ' = [some (.ref h), some (.int m), r] ∧ ∃ ns st, ns.length = k ∧ HC h l ns st H' ∧ (ew K h l).R H H', ⟨_, rfl, ns, st, rfl, c, (ew K h l).refl H⟩, ?_⟩
  rintro k _ H1 ⟨rfl, ns, st, rfl, c, r1⟩
  rcases List.eq_nil_or_concat ns with rfl | ⟨ms, n, e⟩
  · refine (et_w (ew_and (q := false) (EvT.of (et_neD ev_h0 (ev_lst ea_nil) (rvs_ints [])) (c := false) (by rw [eqv_nil]; rfl)) (fun z => Bool.noConfusion z))) ok _ H1 (en_see c) _ fun H2 r2 => ?_
    exact after [] st H2 (c.same r2) ((ew K h l).trans r1 (r_same c r2))
  · have e' : ns = ms ++ [n] := by simpa using e
    subst e'
    refine (et_w (ew_and (EvT.of (et_neD ev_h0 (ev_lst ea_nil) (rvs_ints (ms ++ [n]))) (c := true) (by rw [eqv_nil]; simp)) fun _ => ew_and1 (et_eqI (i := n) (ev_ixLast (ds := ms.map .int) (EvE.of ev_h0 (by rw [map_snoc])) (ev_neg ev_i)) ev_i))) ok _ H1 (en_see c) _ fun H2 r2 => ?_
    have c2 := c.same r2
    have rr2 := (ew K h l).trans r1 (r_same c r2)
    by_cases hn : n = 0
    · rw [decide_eq_true hn]
      refine ⟨fun σ' H' => σ' = [some (.ref h), some (.int m), r] ∧ HC h l ms st H' ∧ (ew K h l).R H H', fun σ' H' q => ⟨ms.length, by rw [List.length_append, List.length_singleton]; omega, q.1, ms, st, rfl, q.2⟩, ?_⟩
      have hlast : ((ms ++ [n]).map V.int)[((ms ++ [n]).map V.int).length - 1]? = some (.int n) := by simp
      have ed : ((ms ++ [n]).map V.int).dropLast = ms.map V.int := by simp
      have hlen := c2.len
      rw [List.length_append, List.length_singleton] at hlen
      refine runB (pss_cons (ps_expr (pe_bm0 PySem.F.plainAttrs_list PySem.F.slot_list_pop PySem.F.type_list_pop mt_pop peR)) pbR) ?_
      refine run_h0 c2 ⟨.inl ⟨rfl, _, .of c2.b⟩, l, _, .int n, rfl, rfl, c2.b, hlast, ?_⟩
      rw [ed]
      have c3 : HC h l ms st (upd H2 l (.lst (ms.map V.int))) := c2.setL (fun x hx => c2.n0 x (by simp [hx])) (by omega)
      exact runB pss_nil ⟨rfl, c3, (ew K h l).trans rr2 (r_updL (K := K) ⟨_, _, c3⟩)⟩
    · rw [decide_eq_false hn]
      exact after _ st H2 c2 rr2
end
end Ng

set_option Elab.async false
set_option linter.all false
set_option maxRecDepth 100000
set_option maxHeartbeats 4000000
/-! The law's heap is made. -/
namespace Ng
open PySem PySem.Spec PyProof.Rows L2
section
variable {X : Cx} {W : Wd X.K} {Γ : Gm}
theorem ex_lcT {elt tg iter c : Expr} {scope : Scope} {n : Nat} {f : Nat → PyData} {Γi : Nat → Gm} {js : List Nat} {lpos : Pos} {Pl : Nat → PyData → Prop} {Acc : Nat → List PyData → Prop} {b : Nat → Bool} (own : List (Str × Nat)) (hi : EvI X W Γ tg iter n f) (blk : BlkOk X.N X.env.scope scope own)
    (hg : ∀ s H C cl fp i, i < n → AsG (X.blk s H scope (compEnvC scope cl C X.env) fp) W (wipeG Γ (own.map (·.2))) tg (f i) (Γi i) js) (hjs : ∀ j ∈ js, j ∈ own.map (·.2))
    (hc : ∀ s H C cl fp i, i < n → EvT (X.blk s H scope (compEnvC scope cl C X.env) fp) W (Γi i) c (b i))
    (he : ∀ s H C cl fp i, i < n → b i = true → EvE (X.blk s H scope (compEnvC scope cl C X.env) fp) W (Γi i) elt (Pl i)) (hfl : ∀ i x, i < n → Pl i x → Fl x)
    (a0 : Acc 0 []) (a1 : ∀ i ds x, i < n → b i = true → Acc i ds → Pl i x → Acc (i + 1) (ds ++ [x])) (a2 : ∀ i ds, i < n → b i = false → Acc i ds → Acc (i + 1) ds) (hn : n ≤ 100000)
    (hfs : ∀ x, foldedSetIterable iter X.env x = pure x := by intro _; rfl) : EvE X W Γ (.ListComp elt [⟨tg, iter, [c], 0⟩] scope lpos) fun d => ∃ ds, d = .list ds ∧ Acc n ds := fun ok σ H E Q hQ =>
  runE (pe_lc (g := gU X scope tg) (tt := tU X scope c) (te := eU X scope elt) ok.calm ok.nd piR blk (fun s H C cl fp => ⟨fun pins s' σ H v u Q I r h => h s _ C cl fp pins s' u I r⟩) (fun s H C cl fp => pts_one ⟨fun pins s' σ H Q I h => h s _ C cl fp pins s' I⟩) (fun s H C cl fp => ⟨fun pins s' σ H Q I h => h s _ C cl fp pins s' I⟩) hfs)
    (lc_run (b := b) hi hg hjs (fun ok i hi σ H E Q hQ s H0 C cl fp => hc s H0 C cl fp i hi (ok.blk s H0 scope C cl fp) σ H E Q hQ) he hfl a0 a1 a2 hn ok E hQ)
theorem ev_slScr {e b : Expr} {pos p2 : Pos} {ds : List PyData} {i : Nat} (h : EvD X W Γ e (.dict [(.none, .list ds)])) (k : EvD X W Γ b (.int (i : Int))) : EvD X W Γ (.Subscript e (.Slice none (some b) none p2) pos) (.list (ds.take i)) := fun ok σ H E Q hQ =>
  runE (pe_slice sl_list peR po_none (po_some peR)) (h ok σ H E _ fun v d H1 r1 d1 e1 => k ok σ H1 (E.mono r1) _ fun v2 d2 H2 r2 d2' e2 => by
    subst e1 e2
    have z2 := ((E.mono r1).mono r2).z
    obtain ⟨p, xs, rfl, hq, nM, ll⟩ := (d1.keep (W.keep r2)).scr_inv
    refine ⟨(i : Int), d2'.int_inv, p, xs, rfl, hq, fun q hn => ?_⟩
    have lc : W.L H2 (cutV xs none (some (i : Int))) (ds.take i) := by rw [cut_to]; exact ll.take i
    have q2 := new_lst z2 lc hn
    exact hQ _ _ _ (W.trans (W.trans r1 r2) q2.1) q2.2 rfl)
theorem ev_revL {e : Expr} {p1 p2 p3 pos : Pos} {j : Nat} {ds : List PyData} (h : EvD X W Γ e (.list ds)) : EvD X W Γ (.Subscript e (.Slice none none (some (.UnaryOp .USub (.Constant (.int 1) j p1) p2)) p3) pos) (.list ds.reverse) := fun ok σ H E Q hQ =>
  runE (pe_revL peR) (h ok σ H E _ fun v d H1 r1 d1 e1 => by
    subst e1
    obtain ⟨p, xs, rfl, hq, nM, ll⟩ := d1.lst_inv
    refine ⟨p, xs, rfl, .of hq, fun q hn => ?_⟩
    have q2 := new_lst (E.mono r1).z ll.rev hn
    exact hQ _ _ _ (W.trans r1 q2.1) q2.2 rfl)
theorem ev_pow {a b : Expr} {pos : Pos} {i j : Int} (h : EvD X W Γ a (.int i)) (k : EvD X W Γ b (.int j)) (hc : 0 ≤ j ∧ j ≤ 1000000 ∧ i.natAbs < 2 ^ 64) : EvD X W Γ (.BinOp a .Pow b pos) (.int (i ^ j.toNat)) := ev_op op_pow h k (rv_I hc fun _ => .int _)
end
def cellV (c : Int) : Int := 2 * (if c < 0 then -c else c) + (if decide (c < 0) then 1 else 0)
def stirV (s c : Int) : Int := (s * 69621 + c % 2147483543 + 29) % 2147483647
def cells (is : List Int) : List Int := (is.take 60).map cellV
def big18 : Int := 1000000000000000000
theorem big18_eq : (10 : Int) ^ (18 : Int).toNat = big18 := by decide
def heapL (is : List Int) : List Int := ((cells is).filter fun c => decide (big18 ≤ c)).reverse
def heapS (is : List Int) : Int := (cells is).foldl stirV 23039
section
variable {P : Program} {w : World} {K : PySem.W.Frag} {mg : Str → Option Value} {base : Heap}
def Fheap (ds : List PyData) (d : PyData) : Prop := ∃ is : List Int, ds = [.dict [(.none, .list (is.map .int))]] ∧ d = .list [.list ((heapL is).map .int), .int (heapS is)]
theorem take_succ' {cs : List Int} {i : Nat} (h : i < cs.length) : cs.take (i + 1) = cs.take i ++ [cs.getD i 0] := by
  rw [List.take_add_one, List.getElem?_eq_getElem h, List.getD_eq_getElem?_getD, List.getElem?_eq_getElem h]
  rfl
theorem ok_law_heap (T : Txt K mg) : FnOk P w K mg base CX0 1 T.t_law_heap.f T.t_law_heap.fd ["_law_script"] (Pu K Fheap) := by
  refine ok_pure T.t_law_heap.fn sc_law_heap (fun ds d ⟨l, e, _⟩ => by rw [e]; rfl) fun cdv A outer s H E M hp ds d hr hF => ?_
  obtain ⟨is, rfl, rfl⟩ := hF
  have hlt : (is.take 60).length ≤ 60 := by rw [List.length_take]; omega
  refine x_parD 1 2 (EvE.of (ev_lc [("_law_cell", 3)] (fun i => .int (cellV ((is.take 60).getD i 0))) (ei_ints (EvE.of (ev_slScr (i := 60) (ev_n 0) ev_i) (by rw [List.map_take])))
    (blkOk_by (N := ["_law_script", "_law_cells", "_law_stir", "_law_cell"]) (sc := defScope s_law_heap) (by decide +kernel)) (fun _ _ _ _ _ i _ => as_n 3) (by decide)
    (fun _ _ _ _ _ i _ => ev_add (ev_mulL ev_i (ev_abs T.b_abs (ev_n 3)) (by decide)) (ev_intB T.b_int (ev_lt (ev_n 3) ev_i))) (fun i _ => .int _) (by omega)) (rI1 cellV (is.take 60))) ev_i ?_
  have hcl : (cells is).length ≤ 60 := by unfold cells; rw [List.length_map]; exact hlt
  have e0 : (is.take 60).map cellV = cells is := rfl
  rw [e0]
  refine x_for (ei_ints (a := cells is) (ev_n 1)) (fun i Γ => ∃ x, Γ = [some (.dict [(.none, .list (is.map .int))]), some (.list ((cells is).map .int)), some (.int (((cells is).take i).foldl stirV 23039)), x]) ⟨none, rfl⟩ ?_ ?_
  · rintro i _ hi ⟨x, rfl⟩
    refine ⟨_, _, as_n 3, ?_⟩
    refine x_setD 2 (EvE.of (ev_mod (ev_intI T.b_int (ev_add (ev_add (ev_mulR (ev_n 2) ev_i (by decide)) (ev_mod (ev_intI T.b_int (ev_n 3)) ev_i (by decide))) ev_i)) ev_i (by decide)) (d' := .int (((cells is).take (i + 1)).foldl stirV 23039)) ?_) (x_nil ⟨_, rfl⟩)
    rw [take_succ' hi, List.foldl_append]
    rfl
  · rintro _ ⟨x, rfl⟩
    rw [List.take_of_length_le (Nat.le_refl _)]
    refine x_ret (ev_lst (ea_cons (?_ : EvD _ _ _ _ (.list ((heapL is).map .int))) (ea_cons (ev_n 2) ea_nil)))
    refine EvE.of (ev_revL (ds := ((cells is).filter fun c => decide (big18 ≤ c)).map .int) ?_) (by rw [← List.map_reverse]; rfl)
    refine (ex_lcT (b := fun i => decide (big18 ≤ (cells is).getD i 0)) (Pl := fun i x => x = .int ((cells is).getD i 0)) (Acc := fun i ds => ds = (((cells is).take i).filter fun c => decide (big18 ≤ c)).map .int) [("_law_cell", 3)] (ei_ints (a := cells is) (ev_n 1))
      (blkOk_by (N := ["_law_script", "_law_cells", "_law_stir", "_law_cell"]) (sc := defScope s_law_heap) (by decide +kernel)) (fun _ _ _ _ _ i _ => as_n 3) (by decide) (fun _ _ _ _ _ i _ => ?_) (fun _ _ _ _ _ i _ _ => ev_n 3) (fun i x _ e => e ▸ .int _) rfl (fun i ds x hi hb e1 e2 => ?_) (fun i ds hi hb e1 => ?_) (by omega)).imp fun d ⟨ds, e1, e2⟩ => ?_
    · exact et_ge (ev_n 3) (EvE.of (ev_pow ev_i ev_i (by decide)) (congrArg PyData.int big18_eq))
    · rw [e1, e2, take_succ' hi, List.filter_append, List.map_append]
      congr 1
      simp only [List.filter_cons, hb, List.filter_nil, if_true, List.map_cons, List.map_nil]
    · rw [e1, take_succ' hi, List.filter_append]
      simp only [List.filter_cons, hb, List.filter_nil, Bool.false_eq_true, if_false, List.append_nil]
    · rw [e1, e2, List.take_of_length_le (Nat.le_refl _)]
theorem heap_ok (is : List Int) : (∀ n ∈ heapL is, 0 ≤ n) ∧ (0 ≤ heapS is ∧ heapS is < 4294967296) ∧ (heapL is).length ≤ 60 := by
  refine ⟨fun n hn => ?_, ?_, ?_⟩
  · unfold heapL at hn
    have := (List.mem_filter.mp (List.mem_reverse.mp hn)).2
    have := of_decide_eq_true this
    unfold big18 at this
    omega
  · unfold heapS
    have : ∀ (l : List Int) (s : Int), 0 ≤ s ∧ s < 4294967296 → 0 ≤ l.foldl stirV s ∧ l.foldl stirV s < 4294967296 := by
      intro l
      induction l with
      | nil => intro s h; exact h
      | cons c l ih =>
        intro s h
        rw [List.foldl_cons]
        refine ih _ ?_
        unfold stirV
        omega
    exact this _ _ (by decide)
  · unfold heapL
    rw [List.length_reverse]
    refine Nat.le_trans (List.length_filter_le _ _) ?_
    unfold cells
    rw [List.length_map, List.length_take]
    omega
end
end Ng

set_option Elab.async false
set_option linter.all false
set_option maxRecDepth 100000
set_option maxHeartbeats 4000000
/-! Picks, drawn regions. -/
namespace Ng
open PySem PySem.Spec PyProof.Rows L2
/-- a whole number within bounds -/
def Iv (a b : Int) : PyData → Prop := fun d => ∃ x : Int, d = .int x ∧ a ≤ x ∧ x ≤ b
theorem Iv.mono {a b a' b' : Int} (h1 : a' ≤ a) (h2 : b ≤ b') {d : PyData} (h : Iv a b d) : Iv a' b' d := by
  obtain ⟨x, e, p, q⟩ := h
  exact ⟨x, e, by omega, by omega⟩
/-- all of them, n of them -/
def AllB (n : Nat) (B : PyData → Prop) : List PyData → Prop := fun ds => ds.length = n ∧ ∀ d ∈ ds, B d
section
variable {X : Cx} {W : Wd X.K} {Γ : Gm} {a b e : Expr} {es : List Expr} {pos : Pos} {B : PyData → Prop} {n : Nat}
theorem RvD.imp {r : R2} {x y : PyData} {P P' : PyData → Prop} (h : RvD X W r x y P) (k : ∀ d, P d → P' d) : RvD X W r x y P' := fun vx vy H z d1 d2 Q hQ => h vx vy H z d1 d2 Q fun v d H' r a p => hQ v d H' r a (k d p)
theorem eb_nil : EvA X W Γ [] (AllB 0 B) := ea_nil.imp fun ds e => by
  subst e
  exact ⟨rfl, fun d hd => by simp at hd⟩
theorem eb_cons (h : EvE X W Γ e B) (k : EvA X W Γ es (AllB n B)) (hs : starEach (e :: es) X.env = (false, eval e X.env) :: starEach es X.env := by rfl) : EvA X W Γ (e :: es) (AllB (n + 1) B) :=
  (ex_cons h k hs).imp fun ds ⟨d, r, e, p, q⟩ => by
    subst e
    exact ⟨by rw [List.length_cons, q.1], fun x hx => by
      rcases List.mem_cons.mp hx with rfl | hx
      · exact p
      · exact q.2 x hx⟩
/-- a list whose things are all alike -/
def LsB (n : Nat) (B : PyData → Prop) : PyData → Prop := fun d => ∃ ds, d = .list ds ∧ AllB n B ds
theorem eb_list (h : EvA X W Γ es (AllB n B)) (hn : n ≤ 100000 := by decide) : EvE X W Γ (.List es pos) (LsB n B) := ex_lst h fun ds p => by rw [p.1]; exact hn
theorem iv_i {i lo hi : Int} {j : Nat} {p : Pos} (h1 : lo ≤ i := by decide) (h2 : i ≤ hi := by decide) : EvE X W Γ (.Constant (.int i) j p) (Iv lo hi) := ev_i.imp fun d e => ⟨i, e, h1, h2⟩
theorem iv_sub {lo hi j : Int} (h : EvE X W Γ a (Iv lo hi)) (k : EvD X W Γ b (.int j)) : EvE X W Γ (.BinOp a .Sub b pos) (Iv (lo - j) (hi - j)) := ex_op op_sub h k fun x y hx e => by
  obtain ⟨i, rfl, p, q⟩ := hx
  subst e
  exact RvD.imp (rv_I0 fun _ => .int _) fun d e => ⟨i - j, e, by omega, by omega⟩
theorem iv_add {lo hi lo2 hi2 : Int} (h : EvE X W Γ a (Iv lo hi)) (k : EvE X W Γ b (Iv lo2 hi2)) : EvE X W Γ (.BinOp a .Add b pos) (Iv (lo + lo2) (hi + hi2)) := ex_op op_add h k fun x y hx hy => by
  obtain ⟨i, rfl, p, q⟩ := hx
  obtain ⟨j, rfl, p2, q2⟩ := hy
  exact RvD.imp (rv_I0 fun _ => .int _) fun d e => ⟨i + j, e, by omega, by omega⟩
theorem ints_of {Q : Int → Prop} : ∀ {ds : List PyData}, (∀ d ∈ ds, ∃ x : Int, d = .int x ∧ Q x) → ∃ c : Vc, ds = c.map .int ∧ ∀ x ∈ c, Q x
  | [], _ => ⟨[], rfl, fun x hx => by simp at hx⟩
  | d :: ds, h => by
    obtain ⟨x, e, q⟩ := h d List.mem_cons_self
    obtain ⟨c, e2, q2⟩ := ints_of (ds := ds) fun y hy => h y (List.mem_cons_of_mem _ hy)
    exact ⟨x :: c, by rw [e, e2]; rfl, fun y hy => by
      rcases List.mem_cons.mp hy with rfl | hy
      · exact q
      · exact q2 y hy⟩
end
/-- a drawn vector -/
def Vd (n : Nat) (m : Int) : PyData → Prop := fun d => ∃ c : Vc, d = vec c ∧ c.length = n ∧ Bd m c
section
variable {X : Cx} {h l : Addr} {Γ : Gm} {e eh : Expr} {p pos : Pos} {B : PyData → Prop} {n : Nat} {k : Nat} {m : Int}
theorem ex_draw (T : Txt X.K X.mg) (G : FnOk X.prog X.w X.K X.mg X.base CX0 1 T.t_law_draw.f T.t_law_draw.fd ["_law_heap_here", "_law_many"] (Ew X.K Fdraw)) (hr : Room 1 X.A) (hh : EvD X (ew X.K h l) Γ eh (.dict [])) (hm : EvD X (ew X.K h l) Γ e (.int m)) (h0 : 0 < m) (h1 : m < 1073741824) (hg : Gl X "_law_draw" := by rfl)
    (he : starEach [eh, e] X.env = (false, eval eh X.env) :: starEach [e] X.env := by rfl) (he2 : starEach [e] X.env = (false, eval e X.env) :: starEach [] X.env := by rfl) (hpl : (backTo pos (starEach [e] X.env)).any (·.1) = false := by rfl) :
    EvE X (ew X.K h l) Γ (.Call (.Name "_law_draw" p) [eh, e] [] pos) (Iv 0 (m - 1)) :=
  ex_callE T.t_law_draw G hr (ea_cons hh (ea_cons hm ea_nil he2) he) (fun ds e => ⟨_, ⟨m, e, h0, h1, rfl⟩, fun d ⟨x, e, p, q⟩ => ⟨x, e, p, by omega⟩⟩) hg (by decide) he hpl
def Fpick (ds : List PyData) (R : PyData → Prop) : Prop := ∃ xs : List PyData, ds = [.dict [], .list xs] ∧ 0 < xs.length ∧ xs.length ≤ 1000 ∧ R = fun d => d ∈ xs
theorem ex_pick (T : Txt X.K X.mg) (G : FnOk X.prog X.w X.K X.mg X.base CX0 2 T.t_law_pick.f T.t_law_pick.fd ["_law_heap_here", "_law_some"] (Ew X.K Fpick)) (hr : Room 2 X.A) (hh : EvD X (ew X.K h l) Γ eh (.dict [])) (hm : EvE X (ew X.K h l) Γ e (LsB n B)) (h0 : 0 < n := by decide) (h1 : n ≤ 1000 := by decide) (hg : Gl X "_law_pick" := by rfl)
    (he : starEach [eh, e] X.env = (false, eval eh X.env) :: starEach [e] X.env := by rfl) (he2 : starEach [e] X.env = (false, eval e X.env) :: starEach [] X.env := by rfl) (hpl : (backTo pos (starEach [e] X.env)).any (·.1) = false := by rfl) :
    EvE X (ew X.K h l) Γ (.Call (.Name "_law_pick" p) [eh, e] [] pos) B :=
  ex_callE T.t_law_pick G hr (ex_cons hh (ex_cons hm ea_nil he2) he) (fun ds ⟨d, r, e1, e2, d', r', e3, ⟨xs, e4, q⟩, e5⟩ => ⟨_, ⟨xs, by rw [e1, e2, e3, e4, e5], by rw [q.1]; exact h0, by rw [q.1]; exact h1, rfl⟩, fun d hd => q.2 d hd⟩) hg (by decide) he hpl
end
section
variable {P : Program} {w : World} {K : PySem.W.Frag} {mg : Str → Option Value} {base : Heap}
theorem ok_law_pick (T : Txt K mg) : FnOk P w K mg base CX0 2 T.t_law_pick.f T.t_law_pick.fd ["_law_heap_here", "_law_some"] (Ew K Fpick) := by
  refine ok_eff T.t_law_pick.fn sc_law_pick (fun ds R ⟨m, e, _⟩ => by rw [e]; rfl) fun cdv A outer s0 H0 E0 h l ds R hr hF => ?_
  obtain ⟨xs, rfl, h0, h1, rfl⟩ := hF
  refine x_ret (ex_ixL (ev_n 1) (ex_draw T (ok_law_draw T) hr (ev_n 0) (ev_lenL T.b_len (ev_n 1)) (by omega) (by omega)) fun x y e1 hy => ?_)
  obtain ⟨i, e2, p, q⟩ := hy
  have hi : i.toNat < xs.length := by omega
  refine ⟨xs, e1, i.toNat, by rw [e2, Int.toNat_of_nonneg p], xs[i.toNat], List.getElem?_eq_getElem hi, List.getElem_mem hi⟩
/-- a small region -/
def Sm (n : Nat) : Reg → Prop
  | .ball c r => c.length = n ∧ Bd 100 c ∧ 0 ≤ r ∧ r ≤ 2000
  | .box l u => l.length = n ∧ Bd 100 l ∧ Bd 100 u ∧ Ord l u
  | .cell c a b => c.length = n ∧ Bd 100 c ∧ 0 ≤ a ∧ a ≤ b ∧ b ≤ 2000
def SmD (n : Nat) : PyData → Prop := fun d => ∃ R : Reg, d = R.d ∧ Sm n R
theorem Sm.ri {n : Nat} {R : Reg} (h : Sm n R) : RI n R := by
  cases R with
  | ball c r => exact ⟨h.1, h.2.1.mono (by decide), h.2.2.1, by have := h.2.2.2; omega⟩
  | box l u => exact ⟨h.1, h.2.2.2.len.trans h.1, h.2.1.mono (by decide), h.2.2.1.mono (by decide)⟩
  | cell c a b => exact ⟨h.1, h.2.1.mono (by decide), h.2.2.1, h.2.2.2.1, by have := h.2.2.2.2; omega⟩
theorem Sm.ok {n : Nat} {R : Reg} (h : Sm n R) : Okk R := by
  cases R with
  | ball c r => trivial
  | box l u => exact h.2.2.2
  | cell c a b => trivial
theorem Sm.hi {n : Nat} {R : Reg} (h : Sm n R) : R.hi ≤ 2000 := by
  cases R with
  | ball c r => exact h.2.2.2
  | box l u => show (0 : Int) ≤ 2000; decide
  | cell c a b => exact h.2.2.2.2
theorem Sm.c {n : Nat} {R : Reg} (h : Sm n R) : R.c.length = n ∧ Bd 100 R.c := by
  cases R with
  | ball c r => exact ⟨h.1, h.2.1⟩
  | box l u => exact ⟨h.1, h.2.1⟩
  | cell c a b => exact ⟨h.1, h.2.1⟩
def Fregion (ds : List PyData) (R : PyData → Prop) : Prop := ∃ (k : Kd) (n : Nat) (far : Int), ds = [.dict [], .str k.s, .int n, .int far] ∧ n ≤ 8 ∧ 0 ≤ far ∧ far ≤ 40 ∧ R = SmD n
theorem vd_of {n : Nat} {m : Int} {ds : List PyData} (h : Each (fun i x => Iv (-m) m x) n ds) : ∃ c : Vc, ds = c.map .int ∧ c.length = n ∧ Bd m c := by
  obtain ⟨c, e, q⟩ := ints_of (Q := fun x => -m ≤ x ∧ x ≤ m) fun d hd => by
    obtain ⟨i, hi⟩ := List.mem_iff_getElem?.mp hd
    exact h.2 i d hi
  refine ⟨c, e, ?_, q⟩
  have := h.1
  rw [e, List.length_map] at this
  exact this
theorem iv_fl {a b : Int} {d : PyData} (h : Iv a b d) : Fl d := by
  obtain ⟨x, rfl, _⟩ := h
  exact .int x
theorem getD_ints {u : Vc} {i : Nat} {x : PyData} (h : (u.map PyData.int)[i]? = some x) : x = .int (u.getD i 0) ∧ i < u.length := by
  have hl : i < u.length := by
    have := (List.getElem?_eq_some_iff.mp h).1
    rwa [List.length_map] at this
  rw [vget hl] at h
  exact ⟨(Option.some.inj h).symm, hl⟩
theorem ups_of {c : Vc} {ds : List PyData} (h : Each (fun i x => Iv (c.getD i 0) (c.getD i 0 + 40) x) c.length ds) (hc : Bd 40 c) : ∃ u : Vc, ds = u.map .int ∧ Ord c u ∧ Bd 100 u := by
  obtain ⟨u, e, q⟩ := ints_of (Q := fun x => -100 ≤ x ∧ x ≤ 100) fun d hd => by
    obtain ⟨i, hi⟩ := List.mem_iff_getElem?.mp hd
    obtain ⟨x, e, p, q⟩ := h.2 i d hi
    have := bd_get hc (by decide) i
    exact ⟨x, e, by omega, by omega⟩
  have hl : u.length = c.length := by
    have := h.1
    rw [e, List.length_map] at this
    exact this
  refine ⟨u, e, Ord.of hl fun i hi => ?_, q⟩
  obtain ⟨x, ex, p, _⟩ := h.2 i (.int (u.getD i 0)) (by rw [e]; exact vget (by omega))
  cases ex
  exact p
theorem ok_law_region (T : Txt K mg) : FnOk P w K mg base CX0 3 T.t_law_region.f T.t_law_region.fd ["_law_heap_here", "_law_kind", "_law_places", "_law_far"] (Ew K Fregion) := by
  refine ok_eff T.t_law_region.fn sc_law_region (fun ds R ⟨k, n, m, e, _⟩ => by rw [e]; rfl) fun cdv A outer s0 H0 E0 h l ds R hr hF => ?_
  obtain ⟨k, n, far, rfl, h8, hf0, hf1, rfl⟩ := hF
  refine x_set 4 (ex_tupleOf (Pl := fun ds => ∃ c : Vc, ds = c.map .int ∧ c.length = n ∧ Bd far c) T.b_tuple ((ex_lc [("_law_place", 5)] (Pl := fun i x => Iv (-far) far x) (ei_to T.b_range (ev_n 2) (by omega)) (blkOk_by (N := ["_law_heap_here", "_law_kind", "_law_places", "_law_far", "_law_centre", "_law_place", "_law_word", "_law_part_here", "_law_size"]) (sc := defScope s_law_region) (by decide +kernel))
    (fun _ _ _ _ _ i _ => as_n 5) (by decide) (fun _ _ _ _ _ i _ => (iv_sub (ex_draw T (ok_law_draw T) (hr.mono (by decide)) (ev_n 0) (ev_add (ev_mulL ev_i (ev_n 3) (by decide)) ev_i) (by omega) (by omega)) (ev_n 3)).imp fun d hd => hd.mono (by omega) (by omega)) (fun i x _ hx => iv_fl hx) (by omega)).imp fun d ⟨ds, e, q⟩ => ⟨ds, e, vd_of q⟩)) fun d hd => ?_
  obtain ⟨ds, e, c, e2, hc1, hc2⟩ := hd
  have ed : d = vec c := by rw [e, e2]; rfl
  subst ed
  have hcb : Bd 100 c := hc2.mono (by omega)
  have hf2 : far * far ≤ 40 * 40 := Int.mul_le_mul hf1 hf1 hf0 (by decide)
  have hf3 := msn far
  refine x_set 6 (ex_pick T (ok_law_pick T) (hr.mono (by decide)) (ev_n 0) (eb_list (eb_cons (B := fun d => d = .str "ball" ∨ d = .str "box" ∨ d = .str "cell") (ev_s.imp fun d e => .inl e) (eb_cons (ev_s.imp fun d e => .inr (.inl e)) (eb_cons (ev_s.imp fun d e => .inr (.inr e)) eb_nil))))) fun d hd => ?_
  have tail : ∀ wd : Str, (wd = "ball" ∨ wd = "cell") → ExB (cx P w K mg base ["_law_heap_here", "_law_kind", "_law_places", "_law_far", "_law_centre", "_law_place", "_law_word", "_law_part_here", "_law_size"] "_law_region" s_law_region T.t_law_region.f cdv A outer s0 H0 E0) (ew K h l)
      [some (.dict []), some (.str k.s), some (.int n), some (.int far), some (vec c), none, some (.str wd), none, none] ((defBody s_law_region).drop 3) { nx := fun _ => False, rt := SmD n } := by
    intro wd hwd
    refine x_set 8 (ex_if (EvT.of (et_eqS (ev_n 1) ev_s) (k_un k)) (fun _ => (ex_draw T (ok_law_draw T) (hr.mono (by decide)) (ev_n 0) ev_i (by decide) (by decide)).imp fun d hd => hd.mono (a' := 0) (b' := 1600) (by decide) (by decide))
      fun _ => ex_pick T (ok_law_pick T) (hr.mono (by decide)) (ev_n 0) (eb_list (eb_cons iv_i (eb_cons iv_i (eb_cons iv_i (eb_cons ((ex_draw T (ok_law_draw T) (hr.mono (by decide)) (ev_n 0) ev_i (by decide) (by decide)).imp fun d hd => hd.mono (by decide) (by decide))
        (eb_cons ((ex_draw T (ok_law_draw T) (hr.mono (by decide)) (ev_n 0) (ev_add (ev_mulL (ev_n 3) (ev_n 3) (by omega)) ev_i) (by omega) (by omega)).imp fun d hd => hd.mono (by decide) (by omega)) eb_nil))))))) fun d hd => ?_
    obtain ⟨z, rfl, hz0, hz1⟩ := hd
    rcases hwd with rfl | rfl
    · exact x_ifr (EvT.of (et_eqS (ev_n 6) ev_s) (c := true) (by decide +kernel)) (fun _ => x_ret ((ev_tup (ea_cons ev_s (ea_cons (ev_n 4) (ea_cons (ev_n 8) ea_nil)))).imp fun d e => ⟨.ball c z, e, hc1, hcb, hz0, by omega⟩)) fun z => Bool.noConfusion z
    · refine x_ifr (EvT.of (et_eqS (ev_n 6) ev_s) (c := false) (by decide +kernel)) (fun z => Bool.noConfusion z) fun _ => ?_
      refine x_ret ((ex_tup (ex_cons ev_s (ex_cons (ev_n 4) (ex_cons (ev_n 8) (ex_cons (iv_add (ev_n 8 (d := .int z) |>.imp fun d e => (⟨z, e, Int.le_refl _, Int.le_refl _⟩ : Iv z z d)) (ex_pick (B := Iv 0 8) T (ok_law_pick T) (hr.mono (by decide)) (ev_n 0) (eb_list (eb_cons iv_i (eb_cons iv_i (eb_cons ((ex_draw T (ok_law_draw T) (hr.mono (by decide)) (ev_n 0) ev_i (by decide) (by decide)).imp fun d hd => hd.mono (by decide) (by decide)) eb_nil)))))) ea_nil)))) ?_).imp ?_)
      · rintro ds ⟨d1, r1, rfl, _, d2, r2, rfl, _, d3, r3, rfl, _, d4, r4, rfl, _, rfl⟩
        exact (show 4 ≤ 100000 by decide)
      · rintro d ⟨ds, rfl, d1, r1, rfl, rfl, d2, r2, rfl, rfl, d3, r3, rfl, rfl, d4, r4, rfl, ⟨y, rfl, hy0, hy1⟩, rfl⟩
        exact ⟨.cell c z y, rfl, hc1, hcb, hz0, by omega, by omega⟩
  rcases hd with rfl | rfl | rfl
  · exact x_ifr (EvT.of (et_eqS (ev_n 6) ev_s) (c := false) (by decide +kernel)) (fun z => Bool.noConfusion z) fun _ => tail _ (.inl rfl)
  · refine x_ifr (EvT.of (et_eqS (ev_n 6) ev_s) (c := true) (by decide +kernel)) (fun _ => ?_) fun z => Bool.noConfusion z
    refine x_ret ((ex_tup (ex_cons ev_s (ex_cons (ev_n 4) (ex_cons (ex_tupleOf (Pl := fun ds => ∃ u : Vc, ds = u.map .int ∧ Ord c u ∧ Bd 100 u) T.b_tuple ((ex_lc [("_law_part_here", 7)] (Pl := fun i x => Iv (c.getD i 0) (c.getD i 0 + 40) x) (ei_vec (ev_n 4)) (blkOk_by (N := ["_law_heap_here", "_law_kind", "_law_places", "_law_far", "_law_centre", "_law_place", "_law_word", "_law_part_here", "_law_size"]) (sc := defScope s_law_region) (by decide +kernel))
      (fun _ _ _ _ _ i _ => as_n 7) (by decide) (fun _ _ _ _ _ i _ => (iv_add ((ev_n 7 (d := .int (c.getD i 0))).imp fun d e => (⟨_, e, Int.le_refl _, Int.le_refl _⟩ : Iv (c.getD i 0) (c.getD i 0) d)) (ex_pick (B := Iv 0 40) T (ok_law_pick T) (hr.mono (by decide)) (ev_n 0) (eb_list (eb_cons iv_i (eb_cons iv_i
        (eb_cons ((ex_draw T (ok_law_draw T) (hr.mono (by decide)) (ev_n 0) ev_i (by decide) (by decide)).imp fun d hd => hd.mono (by decide) (by decide)) (eb_cons ((ex_draw T (ok_law_draw T) (hr.mono (by decide)) (ev_n 0) (ev_add (ev_n 3) ev_i) (by omega) (by omega)).imp fun d hd => hd.mono (by decide) (by omega)) eb_nil)))))))
        |>.imp fun d hd => hd.mono (by omega) (by omega)) (fun i x _ hx => iv_fl hx) (by omega)).imp fun d ⟨ds, e, q⟩ => ⟨ds, e, ups_of q (hc2.mono (by omega))⟩)) ea_nil))) ?_).imp ?_)
    · rintro ds ⟨d1, r1, rfl, _, d2, r2, rfl, _, d3, r3, rfl, _, rfl⟩
      exact (show 3 ≤ 100000 by decide)
    · rintro d ⟨ds, rfl, d1, r1, rfl, rfl, d2, r2, rfl, rfl, d3, r3, rfl, ⟨us, rfl, u, rfl, hu1, hu2⟩, rfl⟩
      exact ⟨.box c u, rfl, hc1, hcb, hu2, hu1⟩
  · exact x_ifr (EvT.of (et_eqS (ev_n 6) ev_s) (c := false) (by decide +kernel)) (fun z => Bool.noConfusion z) fun _ => tail _ (.inr rfl)
end
end Ng

set_option Elab.async false
set_option linter.all false
set_option maxRecDepth 100000
set_option maxHeartbeats 4000000
/-! The outer regions that the law tries. -/
namespace Ng
open PySem PySem.Spec PyProof.Rows L2
section
variable {X : Cx} {W : Wd X.K} {Γ : Gm} {rest : List Stmt} {P : Post} {pos : Pos}
theorem L3' {H : Hp} {vs : List V} {d d' d2 : PyData} (l : W.L H vs [d, d', d2]) : ∃ v v' v2, vs = [v, v', v2] ∧ W.D H v d ∧ W.D H v' d' ∧ W.D H v2 d2 := by
  cases l with
  | cons a l =>
    cases l with
    | cons b l =>
      cases l with
      | cons c l =>
        cases l
        exact ⟨_, _, _, rfl, a, b, c⟩
theorem x_par3 (i j m : Nat) {x y z : Str} {a b c : Expr} {px py pz pt pt2 : Pos} {kt k2 : Nat} {Pa : List PyData → Prop} (ha : EvA X W Γ [a, b, c] Pa) (k : ∀ ds, Pa ds → ∃ d1 d2 d3, ds = [d1, d2, d3] ∧ ExB X W (((Γ.set i (some d1)).set j (some d2)).set m (some d3)) rest P)
    (hij : i ≠ j := by decide) (him : i ≠ m := by decide) (hjm : j ≠ m := by decide) (hi : X.N[i]? = some x := by rfl) (hj : X.N[j]? = some y := by rfl) (hm : X.N[m]? = some z := by rfl) (hx : X.env.scope.names.lookup x = some .local := by rfl) (hy : X.env.scope.names.lookup y = some .local := by rfl) (hz : X.env.scope.names.lookup z = some .local := by rfl)
    (hw : swappedStores [.Tuple [.Name x px, .Name y py, .Name z pz] kt pt] (.Tuple [a, b, c] k2 pt2) X.env = pure (some [x, y, z]) := by rfl) (hs : swapsWithSole [.Tuple [.Name x px, .Name y py, .Name z pz] kt pt] (.Tuple [a, b, c] k2 pt2) pos.line X.env = pure false := by rfl) :
    ExB X W Γ (.Assign [.Tuple [.Name x px, .Name y py, .Name z pz] kt pt] (.Tuple [a, b, c] k2 pt2) pos :: rest) P :=
  x_cons (fun ok => ps_par3 ok.calm ok.nd hi hj hm hij him hjm hx hy hz paR hw hs) fun ok σ H E D s => ha ok σ H E _ fun vs ds H1 r1 l p => by
    obtain ⟨d1, d2, d3, rfl, kk⟩ := k ds p
    obtain ⟨v, w, u, rfl, h1, h2, h3⟩ := L3' l
    exact ⟨v, w, u, rfl, kk ok _ H1 ((((E.mono r1).set h1).set h2).set h3) D (s.mono r1)⟩
end
section
variable {P : Program} {w : World} {K : PySem.W.Frag} {mg : Str → Option Value} {base : Heap}
def regs (Os : List Reg) : PyData := .list (Os.map Reg.d)
def Fouters (ds : List PyData) (R : PyData → Prop) : Prop := ∃ (k : Kd) (I : Reg) (c : Vc) (n : Nat), ds = [.dict [], .str k.s, I.d, vec c] ∧ 1 ≤ n ∧ n ≤ 8 ∧ Sm n I ∧ c.length = n ∧ Bd 100 c ∧ R = fun d => ∃ Os : List Reg, d = regs Os ∧ ∀ O ∈ Os, RO n O ∧ VI n O.c
theorem ok_law_outers (T : Txt K mg) : FnOk P w K mg base CX0 4 T.t_law_outers.f T.t_law_outers.fd ["_law_heap_here", "_law_kind", "_law_inner", "_law_centre"] (Ew K Fouters) := by
  refine ok_eff T.t_law_outers.fn sc_law_outers (fun ds R ⟨k, n, m, _, e, _⟩ => by rw [e]; rfl) fun cdv A outer s0 H0 E0 h l ds R hr hF => ?_
  obtain ⟨k, I, c, n, rfl, h1, h8, hS, hcl, hcb, rfl⟩ := hF
  have hI := hS.ri
  have hv : VI n c := ⟨hcl, hcb.mono (by decide)⟩
  refine x_par3 4 5 6 (ex_cons (ev_call T.t_law_floor (ok_law_floor T) (hr.mono (by decide)) (ea_cons (ev_n 1) (ea_cons (ev_n 2) (ea_cons (ev_n 3) ea_nil))) ⟨k, I, c, n, rfl, h8, hI, hS.ok, hv, rfl⟩)
    (ex_cons (ev_call T.t_law_ceiling (ok_law_ceiling T) (hr.mono (by decide)) (ea_cons (ev_n 1) (ea_cons (ev_n 2) (ea_cons (ev_n 3) ea_nil))) ⟨k, I, c, n, rfl, h8, hI, hS.ok, hv, rfl⟩)
    (ex_cons (ex_pick (B := Iv (-1) 1) T (ok_law_pick T) (hr.mono (by decide)) (ev_n 0) (eb_list (eb_cons iv_i (eb_cons iv_i (eb_cons iv_i (eb_cons ((ev_neg ev_i).imp fun d e => ⟨-1, e, by decide, by decide⟩) eb_nil)))))) ea_nil))) fun ds hds => ?_
  obtain ⟨d1, r1, rfl, e1, d2, r2, rfl, e2, d3, r3, rfl, ⟨off, e3, ho1, ho2⟩, rfl⟩ := hds
  refine ⟨d1, d2, d3, rfl, ?_⟩
  subst e1 e2 e3
  generalize floorR k I c = low
  generalize ceilR k I c = high
  refine x_setD 7 (d := regs [.ball c (max 0 (high + off)), .cell c (min (max 0 (low - off)) (max low high)) (max low high), .cell c low (max low (high + off))]) (ev_lst (ds := [_, _, _]) (ea_cons (ev_tup (ea_cons ev_s (ea_cons (ev_n 3) (ea_cons (ev_max2 T.b_max ev_i (ev_add (ev_n 5) (ev_n 6))) ea_nil))))
    (ea_cons (ev_tup (ea_cons ev_s (ea_cons (ev_n 3) (ea_cons (ev_min2 T.b_min (ev_max2 T.b_max ev_i (ev_sub (ev_n 4) (ev_n 6))) (ev_max2 T.b_max (ev_n 4) (ev_n 5))) (ea_cons (ev_max2 T.b_max (ev_n 4) (ev_n 5)) ea_nil)))))
    (ea_cons (ev_tup (ea_cons ev_s (ea_cons (ev_n 3) (ea_cons (ev_n 4) (ea_cons (ev_max2 T.b_max (ev_n 4) (ev_add (ev_n 5) (ev_n 6))) ea_nil))))) ea_nil)))) ?_
  have hhi := hS.hi
  refine x_setD 8 (ev_call T.t_law_around_due (ok_law_around_due T) (hr.mono (by decide)) (ea_cons (ev_n 1) (ea_cons (ev_n 2) ea_nil)) ⟨k, I, n, rfl, h8, hI, rfl⟩) ?_
  have three : ∀ O ∈ [Reg.ball c (max 0 (high + off)), .cell c (min (max 0 (low - off)) (max low high)) (max low high), .cell c low (max low (high + off))], RO n O ∧ VI n O.c := by
    intro O hO
    rcases List.mem_cons.mp hO with rfl | hO
    · exact ⟨hv, hv⟩
    · rcases List.mem_cons.mp hO with rfl | hO
      · exact ⟨hv, hv⟩
      · rw [List.mem_singleton.mp hO]
        exact ⟨hv, hv⟩
  cases hA : around k I with
  | none => exact x_if (et_notN (ev_n 8)) (fun z => Bool.noConfusion z) fun _ => x_nil (x_ret ((ev_n 7).imp fun d e => ⟨_, e, three⟩))
  | some p =>
    obtain ⟨a, b⟩ := p
    obtain ⟨l1, l2⟩ := around_len hI hA
    refine x_if (et_notN (ev_n 8)) (fun _ => ?_) fun z => Bool.noConfusion z
    refine x_set 9 (ex_draw T (ok_law_draw T) (hr.mono (by decide)) (ev_n 0) (ev_len T.b_len (ev_n 3)) (by omega) (by omega)) fun d hd => ?_
    obtain ⟨i, rfl, hi0, hi1⟩ := hd
    obtain ⟨t, rfl⟩ : ∃ t : Nat, i = (t : Int) := ⟨i.toNat, (Int.toNat_of_nonneg hi0).symm⟩
    have ht : t < a.length := by omega
    have ht2 : t < b.length := by omega
    have bd : Bd 2100 a ∧ Bd 2100 b := by
      cases hb : I.isBox with
      | true =>
        obtain ⟨l, u, rfl⟩ := isBox_of hb
        cases hA
        exact ⟨hS.2.1.mono (by decide), hS.2.2.1.mono (by decide)⟩
      | false =>
        rw [around_nb hb] at hA
        obtain ⟨s', hs, e⟩ := Option.map_eq_some_iff.mp hA
        cases e
        have hh := hI.hi
        have h2 := side_le (by omega) hs
        have h3 := hS.c.2
        constructor
        · intro x hx
          obtain ⟨y, hy, rfl⟩ := List.mem_map.mp hx
          have := h3 y hy
          omega
        · intro x hx
          obtain ⟨y, hy, rfl⟩ := List.mem_map.mp hx
          have := h3 y hy
          omega
    refine x_setD 10 (put_vecT (v := a) (x := min (b.getD t 0) (a.getD t 0 - off)) (ev_ix1 (ev_n 8) rfl) (ev_n 9) (ev_min2 T.b_min (ev_at (ev_ix2 (ev_n 8) rfl) (ev_n 9) ht2) (ev_sub (ev_at (ev_ix1 (ev_n 8) rfl) (ev_n 9) ht) (ev_n 6))) (ev_ix1 (ev_n 8) rfl) (EvE.of (ev_add (ev_n 9) ev_i) rfl) (by omega)) ?_
    refine x_setD 7 (d := regs ([.ball c (max 0 (high + off)), .cell c (min (max 0 (low - off)) (max low high)) (max low high), .cell c low (max low (high + off))] ++ [.box (put a t (min (b.getD t 0) (a.getD t 0 - off))) b, .box (a.map (· - 1)) b]))
      (ev_catL (ds := List.map Reg.d [.ball c (max 0 (high + off)), .cell c (min (max 0 (low - off)) (max low high)) (max low high), .cell c low (max low (high + off))]) (es := [_, _]) (ev_n 7) (ev_lst (ds := [_, _]) (ea_cons (ev_tup (ea_cons ev_s (ea_cons (ev_n 10) (ea_cons (ev_ix2 (ev_n 8) rfl) ea_nil))))
        (ea_cons (ev_tup (ea_cons ev_s (ea_cons (ev_tupleOf T.b_tuple (EvE.of (ev_lc [("_law_part_here", 11)] (fun i => .int (a.getD i 0 - 1)) (ei_vec (ev_ix1 (ev_n 8) rfl))
          (blkOk_by (N := ["_law_heap_here", "_law_kind", "_law_inner", "_law_centre", "_law_low", "_law_high", "_law_off", "_law_found", "_law_box", "_law_at", "_law_lows", "_law_part_here"]) (sc := defScope s_law_outers) (by decide +kernel)) (fun _ _ _ _ _ i _ => as_n 11) (by decide)
          (fun _ _ _ _ _ i _ => ev_sub (ev_n 11) ev_i) (fun i _ => .int _) (by omega)) (rI1 (· - 1) a))) (ea_cons (ev_ix2 (ev_n 8) rfl) ea_nil)))) ea_nil))) (by show 5 ≤ 100000; decide)) (x_nil ?_)
    refine x_ret ((ev_n 7).imp fun d e => ⟨_, e, fun O hO => ?_⟩)
    rcases List.mem_append.mp hO with hO | hO
    · exact three O hO
    · have ha := bd_get bd.1 (by decide) t
      have hb := bd_get bd.2 (by decide) t
      rcases List.mem_cons.mp hO with rfl | hO
      · exact ⟨⟨(put_len ht).trans l1, l2⟩, (put_len ht).trans l1, bd_put bd.1 (by decide) (by omega)⟩
      · rw [List.mem_singleton.mp hO]
        refine ⟨⟨by rw [List.length_map]; exact l1, l2⟩, by show (a.map (· - 1)).length = n; rw [List.length_map]; exact l1, fun x hx => ?_⟩
        obtain ⟨y, hy, rfl⟩ := List.mem_map.mp hx
        have := bd.1 y hy
        omega
end
end Ng

set_option Elab.async false
set_option linter.all false
set_option maxRecDepth 100000
set_option maxHeartbeats 4000000
/-! The law's last answers; loops that start in another world. -/
namespace Ng
open PySem PySem.Spec PyProof.Rows L2
def kinds : List Kd := [.sq, .su, .mo, .un]
structure Knd (K : PySem.W.Frag) (mg : Str → Option Value) where
  a : Addr
  m : mg "KINDS" = some (.ref a)
  t : ∃ (o : Obj) (its : Array Value) (n : Nat), K.lookup a = some o ∧ o.cls = .type "tuple" ∧ o.data = .seq its n ∧ its.size ≤ sizeLine ∧ Vals (kinds.map fun k => V.str k.s) its.toList
section
variable {X : Cx} {W W2 : Wd X.K} {Γ : Gm} {rest body : List Stmt} {P : Post} {pos p : Pos} {tg iter : Expr}
theorem ei_kinds (k : Knd X.K X.mg) (hg : Gl X "KINDS" := by rfl) : EvI X W Γ tg (.Name "KINDS" p) 4 fun i => .str (kinds.getD i .sq).s := fun ok σ H E Rr hR =>
  runI (pi_tup (pe_glob (v := .ref k.a) hg k.m rfl)) (by
    have hq : ∀ H', SqT X.K H' k.a (kinds.map fun k => V.str k.s) := fun H' => .inr k.t
    refine ⟨k.a, rfl, ⟨_, hq H⟩, hR _ _ (W.refl H) ⟨fun H' r i hi => ?_, fun H' r => ⟨_, hq H', by simp [kinds]⟩, fun H' r i x H2 hi y => ?_⟩⟩
    · refine ⟨_, V.str (kinds.getD i .sq).s, hq H', ?_⟩
      match i, hi with
      | 0, _ => rfl
      | 1, _ => rfl
      | 2, _ => rfl
      | 3, _ => rfl
    · obtain ⟨rfl, y⟩ := y
      refine ⟨W.refl _, ?_⟩
      have e := y _ (hq _)
      have : x = V.str (kinds.getD i .sq).s := by
        match i, hi, e with
        | 0, _, e => exact (Option.some.inj e).symm
        | 1, _, e => exact (Option.some.inj e).symm
        | 2, _, e => exact (Option.some.inj e).symm
        | 3, _, e => exact (Option.some.inj e).symm
      rw [this]
      exact .str _)
theorem range_sw {a : Expr} {j : Int} (hm : X.mg "range" = none) (h : EvD X W Γ a (.int j)) (h1 : -(2 ^ 62) ≤ j) (h2 : j < 2 ^ 62) (ok : XOk X) {σ : L2.St} {H : Hp} (E : En W H σ Γ) (Rr : It → Hp → Prop) (hR : ∀ J H', W.R H H' → WalkD X W2 H' J j.toNat (fun i => .int (i : Int)) → Rr J H') (hg : Gl X "range" := by rfl) (hs : starEach [a] X.env = [(false, eval a X.env)] := by rfl) :
    RunI X tg (.Call (.Name "range" p) [a] [] pos) σ H Rr :=
  runI (pi_range1 hg hm paR hs) ((ea_cons h ea_nil hs) ok σ H E _ fun vs ds H1 r1 l q => by
    subst q
    obtain ⟨v, rfl, d⟩ := L1 l
    refine ⟨j, by rw [d.int_inv], h1, h2, hR _ _ r1 ⟨fun _ _ i hi => hi, fun _ _ => Nat.le_refl _, fun H' r i x H2 hi y => ?_⟩⟩
    obtain ⟨rfl, rfl⟩ := y
    refine ⟨W2.refl _, ?_⟩
    rw [Int.zero_add]
    exact .int _)
/-- a for whose iterable is evaluated in one world, and that runs in another -/
theorem run_for {n : Nat} {f : Nat → PyData} {σ : L2.St} {H : Hp} {D : Ends} (ok : XOk X) (hi : ∀ Rr : It → Hp → Prop, (∀ J H', W.R H H' → WalkD X W2 H' J n f → Rr J H') → RunI X tg iter σ H Rr) (E2 : ∀ H', W.R H H' → En W2 H' σ Γ) (I : Nat → Gm → Prop) (h0 : I 0 Γ)
    (hs : ∀ i Γ1, i < n → I i Γ1 → ∃ Γ2 js, AsG X W2 Γ1 tg (f i) Γ2 js ∧ ExB X W2 Γ2 body { nx := I (i + 1), ct := I (i + 1), bk := fun Γ' => ExB X W2 Γ' rest P, rt := P.rt }) (hd : ∀ Γ1, I n Γ1 → ExB X W2 Γ1 rest P) (s : ∀ H', W.R H H' → Sat X W2 H' P D)
    (hfs : ∀ x, foldedSetIterable iter X.env x = pure x := by intro _; rfl) : RunB X (.For tg iter body [] pos :: rest) D σ H :=
  runB (pss_cons (ps_for ok.po ok.calm piR pgR pbR hfs) pbR) (hi _ fun J H1 r1 wk => by
    refine ⟨fun i m σ' H' => m = n - i ∧ i ≤ n ∧ W2.R H1 H' ∧ ∃ Γ1, En W2 H' σ' Γ1 ∧ I i Γ1, ⟨n, rfl, Nat.zero_le _, W2.refl _, Γ, E2 H1 r1, h0⟩, ?_⟩
    rintro i m σ' H' ⟨rfl, hle, r2, Γ1, E1, hI⟩
    by_cases hlt : i < n
    · refine .inr ⟨wk.go H' r2 i hlt, fun σ2 H2 => W2.R H1 H2 ∧ ∃ Γ2, En W2 H2 σ2 Γ2 ∧ I (i + 1) Γ2, fun σ2 H2 q => ⟨n - (i + 1), by omega, rfl, hlt, q.1, q.2⟩, fun v H3 y => ?_⟩
      obtain ⟨r3, hv⟩ := wk.yld H' r2 i v H3 hlt y
      obtain ⟨Γ2, js, hg, hb⟩ := hs i Γ1 hlt hI
      refine hg ok σ' H3 v (E1.mono r3) hv _ fun σ4 H4 r4 E4 _ _ => hb ok σ4 H4 E4 _ ?_
      have rr : W2.R H1 H4 := W2.trans r2 (W2.trans r3 r4)
      exact ⟨fun σ5 H5 Γ5 r5 e5 q => ⟨W2.trans rr r5, Γ5, e5, q⟩, fun v d H5 r5 a q => (s H1 r1).rt v d H5 (W2.trans rr r5) a q,
        fun σ5 H5 Γ5 r5 e5 q => q ok σ5 H5 e5 D (((s H1 r1).mono rr).mono r5), fun σ5 H5 Γ5 r5 e5 q => ⟨W2.trans rr r5, Γ5, e5, q⟩⟩
    · have : i = n := by omega
      subst this
      exact .inl ⟨wk.stop H' r2, hd Γ1 hI ok σ' H' E1 D ((s H1 r1).mono r2)⟩)
end
/-! the constants -/
theorem isq64 : isq (4 * 1 * 16) = 8 := isq_unique (by decide) (by decide) (by decide)
theorem isq128 : isq (4 * 2 * 16) = 11 := isq_unique (by decide) (by decide) (by decide)
theorem isq8 : isq 8 = 2 := isq_unique (by decide) (by decide) (by decide)
theorem end1 : inside .sq (.ball [1, 0] 16) (.ball [0, 0] 25) = true := by
  show (decide ((0 : Int) ≤ 0) && decide ((1 : Int) + 16 + isq (4 * 1 * 16) ≤ 25)) = true
  rw [isq64]
  decide
theorem end2 : inside .sq (.ball [1, 1] 16) (.ball [0, 0] 25) = false := by
  show (decide ((0 : Int) ≤ 0) && decide ((2 : Int) + 16 + isq (4 * 2 * 16) ≤ 25)) = false
  rw [isq128]
  decide
theorem end3 : around .sq (.ball [3, -1] 8) = some ([1, -3], [5, 1]) := by
  show some ([(3 : Int) - isq 8, -1 - isq 8], [3 + isq 8, -1 + isq 8]) = _
  rw [isq8]
  decide
theorem end4 : around .un (.cell [3] 0 1) = none := by decide
theorem end5 : around .un (.ball [3, 4] 0) = some ([3, 4], [3, 4]) := by decide
theorem end6 : inside .su (.box [0, 0] [1, 1]) (.cell [4, 0] 3 5) = true := by decide
end Ng

set_option Elab.async false
set_option linter.all false
set_option maxRecDepth 100000
set_option maxHeartbeats 8000000
/-! The law. -/
namespace Ng
open PySem PySem.Spec PyProof.Rows L2
abbrev lawN : List Str := ["_law_script", "_law_heap_here", "_law_turn", "_law_places", "_law_far", "_law_kind", "_law_great", "_law_centre", "_law_place", "_law_some", "_law_inner", "_law_outer", "_law_kept"]
def Slaw (K : PySem.W.Frag) : Sp := fun vs H Q _ => ∃ (a : Addr) (is : List Int), vs = [.ref a] ∧ SqL K H a (is.map V.int) ∧ is.length ≤ 100000 ∧ ∀ H', Q (.bl true) H'
abbrev lawP : Post := { nx := fun _ => False, rt := fun d => d = .bool true }
section
variable {P : Program} {w : World} {K : PySem.W.Frag} {mg : Str → Option Value} {base : Heap}
theorem vi_i {n : Nat} {c : Vc} (h : c.length = n) (k : Bd 9500 c) : VI n c := ⟨h, k.mono (by decide)⟩
/-- the law's last questions -/
theorem law_last (T : Txt K mg) {f : Addr} {cdv : Value} {A : Around} {outer : List Env} {s0 : Shared} {H0 : Hp} {h l : Addr} (hr : Room 8 (A.deeper (envOfC "law" (defScope s_law) s0.heap.objs.size f cdv))) (Γ : Gm) :
    ExB (cx P w K mg base lawN "law" s_law f cdv A outer s0 H0 E0) (ew K h l) Γ ((defBody s_law).drop 2) lawP := by
  refine x_ifr (b := false) (EvT.of (et_w (ew_or (et_notB (q := true) (ev_call T.t_is_inside (ok_is_inside T) (hr.mono (by decide)) (ea_cons ev_s (ea_cons (ev_tup (ea_cons ev_s (ea_cons (ev_tup (ea_cons ev_i (ea_cons ev_i ea_nil))) (ea_cons ev_i ea_nil)))) (ea_cons (ev_tup (ea_cons ev_s (ea_cons (ev_tup (ea_cons ev_i (ea_cons ev_i ea_nil))) (ea_cons ev_i ea_nil)))) ea_nil)))
      (⟨.sq, .ball [1, 0] 16, .ball [0, 0] 25, 2, rfl, by decide, ⟨rfl, by unfold Bd; decide, by decide, by decide⟩, ⟨rfl, by unfold Bd; decide⟩, rfl⟩ : Finside _ _)) ev_b)
    fun _ => ew_or1 (et_notB (q := false) (ev_call T.t_is_inside (ok_is_inside T) (hr.mono (by decide)) (ea_cons ev_s (ea_cons (ev_tup (ea_cons ev_s (ea_cons (ev_tup (ea_cons ev_i (ea_cons ev_i ea_nil))) (ea_cons ev_i ea_nil)))) (ea_cons (ev_tup (ea_cons ev_s (ea_cons (ev_tup (ea_cons ev_i (ea_cons ev_i ea_nil))) (ea_cons ev_i ea_nil)))) ea_nil)))
      (⟨.sq, .ball [1, 1] 16, .ball [0, 0] 25, 2, rfl, by decide, ⟨rfl, by unfold Bd; decide, by decide, by decide⟩, ⟨rfl, by unfold Bd; decide⟩, rfl⟩ : Finside _ _)) ev_b))) (by rw [end1, end2]; rfl)) (fun z => Bool.noConfusion z) fun _ => ?_
  refine x_ifr (b := false) (EvT.of (et_w (ew_or (et_neD (EvE.of (ev_call T.t_box_around (ok_box_around T) (hr.mono (by decide)) (ea_cons ev_s (ea_cons (ev_tup (ea_cons ev_s (ea_cons (ev_tup (ea_cons ev_i (ea_cons (ev_neg ev_i) ea_nil))) (ea_cons ev_i ea_nil)))) ea_nil))
      (⟨.sq, .ball [3, -1] 8, 2, rfl, by decide, ⟨rfl, by unfold Bd; decide, by decide, by decide⟩, rfl⟩ : Faround _ _)) (congrArg boxD end3)) (ev_tup (ds := [.str "box", vec [1, -3], vec [5, 1]]) (ea_cons ev_s (ea_cons (ev_tup (ea_cons ev_i (ea_cons (ev_neg ev_i) ea_nil))) (ea_cons (ev_tup (ea_cons ev_i (ea_cons ev_i ea_nil))) ea_nil)))) (rvs_reg (.box [1, -3] [5, 1]) (.box [1, -3] [5, 1])))
    fun _ => ew_or1 (et_notN (EvE.of (ev_call T.t_box_around (ok_box_around T) (hr.mono (by decide)) (ea_cons ev_s (ea_cons (ev_tup (ea_cons ev_s (ea_cons (ev_tup (ea_cons ev_i ea_nil)) (ea_cons ev_i (ea_cons ev_i ea_nil))))) ea_nil))
      (⟨.un, .cell [3] 0 1, 1, rfl, by decide, ⟨rfl, by unfold Bd; decide, by decide, by decide, by decide⟩, rfl⟩ : Faround _ _)) (congrArg boxD end4))))) (by
        show (!PyData.eqv (Reg.box [1, -3] [5, 1]).d (Reg.box [1, -3] [5, 1]).d || !isNone .none) = false
        rw [eqv_box]
        rfl)) (fun z => Bool.noConfusion z) fun _ => ?_
  refine x_ret ((ev_and (ev_eqD (EvE.of (ev_call T.t_box_around (ok_box_around T) (hr.mono (by decide)) (ea_cons ev_s (ea_cons (ev_tup (ea_cons ev_s (ea_cons (ev_tup (ea_cons ev_i (ea_cons ev_i ea_nil))) (ea_cons ev_i ea_nil)))) ea_nil))
      (⟨.un, .ball [3, 4] 0, 2, rfl, by decide, ⟨rfl, by unfold Bd; decide, by decide, by decide⟩, rfl⟩ : Faround _ _)) (congrArg boxD end5)) (ev_tup (ds := [.str "box", vec [3, 4], vec [3, 4]]) (ea_cons ev_s (ea_cons (ev_tup (ea_cons ev_i (ea_cons ev_i ea_nil))) (ea_cons (ev_tup (ea_cons ev_i (ea_cons ev_i ea_nil))) ea_nil)))) (rvs_reg (.box [3, 4] [3, 4]) (.box [3, 4] [3, 4])))
    fun _ => ev_one (ev_isB (q := true) (ev_call T.t_is_inside (ok_is_inside T) (hr.mono (by decide)) (ea_cons ev_s (ea_cons (ev_tup (ea_cons ev_s (ea_cons (ev_tup (ea_cons ev_i (ea_cons ev_i ea_nil))) (ea_cons (ev_tup (ea_cons ev_i (ea_cons ev_i ea_nil))) ea_nil)))) (ea_cons (ev_tup (ea_cons ev_s (ea_cons (ev_tup (ea_cons ev_i (ea_cons ev_i ea_nil))) (ea_cons ev_i (ea_cons ev_i ea_nil))))) ea_nil)))
      (⟨.su, .box [0, 0] [1, 1], .cell [4, 0] 3 5, 2, rfl, by decide, ⟨rfl, rfl, by unfold Bd; decide, by unfold Bd; decide⟩, ⟨rfl, by unfold Bd; decide⟩, rfl⟩ : Finside _ _)) ev_b)).imp fun d e => ?_)
  rw [e]
  show PyData.bool (PyData.eqv (Reg.box [3, 4] [3, 4]).d (Reg.box [3, 4] [3, 4]).d && decide (inside .su (.box [0, 0] [1, 1]) (.cell [4, 0] 3 5) = true)) = .bool true
  rw [eqv_box, end6]
  rfl
end
end Ng

set_option Elab.async false
set_option linter.all false
set_option maxRecDepth 100000
set_option maxHeartbeats 8000000
/-! The law's walk. -/
namespace Ng
open PySem PySem.Spec PyProof.Rows L2
section
variable {X : Cx} {W : Wd X.K} {Γ : Gm} {rest body : List Stmt} {P : Post} {pos : Pos} {tg it : Expr}
/-- over a list of which only the kind of its things is known -/
theorem x_forL {B : PyData → Prop} (h : EvE X W Γ it fun d => ∃ ds, d = .list ds ∧ ∀ x ∈ ds, B x) (I : Gm → Prop) (h0 : I Γ) (hs : ∀ d Γ1, B d → I Γ1 → ∃ Γ2 js, AsG X W Γ1 tg d Γ2 js ∧ ExB X W Γ2 body { nx := I, ct := I, bk := fun Γ' => ExB X W Γ' rest P, rt := P.rt }) (hd : ∀ Γ1, I Γ1 → ExB X W Γ1 rest P)
    (hfs : ∀ x, foldedSetIterable it X.env x = pure x := by intro _; rfl) : ExB X W Γ (.For tg it body [] pos :: rest) P :=
  x_cons (fun ok => ps_for ok.po ok.calm piR pgR pbR hfs) fun ok σ H E D s => runI (pi_list peR) (h ok σ H E _ fun v d H1 r1 a q => by
    obtain ⟨ds, rfl, hB⟩ := q
    obtain ⟨p, xs, rfl, hq, nM, l⟩ := a.lst_inv
    refine ⟨p, rfl, ⟨xs, .of hq⟩, ?_⟩
    have still : ∀ H', W.R H1 H' → SqL X.K H' p xs ∧ W.L H' xs ds := fun H' r => ⟨.of (W.keep r p _ hq nM), l.keep (W.keep r)⟩
    have hl := l.len
    refine ⟨fun i m σ' H' => m = ds.length - i ∧ i ≤ ds.length ∧ W.R H1 H' ∧ ∃ Γ1, En W H' σ' Γ1 ∧ I Γ1, ⟨_, rfl, Nat.zero_le _, W.refl _, Γ, E.mono r1, h0⟩, ?_⟩
    rintro i m σ' H' ⟨rfl, hle, r2, Γ1, E1, hI⟩
    by_cases hlt : i < ds.length
    · refine .inr ⟨⟨xs, xs[i], (still H' r2).1, List.getElem?_eq_getElem (by omega)⟩, fun σ2 H2 => W.R H1 H2 ∧ ∃ Γ2, En W H2 σ2 Γ2 ∧ I Γ2, fun σ2 H2 q => ⟨ds.length - (i + 1), by omega, rfl, hlt, q.1, q.2⟩, fun v H3 y => ?_⟩
      obtain ⟨rfl, y⟩ := y
      obtain ⟨v', a', b'⟩ := (still _ r2).2.get (List.getElem?_eq_getElem hlt)
      have : v = v' := Option.some.inj ((y xs (still _ r2).1).symm.trans a')
      subst this
      obtain ⟨Γ2, js, hg, hb⟩ := hs ds[i] Γ1 (hB _ (List.getElem_mem hlt)) hI
      refine hg ok σ' _ v E1 b' _ fun σ4 H4 r4 E4 _ _ => hb ok σ4 H4 E4 _ ?_
      have rr : W.R H1 H4 := W.trans r2 r4
      exact ⟨fun σ5 H5 Γ5 r5 e5 q => ⟨W.trans rr r5, Γ5, e5, q⟩, fun v d H5 r5 a q => s.rt v d H5 (W.trans r1 (W.trans rr r5)) a q,
        fun σ5 H5 Γ5 r5 e5 q => q ok σ5 H5 e5 D (((s.mono r1).mono rr).mono r5), fun σ5 H5 Γ5 r5 e5 q => ⟨W.trans rr r5, Γ5, e5, q⟩⟩
    · have : i = ds.length := by omega
      subst this
      exact .inl ⟨⟨xs, (still H' r2).1, by omega⟩, hd Γ1 hI ok σ' H' E1 D ((s.mono r1).mono r2)⟩)
end
section
variable {P : Program} {w : World} {K : PySem.W.Frag} {mg : Str → Option Value} {base : Heap}
theorem eight : (10 : Int) ^ (8 : Int).toNat = 100000000 := by decide
def forBody : Stmt → List Stmt
  | .For _ _ b _ _ => b
  | _ => []
def turnB : List Stmt := forBody ((defBody s_law).getD 1 (.Pass ⟨0, 0, 0, 0⟩))
def kindB : List Stmt := forBody (turnB.getD 1 (.Pass ⟨0, 0, 0, 0⟩))
/-- one kind -/
theorem law_kind (T : Txt K mg) {f : Addr} {cdv : Value} {A : Around} {outer : List Env} {s0 : Shared} {H0 : Hp} {h l : Addr} (hr : Room 8 (A.deeper (envOfC "law" (defScope s_law) s0.heap.objs.size f cdv))) (hgd : (A.deeper (envOfC "law" (defScope s_law) s0.heap.objs.size f cdv)).guards = some [])
    (k : Kd) (n : Nat) (far : Int) (h1 : 1 ≤ n) (h8 : n ≤ 8) (hf0 : 0 ≤ far) (hf1 : far ≤ 40) (I : Gm → Prop) (x2 : Option PyData) (hI : ∀ x6 x7 x8 x9 x10 x11 x12 : Option PyData, I [none, some (.dict []), x2, some (.int n), some (.int far), some (.str k.s), x6, x7, x8, x9, x10, x11, x12]) (x6 x7 x8 x9 x10 x11 x12 : Option PyData) (ct bk : Gm → Prop) :
    ExB (cx P w K mg base lawN "law" s_law f cdv A outer s0 H0 E0) (ew K h l) [none, some (.dict []), x2, some (.int n), some (.int far), some (.str k.s), x6, x7, x8, x9, x10, x11, x12] kindB { nx := I, ct := ct, bk := bk, rt := fun d => d = .bool true } := by
  refine x_par 6 7 (ex_cons (ex_draw T (ok_law_draw T) (hr.mono (by decide)) (ev_n 1) (EvE.of (ev_mulL ev_i (EvE.of (ev_pow ev_i ev_i (by decide)) (congrArg PyData.int eight)) (by decide)) (d' := .int 400000000) rfl) (by decide) (by decide))
    (ex_cons (ex_tupleOf (Pl := fun ds => ∃ c : Vc, ds = c.map .int ∧ c.length = n ∧ Bd 9500 c) T.b_tuple ((ex_lc [("_law_place", 8)] (Pl := fun i x => Iv (-9500) 9500 x) (ei_to T.b_range (ev_n 3) (by omega)) (blkOk_by (N := lawN) (sc := defScope s_law) (by decide +kernel))
      (fun _ _ _ _ _ i _ => as_n 8) (by decide) (fun _ _ _ _ _ i _ => (iv_sub (ex_draw T (ok_law_draw T) (hr.mono (by decide)) (ev_n 1) ev_i (by decide) (by decide)) ev_i).imp fun d hd => hd.mono (by decide) (by decide)) (fun i x _ hx => iv_fl hx) (by omega)).imp fun d ⟨ds, e, q⟩ => ⟨ds, e, vd_of q⟩)) ea_nil)) fun ds hds => ?_
  obtain ⟨d1, r1, rfl, ⟨great, rfl, hg0, hg1⟩, d2, r2, rfl, ⟨es, rfl, c, rfl, hc1, hc2⟩, rfl⟩ := hds
  refine ⟨_, vec c, rfl, ?_⟩
  refine x_for (ei_list (ds := [Reg.ball c great, .cell c (great / 2) great, .cell c 0 0].map Reg.d) (f := fun i => ([Reg.ball c great, .cell c (great / 2) great, .cell c 0 0].getD i (.ball [] 0)).d) (ev_lst (ds := [_, _, _]) (ea_cons (ev_tup (ea_cons ev_s (ea_cons (ev_n 7) (ea_cons (ev_n 6) ea_nil))))
      (ea_cons (ev_tup (ea_cons ev_s (ea_cons (ev_n 7) (ea_cons (ev_div (ev_n 6) ev_i (by decide) (by decide)) (ea_cons (ev_n 6) ea_nil))))) (ea_cons (ev_tup (ea_cons ev_s (ea_cons (ev_n 7) (ea_cons ev_i (ea_cons ev_i ea_nil))))) ea_nil)))) ?_)
    (fun i Γ => ∃ x9, Γ = [none, some (.dict []), x2, some (.int n), some (.int far), some (.str k.s), some (.int great), some (vec c), x8, x9, x10, x11, x12]) ⟨_, rfl⟩ ?_ ?_
  · intro i hi
    match i, hi with
    | 0, _ => rfl
    | 1, _ => rfl
    | 2, _ => rfl
  · rintro i _ hi ⟨x9, rfl⟩
    refine ⟨_, _, as_n 9, ?_⟩
    have hR : RI n ([Reg.ball c great, .cell c (great / 2) great, .cell c 0 0].getD i (.ball [] 0)) := by
      have hb : Bd 10000 c := hc2.mono (by decide)
      match i, hi with
      | 0, _ => exact ⟨hc1, hb, hg0, by omega⟩
      | 1, _ => exact ⟨hc1, hb, by omega, by omega, by omega⟩
      | 2, _ => exact ⟨hc1, hb, by decide, by decide, by decide⟩
    generalize [Reg.ball c great, .cell c (great / 2) great, .cell c 0 0].getD i (.ball [] 0) = R at hR
    refine x_ifr (b := false) (EvT.of (et_neS (ev_repr hgd T.b_repr (ev_call T.t_box_around (ok_box_around T) (hr.mono (by decide)) (ea_cons (ev_n 5) (ea_cons (ev_n 9) ea_nil)) ⟨k, R, n, rfl, h8, hR, rfl⟩) (shows_box hR h8))
      (ev_repr hgd T.b_repr (ev_call T.t_law_around_due (ok_law_around_due T) (hr.mono (by decide)) (ea_cons (ev_n 5) (ea_cons (ev_n 9) ea_nil)) ⟨k, R, n, rfl, h8, hR, rfl⟩) (shows_box hR h8))) (by simp)) (fun z => Bool.noConfusion z) fun _ => x_nil ⟨_, rfl⟩
  · rintro _ ⟨x9, rfl⟩
    refine x_par 10 11 (ex_cons (ex_callE T.t_law_region (ok_law_region T) (hr.mono (by decide)) (ea_cons (ev_n 1) (ea_cons (ev_n 5) (ea_cons (ev_n 3) (ea_cons (ev_n 4) ea_nil)))) fun ds e => ⟨SmD n, ⟨k, n, far, e, h8, hf0, hf1, rfl⟩, fun d hd => hd⟩)
      (ex_cons (ex_callE T.t_law_region (ok_law_region T) (hr.mono (by decide)) (ea_cons (ev_n 1) (ea_cons (ev_n 5) (ea_cons (ev_n 3) (ea_cons (ev_n 4) ea_nil)))) fun ds e => ⟨SmD n, ⟨k, n, far, e, h8, hf0, hf1, rfl⟩, fun d hd => hd⟩) ea_nil)) fun ds hds => ?_
    obtain ⟨d1, r1, rfl, ⟨I1, rfl, s1⟩, d2, r2, rfl, ⟨O1, rfl, s2⟩, rfl⟩ := hds
    refine ⟨_, _, rfl, ?_⟩
    have z1 := s1.ri
    have z2 := s2.ri
    have hI1 := s1.c
    have hO1 := s2.c
    refine x_setD 12 (ev_repr hgd T.b_repr (ev_lst (ea_cons (ev_n 10) (ea_cons (ev_n 11) ea_nil))) (shows_two (z1.sz h8) (z2.sz h8))) ?_
    refine x_set 7 (ex_pick (B := fun d => ∃ c : Vc, d = vec c ∧ c.length = n ∧ Bd 100 c) T (ok_law_pick T) (hr.mono (by decide)) (ev_n 1) (eb_list (eb_cons ((ev_c (ev_n 10)).imp fun d e => ⟨_, e, hI1⟩) (eb_cons ((ev_c (ev_n 11)).imp fun d e => ⟨_, e, hO1⟩) eb_nil)))) fun d hd => ?_
    obtain ⟨c', rfl, hc1', hc2'⟩ := hd
    refine x_ifr (b := false) (EvT.of (et_w (ew_or (et_not (et_v (ev_callG T.t_law_around_right (ok_law_around_right T) (hr.mono (by decide)) hgd (ea_cons (ev_n 5) (ea_cons (ev_n 10) ea_nil)) ⟨k, I1, n, rfl, h8, z1, by have := s1.hi; omega, rfl⟩)))
      fun _ => ew_or (et_not (et_v (ev_callG T.t_law_inside_right (ok_law_inside_right T) (hr.mono (by decide)) hgd (ea_cons (ev_n 5) (ea_cons (ev_n 10) (ea_cons (ev_n 11) ea_nil))) ⟨k, I1, O1, n, rfl, h8, z1, s1.ok, z2.o, z2.c, rfl⟩)))
      fun _ => ew_or1 (et_not (et_v (ev_callG T.t_law_inside_right (ok_law_inside_right T) (hr.mono (by decide)) hgd (ea_cons (ev_n 5) (ea_cons (ev_n 10) (ea_cons (ev_n 10) ea_nil))) ⟨k, I1, I1, n, rfl, h8, z1, s1.ok, z1.o, z1.c, rfl⟩))))) rfl) (fun z => Bool.noConfusion z) fun _ => ?_
    refine x_forL (B := fun d => ∃ O : Reg, d = O.d ∧ RO n O ∧ VI n O.c) (ex_callE T.t_law_outers (ok_law_outers T) (hr.mono (by decide)) (ea_cons (ev_n 1) (ea_cons (ev_n 5) (ea_cons (ev_n 10) (ea_cons (ev_n 7) ea_nil)))) fun ds e => ⟨_, ⟨k, I1, c', n, e, h1, h8, s1, hc1', hc2', rfl⟩, fun d ⟨Os, e, q⟩ => ⟨_, e, fun x hx => ?_⟩⟩)
      (fun Γ => ∃ x9, Γ = [none, some (.dict []), x2, some (.int n), some (.int far), some (.str k.s), some (.int great), some (vec c'), x8, x9, some I1.d, some O1.d, some (.str (PyData.list [I1.d, O1.d]).shown)]) ⟨_, rfl⟩ ?_ ?_
    · obtain ⟨O, hO, rfl⟩ := List.mem_map.mp hx
      exact ⟨O, rfl, q O hO⟩
    · rintro _ _ ⟨O, rfl, o1, o2⟩ ⟨x9, rfl⟩
      refine ⟨_, _, as_n 9, ?_⟩
      exact x_ifr (b := false) (EvT.of (et_not (et_v (ev_callG T.t_law_inside_right (ok_law_inside_right T) (hr.mono (by decide)) hgd (ea_cons (ev_n 5) (ea_cons (ev_n 10) (ea_cons (ev_n 9) ea_nil))) ⟨k, I1, O, n, rfl, h8, z1, s1.ok, o1, o2, rfl⟩))) rfl) (fun z => Bool.noConfusion z) fun _ => x_nil ⟨_, rfl⟩
    · rintro _ ⟨x9, rfl⟩
      exact x_ifr (b := false) (EvT.of (et_neS (ev_repr hgd T.b_repr (ev_lst (ea_cons (ev_n 10) (ea_cons (ev_n 11) ea_nil))) (shows_two (z1.sz h8) (z2.sz h8))) (ev_n 12)) (by simp)) (fun z => Bool.noConfusion z) fun _ => x_nil (hI _ _ _ _ _ _ _)
end
end Ng

set_option Elab.async false
set_option linter.all false
set_option maxRecDepth 100000
set_option maxHeartbeats 8000000
/-! The law, whole. -/
namespace Ng
open PySem PySem.Spec PyProof.Rows L2
section
variable {P : Program} {w : World} {K : PySem.W.Frag} {mg : Str → Option Value} {base : Heap}
/-- one turn -/
theorem law_turn (T : Txt K mg) (Kn : Knd K mg) {f : Addr} {cdv : Value} {A : Around} {outer : List Env} {s0 : Shared} {H0 : Hp} {h l : Addr} (hr : Room 8 (A.deeper (envOfC "law" (defScope s_law) s0.heap.objs.size f cdv))) (hgd : (A.deeper (envOfC "law" (defScope s_law) s0.heap.objs.size f cdv)).guards = some [])
    (I : Gm → Prop) (x2 : Option PyData) (hI : ∀ x3 x4 x5 x6 x7 x8 x9 x10 x11 x12 : Option PyData, I [none, some (.dict []), x2, x3, x4, x5, x6, x7, x8, x9, x10, x11, x12]) (x3 x4 x5 x6 x7 x8 x9 x10 x11 x12 : Option PyData) (ct bk : Gm → Prop) :
    ExB (cx P w K mg base lawN "law" s_law f cdv A outer s0 H0 E0) (ew K h l) [none, some (.dict []), x2, x3, x4, x5, x6, x7, x8, x9, x10, x11, x12] turnB { nx := I, ct := ct, bk := bk, rt := fun d => d = .bool true } := by
  refine x_par 3 4 (ex_cons (ex_pick (B := Iv 1 8) T (ok_law_pick T) (hr.mono (by decide)) (ev_n 1) (eb_list (eb_cons iv_i (eb_cons iv_i (eb_cons iv_i (eb_cons iv_i (eb_cons iv_i (eb_cons iv_i eb_nil))))))))
    (ex_cons (ex_pick (B := Iv 3 40) T (ok_law_pick T) (hr.mono (by decide)) (ev_n 1) (eb_list (eb_cons iv_i (eb_cons iv_i (eb_cons iv_i (eb_cons iv_i eb_nil)))))) ea_nil)) fun ds hds => ?_
  obtain ⟨d1, r1, rfl, ⟨pl, rfl, hp1, hp8⟩, d2, r2, rfl, ⟨far, rfl, hf3, hf40⟩, rfl⟩ := hds
  obtain ⟨n, rfl⟩ : ∃ n : Nat, pl = (n : Int) := ⟨pl.toNat, (Int.toNat_of_nonneg (by omega)).symm⟩
  refine ⟨_, _, rfl, ?_⟩
  refine x_for (ei_kinds Kn) (fun _ Γ => ∃ x5 x6 x7 x8 x9 x10 x11 x12, Γ = [none, some (.dict []), x2, some (.int n), some (.int far), x5, x6, x7, x8, x9, x10, x11, x12]) ⟨_, _, _, _, _, _, _, _, rfl⟩ ?_ ?_
  · rintro i _ hi ⟨x5, x6, x7, x8, x9, x10, x11, x12, rfl⟩
    exact ⟨_, _, as_n 5, law_kind T hr hgd (kinds.getD i .sq) n far (by omega) (by omega) (by omega) hf40 _ _ (fun x6 x7 x8 x9 x10 x11 x12 => ⟨_, x6, x7, x8, x9, x10, x11, x12, rfl⟩) _ _ _ _ _ _ _ _ _⟩
  · rintro _ ⟨x5, x6, x7, x8, x9, x10, x11, x12, rfl⟩
    exact x_nil (hI _ _ _ _ _ _ _ _ _ _)
theorem ok_law (T : Txt K mg) (Kn : Knd K mg) {f : Addr} {fd : FuncData} (Fn : Fun K "law" "law" s_law f fd) : FnG P w K mg base 9 f fd ["_law_script"] (Slaw K) := by
  refine fnG_of Fn sc_law (fun vs H Q ⟨a, is, e, _⟩ => by rw [e]; rfl) fun cdv A outer s H vs Q hr hgd hsp => ?_
  obtain ⟨a, is, rfl, hq, hlen, hQ⟩ := hsp
  have ok := xok (P := P) (w := w) (K := K) (mg := mg) (base := base) (N := lawN) (qual := "law") (st := s_law) (outer := outer) (s := s) (H := H) (E := E0) sc_law.nd hr
  have E1 : En (ow K) H (start lawN [.ref a]) (startG lawN [.dict [(.none, .list (is.map .int))]]) := en_start (W := ow K) (fun b z => z.elim) (.cons (.scr hq (fun z => z) (ints_dt is)) .nil)
  refine runB (pss_cons (ps_set ok.nd (i := 1) rfl (by first | exact Or.inl rfl | exact Or.inr rfl) peR rfl (by first | exact .inl rfl | exact .inr rfl)) pbR) ?_
  refine (ev_call T.t_law_heap (ok_law_heap T) (hr.mono (by decide)) (ea_cons (ev_n 0) ea_nil) ⟨is, rfl, rfl⟩) ok _ H E1 _ fun v d H1 r1 a1 e1 => ?_
  subst e1
  have E2 := (E1.mono r1).set (i := 1) a1
  obtain ⟨hh, xs, rfl, eh, _, lx⟩ := a1.lst_inv
  obtain ⟨v1, v2, rfl, b1, b2⟩ := L2' lx
  obtain ⟨l, ys, rfl, el, _, ly⟩ := b1.lst_inv
  have hy := ints_inv (X := cx P w K mg base lawN "law" s_law f cdv A outer s H E0) (W := ow K) ly
  rw [b2.int_inv] at eh
  rw [hy] at el
  obtain ⟨h1, h2, h3⟩ := heap_ok is
  have c : HC hh l (heapL is) (heapS is) H1 := ⟨eh, el, h1, h2, h3⟩
  refine run_for (W := ow K) (W2 := ew K hh l) (P := lawP) (Γ := [none, some (.dict []), none, none, none, none, none, none, none, none, none, none, none]) ok (fun Rr hR => range_sw T.b_range (ev_add ev_i (ev_intB T.b_int (ev_gt (ev_lenS T.b_len (ev_n 0)) ev_i))) (by split <;> omega) (by split <;> omega) ok E2 Rr hR) (fun H' r => ?_)
    (fun _ Γ => ∃ x2 x3 x4 x5 x6 x7 x8 x9 x10 x11 x12, Γ = [none, some (.dict []), x2, x3, x4, x5, x6, x7, x8, x9, x10, x11, x12]) ⟨_, _, _, _, _, _, _, _, _, _, _, rfl⟩ ?_ ?_ fun H' r => ?_
  · refine ⟨⟨_, _, c.same r⟩, E2.len, fun i d q => ?_⟩
    match i, q with
    | 0, q => cases q
    | 1, q =>
      cases q
      exact ⟨.ref hh, rfl, .heap⟩
    | 2, q => cases q
    | 3, q => cases q
    | 4, q => cases q
    | 5, q => cases q
    | 6, q => cases q
    | 7, q => cases q
    | 8, q => cases q
    | 9, q => cases q
    | 10, q => cases q
    | 11, q => cases q
    | 12, q => cases q
    | i + 13, q => cases q
  · rintro i _ hi ⟨x2, x3, x4, x5, x6, x7, x8, x9, x10, x11, x12, rfl⟩
    exact ⟨_, _, as_n 2, law_turn T Kn hr hgd _ _ (fun x3 x4 x5 x6 x7 x8 x9 x10 x11 x12 => ⟨_, x3, x4, x5, x6, x7, x8, x9, x10, x11, x12, rfl⟩) _ _ _ _ _ _ _ _ _ _ _ _⟩
  · rintro Γ1 _
    exact law_last T hr Γ1
  · exact ⟨fun _ _ _ _ _ z => z.elim, fun v d H'' r' a' e => by subst e; rw [a'.bl_inv]; exact hQ H'', fun _ _ _ _ _ z => z.elim, fun _ _ _ _ _ z => z.elim⟩
end
end Ng

set_option Elab.async false
set_option linter.all false
set_option maxRecDepth 100000
set_option maxHeartbeats 4000000
/-! The law called from outside: nothing is being shown there. -/
namespace Ng
open PySem PySem.Spec PyProof.Rows L2
/-- what is tracked at the entry: the script, where it is none of the module's own objects -/
def scrH (K : PySem.W.Frag) (a : Addr) (o : Obj) (ns : List Int) : Hp := fun b => if b = a ∧ K.lookup a = none then some (.frz o (.lst (ns.map V.int))) else none
theorem scrH_some {K : PySem.W.Frag} {a b : Addr} {o : Obj} {ns : List Int} {u : HO} (h : scrH K a o ns b = some u) : b = a ∧ K.lookup a = none ∧ u = .frz o (.lst (ns.map V.int)) := by
  unfold scrH at h
  split at h
  · rename_i q
    exact ⟨q.1, q.2, (Option.some.inj h).symm⟩
  · cases h
theorem law_callG {P : Program} {w : World} {K : PySem.W.Frag} {mg mb : Str → Option Value} {k : Nat} {fa a : Addr} {fd : FuncData} {x : Str} {s : Shared} {vs : List Value} {ns : List Int}
    (inK : K.In s.heap) (hg : s.heap.Ns mainGlobals mg) (hb : s.heap.Ns builtinsNs mb) (hbb : ∀ y : Str, y ≠ "__name__" → mb y = bootBuiltins y) (hlim : s.heap.NoLimit) (hgen : s.gens = #[])
    (ho : s.heap.get? a = some { cls := .type "list", data := .seq vs.toArray }) (hi : IntsAre vs ns) (hl : ns.length ≤ 100000) (hr : Room k callerA)
    (F : ∀ base : Heap, K.In base → base.Ns mainGlobals mg → FnG P w K mg base k fa fd [x] (Slaw K)) (hbind : ∀ (s : Shared) (u : Value), BindsTo s fd ⟨[u], []⟩ [(x, u)]) :
    codeAny (model P w) callerA (.call (.ref fa) ⟨[.ref a], []⟩) (fun r s' => r = .ok (.ret (.bool true)) ∧ OldK s.heap s'.heap ∧ s'.os = s.os ∧ AllBare s'.gens) s := by
  have rv := vals_ints hi
  have hv := hi.length
  have hsz : ns.length ≤ sizeLine := szl hl
  have gone : ∀ {b : Addr} {o : Obj}, s.heap.get? b = some o → scrH K a { cls := .type "list", data := .seq vs.toArray } ns b = none → (hidT s.heap (scrH K a { cls := .type "list", data := .seq vs.toArray } ns)).get? b = some o := fun e n => hidT_get e n
  have dicts : ∀ {b : Addr} {m : Str → Option Value}, s.heap.Ns b m → (hidT s.heap (scrH K a { cls := .type "list", data := .seq vs.toArray } ns)).Ns b m := by
    rintro b m ⟨o, es, ep, e, d, r⟩
    refine ⟨o, es, ep, gone e ?_, d, r⟩
    cases q : scrH K a { cls := .type "list", data := .seq vs.toArray } ns b with
    | none => rfl
    | some u =>
      obtain ⟨rfl, _, _⟩ := scrH_some q
      rw [ho] at e
      cases e
      cases d
  have own : K.In (hidT s.heap (scrH K a { cls := .type "list", data := .seq vs.toArray } ns)) := fun b o e => gone (inK b o e) (by
    cases q : scrH K a { cls := .type "list", data := .seq vs.toArray } ns b with
    | none => rfl
    | some u =>
      obtain ⟨rfl, n, _⟩ := scrH_some q
      rw [n] at e
      cases e)
  have env : Env0 P w K mg (hidT s.heap (scrH K a { cls := .type "list", data := .seq vs.toArray } ns)) callerA [] s (scrH K a { cls := .type "list", data := .seq vs.toArray } ns) := by
    refine ⟨rfl, ⟨own, dicts hg, ⟨mb, dicts hb, hbb⟩, ?_⟩, fun b o e => of_hidT e, Nat.le_of_eq (hidT_size _ _), trivial, fun b q => ?_, fun b u q => ?_, .of_eq hgen⟩
    · obtain ⟨mc, h1, h2⟩ := hlim
      exact ⟨mc, dicts h1, h2⟩
    · exact absurd (show b ∈ ([] : List Addr) from q) (by simp)
    · obtain ⟨rfl, _, rfl⟩ := scrH_some q
      exact ⟨ho, by rw [List.length_map]; exact hsz, vs, _, rv, ho⟩
  have script : SqL K (scrH K a { cls := .type "list", data := .seq vs.toArray } ns) a (ns.map V.int) := by
    cases q : K.lookup a with
    | none => exact .inl (.inr ⟨_, if_pos ⟨rfl, q⟩⟩)
    | some o =>
      have e := inK a o q
      rw [ho] at e
      cases e
      exact .inr ⟨_, vs.toArray, _, q, rfl, rfl, rfl, by rw [List.size_toArray, hv]; exact hsz, by simpa using rv⟩
  refine codeAny_mono ((F _ own (dicts hg)).run callerA [] s _ ⟨[.ref a], []⟩ [.ref a] [.ref a] (fun v _ => v = .bl true) hr rfl env (hbind s (.ref a)) (.cons rfl .nil) ⟨a, ns, rfl, script, hl, fun _ => rfl⟩) fun r s' h => ?_
  cases r with
  | error e => exact False.elim h
  | ok fl =>
    cases fl with
    | next => exact False.elim h
    | brk => exact False.elim h
    | cont => exact False.elim h
    | ret u =>
      obtain ⟨v, H', os, bare, un, hok, ru, q⟩ := h
      have q : v = .bl true := q
      subst q
      have ru : u = .bool true := ru
      subst ru
      refine ⟨rfl, OldK.of_keep fun b o e => ?_, os, bare⟩
      cases q : scrH K a { cls := .type "list", data := .seq vs.toArray } ns b with
      | none => exact un.keep b o e q (fun z => absurd (show b ∈ ([] : List Addr) from z) (by simp)) (by simp)
      | some t =>
        obtain ⟨rfl, _, rfl⟩ := scrH_some q
        rw [ho] at e
        cases e
        exact (hok _ _ (un.frzs _ _ _ q)).1
theorem walk_ofG {l : PySem.W.OpenLaw} {n k : Nat} {q : Program} {loose : List Str} {XP : (Str → Option Value) → Heap → Prop} {YP : World → Heap → Prop} {d : DefRec} {K : Params → PySem.W.Frag} {x : Str}
    (hn : l.most = some n) (hn2 : n ≤ 100000) (hdf : d.params.defaults = []) (hr : Room k callerA) (hY : ∀ (w : World) (h : Heap), YP w h → (K w.params).In h)
    (F : ∀ (w : World) (mg : Str → Option Value) (fa : Addr) (h : Heap), (K w.params).In h → h.Ns mainGlobals mg → mg d.name = some (.ref fa) →
      ∃ fd : FuncData, (∀ (s : Shared) (u : Value), BindsTo s fd ⟨[u], []⟩ [(x, u)]) ∧ ∀ base : Heap, (K w.params).In base → base.Ns mainGlobals mg → FnG l.prog w (K w.params) mg base k fa fd [x] (Slaw (K w.params))) :
    PySem.W.WalkO q loose XP YP l.row.toRowW d [] (fun f vs => PySem.call f vs) :=
  Att.attach_call hn hdf fun w s₀ s₁ mg mb fa o pm cd doc a vs ns G Y ho hd hcd hmg hobj hints hlen hg => by
    have inK := hY w _ Y
    obtain ⟨fd, hb, hF⟩ := F w mg fa _ inK G.T.g hmg
    exact law_callG inK G.T.g G.T.b G.T.builtins G.T.nolimit hg hobj hints (Nat.le_trans hlen hn2) hr hF hb
/-- a def of the text -/
def fnd_mk {K : PySem.W.Frag} {h : Heap} {mg : Str → Option Value} {x : Str} {st : Stmt} {ps : List Str} {f : Addr} {oc : Value} {od an : Option Addr} {osl : Array (Option Value)} {kV doc pm cdv ct : Value} (X : K.In h) (G : h.Ns mainGlobals mg)
    (a : PySem.W.nsIn K mainGlobals x = some (some (.ref f))) (l : K.lookup f = some ⟨oc, od, .func (PySem.W.fnOf x x (defArgs st) (defBody st) (defScope st) .none kV doc pm an cdv ct), osl⟩) (c : PySem.W.codeIn K cdv x = true) (k : PySem.W.keepIn K (.ref f) = true)
    (b : ∀ (kV doc pm : Value) (an : Option Addr) (cdv ct : Value) (us : List Value), us.length = ps.length → bindArgs (PySem.W.fnOf x x (defArgs st) (defBody st) (defScope st) .none kV doc pm an cdv ct) ⟨us, []⟩ = pure (ps.zip us)) : Fnd K mg x st ps :=
  ⟨f, _, fun_mk l c k, (fun_mk l c k).binds b, PySem.W.mg_of X G a⟩
end Ng

set_option Elab.async false
set_option linter.all false
set_option maxRecDepth 100000
set_option maxHeartbeats 8000000
/-! What the top has left. Printed by gen2.py. -/
namespace Ng
open PySem PySem.Spec PyProof.Rows L2
theorem all_mk {l : PySem.W.OpenLaw} {w : World} {K : PySem.W.Frag} {h : Heap} {mg : Str → Option Value} {fa ka : Addr} (X : K.In h) (G : h.Ns mainGlobals mg) (hfa : mg "law" = some (.ref fa))
    {f1 f2 f3 f4 f5 f6 f7 f8 f9 f10 f11 f12 f13 f14 f15 f16 f17 f18 f19 f20 f21 f22 f23 f24 f25 f26 f27 f28 f29 f30 f31 f32 f33 f34 f35 f36 f37 f38 f39 f40 : Addr} {od1 an1 od2 an2 od3 an3 od4 an4 od5 an5 od6 an6 od7 an7 od8 an8 od9 an9 od10 an10 od11 an11 od12 an12 od13 an13 od14 an14 od15 an15 od16 an16 od17 an17 od18 an18 od19 an19 od20 an20 od21 an21 od22 an22 od23 an23 od24 an24 od25 an25 od26 an26 od27 an27 od28 an28 od29 an29 od30 an30 od31 an31 od32 an32 od33 an33 od34 an34 od35 an35 od36 an36 od37 an37 od38 an38 od39 an39 od40 an40 : Option Addr} {sl1 sl2 sl3 sl4 sl5 sl6 sl7 sl8 sl9 sl10 sl11 sl12 sl13 sl14 sl15 sl16 sl17 sl18 sl19 sl20 sl21 sl22 sl23 sl24 sl25 sl26 sl27 sl28 sl29 sl30 sl31 sl32 sl33 sl34 sl35 sl36 sl37 sl38 sl39 sl40 : Array (Option Value)}
    {oc1 kV1 dc1 pm1 cd1 ct1 oc2 kV2 dc2 pm2 cd2 ct2 oc3 kV3 dc3 pm3 cd3 ct3 oc4 kV4 dc4 pm4 cd4 ct4 oc5 kV5 dc5 pm5 cd5 ct5 oc6 kV6 dc6 pm6 cd6 ct6 oc7 kV7 dc7 pm7 cd7 ct7 oc8 kV8 dc8 pm8 cd8 ct8 oc9 kV9 dc9 pm9 cd9 ct9 oc10 kV10 dc10 pm10 cd10 ct10 oc11 kV11 dc11 pm11 cd11 ct11 oc12 kV12 dc12 pm12 cd12 ct12 oc13 kV13 dc13 pm13 cd13 ct13 oc14 kV14 dc14 pm14 cd14 ct14 oc15 kV15 dc15 pm15 cd15 ct15 oc16 kV16 dc16 pm16 cd16 ct16 oc17 kV17 dc17 pm17 cd17 ct17 oc18 kV18 dc18 pm18 cd18 ct18 oc19 kV19 dc19 pm19 cd19 ct19 oc20 kV20 dc20 pm20 cd20 ct20 oc21 kV21 dc21 pm21 cd21 ct21 oc22 kV22 dc22 pm22 cd22 ct22 oc23 kV23 dc23 pm23 cd23 ct23 oc24 kV24 dc24 pm24 cd24 ct24 oc25 kV25 dc25 pm25 cd25 ct25 oc26 kV26 dc26 pm26 cd26 ct26 oc27 kV27 dc27 pm27 cd27 ct27 oc28 kV28 dc28 pm28 cd28 ct28 oc29 kV29 dc29 pm29 cd29 ct29 oc30 kV30 dc30 pm30 cd30 ct30 oc31 kV31 dc31 pm31 cd31 ct31 oc32 kV32 dc32 pm32 cd32 ct32 oc33 kV33 dc33 pm33 cd33 ct33 oc34 kV34 dc34 pm34 cd34 ct34 oc35 kV35 dc35 pm35 cd35 ct35 oc36 kV36 dc36 pm36 cd36 ct36 oc37 kV37 dc37 pm37 cd37 ct37 oc38 kV38 dc38 pm38 cd38 ct38 oc39 kV39 dc39 pm39 cd39 ct39 oc40 kV40 dc40 pm40 cd40 ct40 : Value} {ko : Obj} {its : Array Value} {kn : Nat}
    (a1 : PySem.W.nsIn K mainGlobals "differences" = some (some (.ref f1))) (l1 : K.lookup f1 = some ⟨oc1, od1, .func (PySem.W.fnOf "differences" "differences" (defArgs s_differences) (defBody s_differences) (defScope s_differences) .none kV1 dc1 pm1 an1 cd1 ct1), sl1⟩) (c1 : PySem.W.codeIn K cd1 "differences" = true) (k1 : PySem.W.keepIn K (.ref f1) = true)
    (a2 : PySem.W.nsIn K mainGlobals "part_of" = some (some (.ref f2))) (l2 : K.lookup f2 = some ⟨oc2, od2, .func (PySem.W.fnOf "part_of" "part_of" (defArgs s_part_of) (defBody s_part_of) (defScope s_part_of) .none kV2 dc2 pm2 an2 cd2 ct2), sl2⟩) (c2 : PySem.W.codeIn K cd2 "part_of" = true) (k2 : PySem.W.keepIn K (.ref f2) = true)
    (a3 : PySem.W.nsIn K mainGlobals "joined_parts" = some (some (.ref f3))) (l3 : K.lookup f3 = some ⟨oc3, od3, .func (PySem.W.fnOf "joined_parts" "joined_parts" (defArgs s_joined_parts) (defBody s_joined_parts) (defScope s_joined_parts) .none kV3 dc3 pm3 an3 cd3 ct3), sl3⟩) (c3 : PySem.W.codeIn K cd3 "joined_parts" = true) (k3 : PySem.W.keepIn K (.ref f3) = true)
    (a4 : PySem.W.nsIn K mainGlobals "distance" = some (some (.ref f4))) (l4 : K.lookup f4 = some ⟨oc4, od4, .func (PySem.W.fnOf "distance" "distance" (defArgs s_distance) (defBody s_distance) (defScope s_distance) .none kV4 dc4 pm4 an4 cd4 ct4), sl4⟩) (c4 : PySem.W.codeIn K cd4 "distance" = true) (k4 : PySem.W.keepIn K (.ref f4) = true)
    (a5 : PySem.W.nsIn K mainGlobals "doubled_root" = some (some (.ref f5))) (l5 : K.lookup f5 = some ⟨oc5, od5, .func (PySem.W.fnOf "doubled_root" "doubled_root" (defArgs s_doubled_root) (defBody s_doubled_root) (defScope s_doubled_root) .none kV5 dc5 pm5 an5 cd5 ct5), sl5⟩) (c5 : PySem.W.codeIn K cd5 "doubled_root" = true) (k5 : PySem.W.keepIn K (.ref f5) = true)
    (a6 : PySem.W.nsIn K mainGlobals "gap_of" = some (some (.ref f6))) (l6 : K.lookup f6 = some ⟨oc6, od6, .func (PySem.W.fnOf "gap_of" "gap_of" (defArgs s_gap_of) (defBody s_gap_of) (defScope s_gap_of) .none kV6 dc6 pm6 an6 cd6 ct6), sl6⟩) (c6 : PySem.W.codeIn K cd6 "gap_of" = true) (k6 : PySem.W.keepIn K (.ref f6) = true)
    (a7 : PySem.W.nsIn K mainGlobals "least_beyond" = some (some (.ref f7))) (l7 : K.lookup f7 = some ⟨oc7, od7, .func (PySem.W.fnOf "least_beyond" "least_beyond" (defArgs s_least_beyond) (defBody s_least_beyond) (defScope s_least_beyond) .none kV7 dc7 pm7 an7 cd7 ct7), sl7⟩) (c7 : PySem.W.codeIn K cd7 "least_beyond" = true) (k7 : PySem.W.keepIn K (.ref f7) = true)
    (a8 : PySem.W.nsIn K mainGlobals "most_beyond" = some (some (.ref f8))) (l8 : K.lookup f8 = some ⟨oc8, od8, .func (PySem.W.fnOf "most_beyond" "most_beyond" (defArgs s_most_beyond) (defBody s_most_beyond) (defScope s_most_beyond) .none kV8 dc8 pm8 an8 cd8 ct8), sl8⟩) (c8 : PySem.W.codeIn K cd8 "most_beyond" = true) (k8 : PySem.W.keepIn K (.ref f8) = true)
    (a9 : PySem.W.nsIn K mainGlobals "shell_of" = some (some (.ref f9))) (l9 : K.lookup f9 = some ⟨oc9, od9, .func (PySem.W.fnOf "shell_of" "shell_of" (defArgs s_shell_of) (defBody s_shell_of) (defScope s_shell_of) .none kV9 dc9 pm9 an9 cd9 ct9), sl9⟩) (c9 : PySem.W.codeIn K cd9 "shell_of" = true) (k9 : PySem.W.keepIn K (.ref f9) = true)
    (a10 : PySem.W.nsIn K mainGlobals "holds_vector" = some (some (.ref f10))) (l10 : K.lookup f10 = some ⟨oc10, od10, .func (PySem.W.fnOf "holds_vector" "holds_vector" (defArgs s_holds_vector) (defBody s_holds_vector) (defScope s_holds_vector) .none kV10 dc10 pm10 an10 cd10 ct10), sl10⟩) (c10 : PySem.W.codeIn K cd10 "holds_vector" = true) (k10 : PySem.W.keepIn K (.ref f10) = true)
    (a11 : PySem.W.nsIn K mainGlobals "gap_to" = some (some (.ref f11))) (l11 : K.lookup f11 = some ⟨oc11, od11, .func (PySem.W.fnOf "gap_to" "gap_to" (defArgs s_gap_to) (defBody s_gap_to) (defScope s_gap_to) .none kV11 dc11 pm11 an11 cd11 ct11), sl11⟩) (c11 : PySem.W.codeIn K cd11 "gap_to" = true) (k11 : PySem.W.keepIn K (.ref f11) = true)
    (a12 : PySem.W.nsIn K mainGlobals "room_to" = some (some (.ref f12))) (l12 : K.lookup f12 = some ⟨oc12, od12, .func (PySem.W.fnOf "room_to" "room_to" (defArgs s_room_to) (defBody s_room_to) (defScope s_room_to) .none kV12 dc12 pm12 an12 cd12 ct12), sl12⟩) (c12 : PySem.W.codeIn K cd12 "room_to" = true) (k12 : PySem.W.keepIn K (.ref f12) = true)
    (a13 : PySem.W.nsIn K mainGlobals "floor_of_shell" = some (some (.ref f13))) (l13 : K.lookup f13 = some ⟨oc13, od13, .func (PySem.W.fnOf "floor_of_shell" "floor_of_shell" (defArgs s_floor_of_shell) (defBody s_floor_of_shell) (defScope s_floor_of_shell) .none kV13 dc13 pm13 an13 cd13 ct13), sl13⟩) (c13 : PySem.W.codeIn K cd13 "floor_of_shell" = true) (k13 : PySem.W.keepIn K (.ref f13) = true)
    (a14 : PySem.W.nsIn K mainGlobals "floor_of" = some (some (.ref f14))) (l14 : K.lookup f14 = some ⟨oc14, od14, .func (PySem.W.fnOf "floor_of" "floor_of" (defArgs s_floor_of) (defBody s_floor_of) (defScope s_floor_of) .none kV14 dc14 pm14 an14 cd14 ct14), sl14⟩) (c14 : PySem.W.codeIn K cd14 "floor_of" = true) (k14 : PySem.W.keepIn K (.ref f14) = true)
    (a15 : PySem.W.nsIn K mainGlobals "capped" = some (some (.ref f15))) (l15 : K.lookup f15 = some ⟨oc15, od15, .func (PySem.W.fnOf "capped" "capped" (defArgs s_capped) (defBody s_capped) (defScope s_capped) .none kV15 dc15 pm15 an15 cd15 ct15), sl15⟩) (c15 : PySem.W.codeIn K cd15 "capped" = true) (k15 : PySem.W.keepIn K (.ref f15) = true)
    (a16 : PySem.W.nsIn K mainGlobals "ceiling_of" = some (some (.ref f16))) (l16 : K.lookup f16 = some ⟨oc16, od16, .func (PySem.W.fnOf "ceiling_of" "ceiling_of" (defArgs s_ceiling_of) (defBody s_ceiling_of) (defScope s_ceiling_of) .none kV16 dc16 pm16 an16 cd16 ct16), sl16⟩) (c16 : PySem.W.codeIn K cd16 "ceiling_of" = true) (k16 : PySem.W.keepIn K (.ref f16) = true)
    (a17 : PySem.W.nsIn K mainGlobals "lowered_and_raised" = some (some (.ref f17))) (l17 : K.lookup f17 = some ⟨oc17, od17, .func (PySem.W.fnOf "lowered_and_raised" "lowered_and_raised" (defArgs s_lowered_and_raised) (defBody s_lowered_and_raised) (defScope s_lowered_and_raised) .none kV17 dc17 pm17 an17 cd17 ct17), sl17⟩) (c17 : PySem.W.codeIn K cd17 "lowered_and_raised" = true) (k17 : PySem.W.keepIn K (.ref f17) = true)
    (a18 : PySem.W.nsIn K mainGlobals "side_of" = some (some (.ref f18))) (l18 : K.lookup f18 = some ⟨oc18, od18, .func (PySem.W.fnOf "side_of" "side_of" (defArgs s_side_of) (defBody s_side_of) (defScope s_side_of) .none kV18 dc18 pm18 an18 cd18 ct18), sl18⟩) (c18 : PySem.W.codeIn K cd18 "side_of" = true) (k18 : PySem.W.keepIn K (.ref f18) = true)
    (a19 : PySem.W.nsIn K mainGlobals "box_around" = some (some (.ref f19))) (l19 : K.lookup f19 = some ⟨oc19, od19, .func (PySem.W.fnOf "box_around" "box_around" (defArgs s_box_around) (defBody s_box_around) (defScope s_box_around) .none kV19 dc19 pm19 an19 cd19 ct19), sl19⟩) (c19 : PySem.W.codeIn K cd19 "box_around" = true) (k19 : PySem.W.keepIn K (.ref f19) = true)
    (a20 : PySem.W.nsIn K mainGlobals "is_inside" = some (some (.ref f20))) (l20 : K.lookup f20 = some ⟨oc20, od20, .func (PySem.W.fnOf "is_inside" "is_inside" (defArgs s_is_inside) (defBody s_is_inside) (defScope s_is_inside) .none kV20 dc20 pm20 an20 cd20 ct20), sl20⟩) (c20 : PySem.W.codeIn K cd20 "is_inside" = true) (k20 : PySem.W.keepIn K (.ref f20) = true)
    (a21 : PySem.W.nsIn K mainGlobals "_law_heap" = some (some (.ref f21))) (l21 : K.lookup f21 = some ⟨oc21, od21, .func (PySem.W.fnOf "_law_heap" "_law_heap" (defArgs s_law_heap) (defBody s_law_heap) (defScope s_law_heap) .none kV21 dc21 pm21 an21 cd21 ct21), sl21⟩) (c21 : PySem.W.codeIn K cd21 "_law_heap" = true) (k21 : PySem.W.keepIn K (.ref f21) = true)
    (a22 : PySem.W.nsIn K mainGlobals "_law_draw" = some (some (.ref f22))) (l22 : K.lookup f22 = some ⟨oc22, od22, .func (PySem.W.fnOf "_law_draw" "_law_draw" (defArgs s_law_draw) (defBody s_law_draw) (defScope s_law_draw) .none kV22 dc22 pm22 an22 cd22 ct22), sl22⟩) (c22 : PySem.W.codeIn K cd22 "_law_draw" = true) (k22 : PySem.W.keepIn K (.ref f22) = true)
    (a23 : PySem.W.nsIn K mainGlobals "_law_pick" = some (some (.ref f23))) (l23 : K.lookup f23 = some ⟨oc23, od23, .func (PySem.W.fnOf "_law_pick" "_law_pick" (defArgs s_law_pick) (defBody s_law_pick) (defScope s_law_pick) .none kV23 dc23 pm23 an23 cd23 ct23), sl23⟩) (c23 : PySem.W.codeIn K cd23 "_law_pick" = true) (k23 : PySem.W.keepIn K (.ref f23) = true)
    (a24 : PySem.W.nsIn K mainGlobals "_law_part" = some (some (.ref f24))) (l24 : K.lookup f24 = some ⟨oc24, od24, .func (PySem.W.fnOf "_law_part" "_law_part" (defArgs s_law_part) (defBody s_law_part) (defScope s_law_part) .none kV24 dc24 pm24 an24 cd24 ct24), sl24⟩) (c24 : PySem.W.codeIn K cd24 "_law_part" = true) (k24 : PySem.W.keepIn K (.ref f24) = true)
    (a25 : PySem.W.nsIn K mainGlobals "_law_distance" = some (some (.ref f25))) (l25 : K.lookup f25 = some ⟨oc25, od25, .func (PySem.W.fnOf "_law_distance" "_law_distance" (defArgs s_law_distance) (defBody s_law_distance) (defScope s_law_distance) .none kV25 dc25 pm25 an25 cd25 ct25), sl25⟩) (c25 : PySem.W.codeIn K cd25 "_law_distance" = true) (k25 : PySem.W.keepIn K (.ref f25) = true)
    (a26 : PySem.W.nsIn K mainGlobals "_law_root" = some (some (.ref f26))) (l26 : K.lookup f26 = some ⟨oc26, od26, .func (PySem.W.fnOf "_law_root" "_law_root" (defArgs s_law_root) (defBody s_law_root) (defScope s_law_root) .none kV26 dc26 pm26 an26 cd26 ct26), sl26⟩) (c26 : PySem.W.codeIn K cd26 "_law_root" = true) (k26 : PySem.W.keepIn K (.ref f26) = true)
    (a27 : PySem.W.nsIn K mainGlobals "_law_gap" = some (some (.ref f27))) (l27 : K.lookup f27 = some ⟨oc27, od27, .func (PySem.W.fnOf "_law_gap" "_law_gap" (defArgs s_law_gap) (defBody s_law_gap) (defScope s_law_gap) .none kV27 dc27 pm27 an27 cd27 ct27), sl27⟩) (c27 : PySem.W.codeIn K cd27 "_law_gap" = true) (k27 : PySem.W.keepIn K (.ref f27) = true)
    (a28 : PySem.W.nsIn K mainGlobals "_law_most" = some (some (.ref f28))) (l28 : K.lookup f28 = some ⟨oc28, od28, .func (PySem.W.fnOf "_law_most" "_law_most" (defArgs s_law_most) (defBody s_law_most) (defScope s_law_most) .none kV28 dc28 pm28 an28 cd28 ct28), sl28⟩) (c28 : PySem.W.codeIn K cd28 "_law_most" = true) (k28 : PySem.W.keepIn K (.ref f28) = true)
    (a29 : PySem.W.nsIn K mainGlobals "_law_shell" = some (some (.ref f29))) (l29 : K.lookup f29 = some ⟨oc29, od29, .func (PySem.W.fnOf "_law_shell" "_law_shell" (defArgs s_law_shell) (defBody s_law_shell) (defScope s_law_shell) .none kV29 dc29 pm29 an29 cd29 ct29), sl29⟩) (c29 : PySem.W.codeIn K cd29 "_law_shell" = true) (k29 : PySem.W.keepIn K (.ref f29) = true)
    (a30 : PySem.W.nsIn K mainGlobals "_law_holds" = some (some (.ref f30))) (l30 : K.lookup f30 = some ⟨oc30, od30, .func (PySem.W.fnOf "_law_holds" "_law_holds" (defArgs s_law_holds) (defBody s_law_holds) (defScope s_law_holds) .none kV30 dc30 pm30 an30 cd30 ct30), sl30⟩) (c30 : PySem.W.codeIn K cd30 "_law_holds" = true) (k30 : PySem.W.keepIn K (.ref f30) = true)
    (a31 : PySem.W.nsIn K mainGlobals "_law_region" = some (some (.ref f31))) (l31 : K.lookup f31 = some ⟨oc31, od31, .func (PySem.W.fnOf "_law_region" "_law_region" (defArgs s_law_region) (defBody s_law_region) (defScope s_law_region) .none kV31 dc31 pm31 an31 cd31 ct31), sl31⟩) (c31 : PySem.W.codeIn K cd31 "_law_region" = true) (k31 : PySem.W.keepIn K (.ref f31) = true)
    (a32 : PySem.W.nsIn K mainGlobals "_law_floor" = some (some (.ref f32))) (l32 : K.lookup f32 = some ⟨oc32, od32, .func (PySem.W.fnOf "_law_floor" "_law_floor" (defArgs s_law_floor) (defBody s_law_floor) (defScope s_law_floor) .none kV32 dc32 pm32 an32 cd32 ct32), sl32⟩) (c32 : PySem.W.codeIn K cd32 "_law_floor" = true) (k32 : PySem.W.keepIn K (.ref f32) = true)
    (a33 : PySem.W.nsIn K mainGlobals "_law_ceiling" = some (some (.ref f33))) (l33 : K.lookup f33 = some ⟨oc33, od33, .func (PySem.W.fnOf "_law_ceiling" "_law_ceiling" (defArgs s_law_ceiling) (defBody s_law_ceiling) (defScope s_law_ceiling) .none kV33 dc33 pm33 an33 cd33 ct33), sl33⟩) (c33 : PySem.W.codeIn K cd33 "_law_ceiling" = true) (k33 : PySem.W.keepIn K (.ref f33) = true)
    (a34 : PySem.W.nsIn K mainGlobals "_law_window" = some (some (.ref f34))) (l34 : K.lookup f34 = some ⟨oc34, od34, .func (PySem.W.fnOf "_law_window" "_law_window" (defArgs s_law_window) (defBody s_law_window) (defScope s_law_window) .none kV34 dc34 pm34 an34 cd34 ct34), sl34⟩) (c34 : PySem.W.codeIn K cd34 "_law_window" = true) (k34 : PySem.W.keepIn K (.ref f34) = true)
    (a35 : PySem.W.nsIn K mainGlobals "_law_around_due" = some (some (.ref f35))) (l35 : K.lookup f35 = some ⟨oc35, od35, .func (PySem.W.fnOf "_law_around_due" "_law_around_due" (defArgs s_law_around_due) (defBody s_law_around_due) (defScope s_law_around_due) .none kV35 dc35 pm35 an35 cd35 ct35), sl35⟩) (c35 : PySem.W.codeIn K cd35 "_law_around_due" = true) (k35 : PySem.W.keepIn K (.ref f35) = true)
    (a36 : PySem.W.nsIn K mainGlobals "_law_inside_due" = some (some (.ref f36))) (l36 : K.lookup f36 = some ⟨oc36, od36, .func (PySem.W.fnOf "_law_inside_due" "_law_inside_due" (defArgs s_law_inside_due) (defBody s_law_inside_due) (defScope s_law_inside_due) .none kV36 dc36 pm36 an36 cd36 ct36), sl36⟩) (c36 : PySem.W.codeIn K cd36 "_law_inside_due" = true) (k36 : PySem.W.keepIn K (.ref f36) = true)
    (a37 : PySem.W.nsIn K mainGlobals "_law_inside_right" = some (some (.ref f37))) (l37 : K.lookup f37 = some ⟨oc37, od37, .func (PySem.W.fnOf "_law_inside_right" "_law_inside_right" (defArgs s_law_inside_right) (defBody s_law_inside_right) (defScope s_law_inside_right) .none kV37 dc37 pm37 an37 cd37 ct37), sl37⟩) (c37 : PySem.W.codeIn K cd37 "_law_inside_right" = true) (k37 : PySem.W.keepIn K (.ref f37) = true)
    (a38 : PySem.W.nsIn K mainGlobals "_law_around_right" = some (some (.ref f38))) (l38 : K.lookup f38 = some ⟨oc38, od38, .func (PySem.W.fnOf "_law_around_right" "_law_around_right" (defArgs s_law_around_right) (defBody s_law_around_right) (defScope s_law_around_right) .none kV38 dc38 pm38 an38 cd38 ct38), sl38⟩) (c38 : PySem.W.codeIn K cd38 "_law_around_right" = true) (k38 : PySem.W.keepIn K (.ref f38) = true)
    (a39 : PySem.W.nsIn K mainGlobals "_law_outers" = some (some (.ref f39))) (l39 : K.lookup f39 = some ⟨oc39, od39, .func (PySem.W.fnOf "_law_outers" "_law_outers" (defArgs s_law_outers) (defBody s_law_outers) (defScope s_law_outers) .none kV39 dc39 pm39 an39 cd39 ct39), sl39⟩) (c39 : PySem.W.codeIn K cd39 "_law_outers" = true) (k39 : PySem.W.keepIn K (.ref f39) = true)
    (a40 : PySem.W.nsIn K mainGlobals "law" = some (some (.ref f40))) (l40 : K.lookup f40 = some ⟨oc40, od40, .func (PySem.W.fnOf "law" "law" (defArgs s_law) (defBody s_law) (defScope s_law) .none kV40 dc40 pm40 an40 cd40 ct40), sl40⟩) (c40 : PySem.W.codeIn K cd40 "law" = true) (k40 : PySem.W.keepIn K (.ref f40) = true)
    (z_abs : PySem.W.nsIn K mainGlobals "abs" = some none)
    (z_all : PySem.W.nsIn K mainGlobals "all" = some none)
    (z_int : PySem.W.nsIn K mainGlobals "int" = some none)
    (z_len : PySem.W.nsIn K mainGlobals "len" = some none)
    (z_max : PySem.W.nsIn K mainGlobals "max" = some none)
    (z_min : PySem.W.nsIn K mainGlobals "min" = some none)
    (z_range : PySem.W.nsIn K mainGlobals "range" = some none)
    (z_repr : PySem.W.nsIn K mainGlobals "repr" = some none)
    (z_sum : PySem.W.nsIn K mainGlobals "sum" = some none)
    (z_tuple : PySem.W.nsIn K mainGlobals "tuple" = some none)
    (z_zip : PySem.W.nsIn K mainGlobals "zip" = some none)
    (z_isqrt : PySem.W.nsIn K mainGlobals "isqrt" = some (some (.builtin "math.isqrt"))) (kA : PySem.W.nsIn K mainGlobals "KINDS" = some (some (.ref ka))) (kL : K.lookup ka = some ko) (kC : ko.cls = .type "tuple") (kD : ko.data = .seq its kn) (kZ : its.size ≤ 100) (kV : Vals (kinds.map fun k => V.str k.s) its.toList) :
    ∃ fd : FuncData, (∀ (s : Shared) (v : Value), BindsTo s fd ⟨[v], []⟩ [("_law_script", v)]) ∧ ∀ base : Heap, K.In base → base.Ns mainGlobals mg → FnG l.prog w K mg base 9 fa fd ["_law_script"] (Slaw K) := by
  have e := hfa.symm.trans (PySem.W.mg_of X G a40)
  cases e
  have T : Txt K mg := {
    t_differences := fnd_mk X G a1 l1 c1 k1 fun _ _ _ _ _ _ us hl => match us, hl with | [_, _], _ => rfl
    t_part_of := fnd_mk X G a2 l2 c2 k2 fun _ _ _ _ _ _ us hl => match us, hl with | [_, _], _ => rfl
    t_joined_parts := fnd_mk X G a3 l3 c3 k3 fun _ _ _ _ _ _ us hl => match us, hl with | [_, _], _ => rfl
    t_distance := fnd_mk X G a4 l4 c4 k4 fun _ _ _ _ _ _ us hl => match us, hl with | [_, _, _], _ => rfl
    t_doubled_root := fnd_mk X G a5 l5 c5 k5 fun _ _ _ _ _ _ us hl => match us, hl with | [_, _], _ => rfl
    t_gap_of := fnd_mk X G a6 l6 c6 k6 fun _ _ _ _ _ _ us hl => match us, hl with | [_, _, _], _ => rfl
    t_least_beyond := fnd_mk X G a7 l7 c7 k7 fun _ _ _ _ _ _ us hl => match us, hl with | [_, _, _], _ => rfl
    t_most_beyond := fnd_mk X G a8 l8 c8 k8 fun _ _ _ _ _ _ us hl => match us, hl with | [_, _, _], _ => rfl
    t_shell_of := fnd_mk X G a9 l9 c9 k9 fun _ _ _ _ _ _ us hl => match us, hl with | [_], _ => rfl
    t_holds_vector := fnd_mk X G a10 l10 c10 k10 fun _ _ _ _ _ _ us hl => match us, hl with | [_, _, _], _ => rfl
    t_gap_to := fnd_mk X G a11 l11 c11 k11 fun _ _ _ _ _ _ us hl => match us, hl with | [_, _, _], _ => rfl
    t_room_to := fnd_mk X G a12 l12 c12 k12 fun _ _ _ _ _ _ us hl => match us, hl with | [_, _, _], _ => rfl
    t_floor_of_shell := fnd_mk X G a13 l13 c13 k13 fun _ _ _ _ _ _ us hl => match us, hl with | [_, _, _, _], _ => rfl
    t_floor_of := fnd_mk X G a14 l14 c14 k14 fun _ _ _ _ _ _ us hl => match us, hl with | [_, _, _], _ => rfl
    t_capped := fnd_mk X G a15 l15 c15 k15 fun _ _ _ _ _ _ us hl => match us, hl with | [_, _, _], _ => rfl
    t_ceiling_of := fnd_mk X G a16 l16 c16 k16 fun _ _ _ _ _ _ us hl => match us, hl with | [_, _, _], _ => rfl
    t_lowered_and_raised := fnd_mk X G a17 l17 c17 k17 fun _ _ _ _ _ _ us hl => match us, hl with | [_, _, _], _ => rfl
    t_side_of := fnd_mk X G a18 l18 c18 k18 fun _ _ _ _ _ _ us hl => match us, hl with | [_, _], _ => rfl
    t_box_around := fnd_mk X G a19 l19 c19 k19 fun _ _ _ _ _ _ us hl => match us, hl with | [_, _], _ => rfl
    t_is_inside := fnd_mk X G a20 l20 c20 k20 fun _ _ _ _ _ _ us hl => match us, hl with | [_, _, _], _ => rfl
    t_law_heap := fnd_mk X G a21 l21 c21 k21 fun _ _ _ _ _ _ us hl => match us, hl with | [_], _ => rfl
    t_law_draw := fnd_mk X G a22 l22 c22 k22 fun _ _ _ _ _ _ us hl => match us, hl with | [_, _], _ => rfl
    t_law_pick := fnd_mk X G a23 l23 c23 k23 fun _ _ _ _ _ _ us hl => match us, hl with | [_, _], _ => rfl
    t_law_part := fnd_mk X G a24 l24 c24 k24 fun _ _ _ _ _ _ us hl => match us, hl with | [_, _, _], _ => rfl
    t_law_distance := fnd_mk X G a25 l25 c25 k25 fun _ _ _ _ _ _ us hl => match us, hl with | [_, _, _], _ => rfl
    t_law_root := fnd_mk X G a26 l26 c26 k26 fun _ _ _ _ _ _ us hl => match us, hl with | [_], _ => rfl
    t_law_gap := fnd_mk X G a27 l27 c27 k27 fun _ _ _ _ _ _ us hl => match us, hl with | [_, _, _], _ => rfl
    t_law_most := fnd_mk X G a28 l28 c28 k28 fun _ _ _ _ _ _ us hl => match us, hl with | [_, _, _], _ => rfl
    t_law_shell := fnd_mk X G a29 l29 c29 k29 fun _ _ _ _ _ _ us hl => match us, hl with | [_], _ => rfl
    t_law_holds := fnd_mk X G a30 l30 c30 k30 fun _ _ _ _ _ _ us hl => match us, hl with | [_, _, _], _ => rfl
    t_law_region := fnd_mk X G a31 l31 c31 k31 fun _ _ _ _ _ _ us hl => match us, hl with | [_, _, _, _], _ => rfl
    t_law_floor := fnd_mk X G a32 l32 c32 k32 fun _ _ _ _ _ _ us hl => match us, hl with | [_, _, _], _ => rfl
    t_law_ceiling := fnd_mk X G a33 l33 c33 k33 fun _ _ _ _ _ _ us hl => match us, hl with | [_, _, _], _ => rfl
    t_law_window := fnd_mk X G a34 l34 c34 k34 fun _ _ _ _ _ _ us hl => match us, hl with | [_, _], _ => rfl
    t_law_around_due := fnd_mk X G a35 l35 c35 k35 fun _ _ _ _ _ _ us hl => match us, hl with | [_, _], _ => rfl
    t_law_inside_due := fnd_mk X G a36 l36 c36 k36 fun _ _ _ _ _ _ us hl => match us, hl with | [_, _, _], _ => rfl
    t_law_inside_right := fnd_mk X G a37 l37 c37 k37 fun _ _ _ _ _ _ us hl => match us, hl with | [_, _, _], _ => rfl
    t_law_around_right := fnd_mk X G a38 l38 c38 k38 fun _ _ _ _ _ _ us hl => match us, hl with | [_, _], _ => rfl
    t_law_outers := fnd_mk X G a39 l39 c39 k39 fun _ _ _ _ _ _ us hl => match us, hl with | [_, _, _, _], _ => rfl
    b_abs := PySem.W.mg_none_of X G z_abs
    b_all := PySem.W.mg_none_of X G z_all
    b_int := PySem.W.mg_none_of X G z_int
    b_len := PySem.W.mg_none_of X G z_len
    b_max := PySem.W.mg_none_of X G z_max
    b_min := PySem.W.mg_none_of X G z_min
    b_range := PySem.W.mg_none_of X G z_range
    b_repr := PySem.W.mg_none_of X G z_repr
    b_sum := PySem.W.mg_none_of X G z_sum
    b_tuple := PySem.W.mg_none_of X G z_tuple
    b_zip := PySem.W.mg_none_of X G z_zip
    isqrt := PySem.W.mg_of X G z_isqrt }
  have Kn : Knd K mg := ⟨ka, PySem.W.mg_of X G kA, ⟨ko, its, kn, kL, kC, kD, Nat.le_trans kZ (by decide), kV⟩⟩
  exact ⟨_, fun s v => .of_eq rfl, fun base _ _ => ok_law T Kn (fun_mk l40 c40 k40)⟩
end Ng

set_option Elab.async false
set_option linter.all false
set_option maxRecDepth 100000
open PySem PySem.W PyProof.Rows
set_option maxHeartbeats 0 in
theorem PySem.Challenge.cw_nonearer_k23_whole_regions_in_regions_holds : PySem.Challenge.rw_nonearer_k23_whole_regions_in_regions.Holds := by
  w_on; o_law; k_head; (case hw => w_witness2)
  k_fill
  refine Ng.walk_ofG (l := PySem.Challenge.rw_nonearer_k23_whole_regions_in_regions) (n := 63) (k := 9) (x := "_law_script") rfl (by decide) rfl ⟨rfl, by decide, by decide⟩ (fun w h Y => PySem.W.kIn_of Y) ?F
  case F =>
    intro w mg fa h KX G hmg
    refine' Ng.all_mk KX G hmg ?a1 ?l1 ?c1 ?k1 ?a2 ?l2 ?c2 ?k2 ?a3 ?l3 ?c3 ?k3 ?a4 ?l4 ?c4 ?k4 ?a5 ?l5 ?c5 ?k5 ?a6 ?l6 ?c6 ?k6 ?a7 ?l7 ?c7 ?k7 ?a8 ?l8 ?c8 ?k8 ?a9 ?l9 ?c9 ?k9 ?a10 ?l10 ?c10 ?k10 ?a11 ?l11 ?c11 ?k11 ?a12 ?l12 ?c12 ?k12 ?a13 ?l13 ?c13 ?k13 ?a14 ?l14 ?c14 ?k14 ?a15 ?l15 ?c15 ?k15 ?a16 ?l16 ?c16 ?k16 ?a17 ?l17 ?c17 ?k17 ?a18 ?l18 ?c18 ?k18 ?a19 ?l19 ?c19 ?k19 ?a20 ?l20 ?c20 ?k20 ?a21 ?l21 ?c21 ?k21 ?a22 ?l22 ?c22 ?k22 ?a23 ?l23 ?c23 ?k23 ?a24 ?l24 ?c24 ?k24 ?a25 ?l25 ?c25 ?k25 ?a26 ?l26 ?c26 ?k26 ?a27 ?l27 ?c27 ?k27 ?a28 ?l28 ?c28 ?k28 ?a29 ?l29 ?c29 ?k29 ?a30 ?l30 ?c30 ?k30 ?a31 ?l31 ?c31 ?k31 ?a32 ?l32 ?c32 ?k32 ?a33 ?l33 ?c33 ?k33 ?a34 ?l34 ?c34 ?k34 ?a35 ?l35 ?c35 ?k35 ?a36 ?l36 ?c36 ?k36 ?a37 ?l37 ?c37 ?k37 ?a38 ?l38 ?c38 ?k38 ?a39 ?l39 ?c39 ?k39 ?a40 ?l40 ?c40 ?k40 ?z_abs ?z_all ?z_int ?z_len ?z_max ?z_min ?z_range ?z_repr ?z_sum ?z_tuple ?z_zip ?z_isqrt ?kA ?kL ?kC ?kD ?kZ ?kV
    (case a1 => k_is)
    (case l1 => k_is)
    (case c1 => k_is)
    (case k1 => k_is)
    (case a2 => k_is)
    (case l2 => k_is)
    (case c2 => k_is)
    (case k2 => k_is)
    (case a3 => k_is)
    (case l3 => k_is)
    (case c3 => k_is)
    (case k3 => k_is)
    (case a4 => k_is)
    (case l4 => k_is)
    (case c4 => k_is)
    (case k4 => k_is)
    (case a5 => k_is)
    (case l5 => k_is)
    (case c5 => k_is)
    (case k5 => k_is)
    (case a6 => k_is)
    (case l6 => k_is)
    (case c6 => k_is)
    (case k6 => k_is)
    (case a7 => k_is)
    (case l7 => k_is)
    (case c7 => k_is)
    (case k7 => k_is)
    (case a8 => k_is)
    (case l8 => k_is)
    (case c8 => k_is)
    (case k8 => k_is)
    (case a9 => k_is)
    (case l9 => k_is)
    (case c9 => k_is)
    (case k9 => k_is)
    (case a10 => k_is)
    (case l10 => k_is)
    (case c10 => k_is)
    (case k10 => k_is)
    (case a11 => k_is)
    (case l11 => k_is)
    (case c11 => k_is)
    (case k11 => k_is)
    (case a12 => k_is)
    (case l12 => k_is)
    (case c12 => k_is)
    (case k12 => k_is)
    (case a13 => k_is)
    (case l13 => k_is)
    (case c13 => k_is)
    (case k13 => k_is)
    (case a14 => k_is)
    (case l14 => k_is)
    (case c14 => k_is)
    (case k14 => k_is)
    (case a15 => k_is)
    (case l15 => k_is)
    (case c15 => k_is)
    (case k15 => k_is)
    (case a16 => k_is)
    (case l16 => k_is)
    (case c16 => k_is)
    (case k16 => k_is)
    (case a17 => k_is)
    (case l17 => k_is)
    (case c17 => k_is)
    (case k17 => k_is)
    (case a18 => k_is)
    (case l18 => k_is)
    (case c18 => k_is)
    (case k18 => k_is)
    (case a19 => k_is)
    (case l19 => k_is)
    (case c19 => k_is)
    (case k19 => k_is)
    (case a20 => k_is)
    (case l20 => k_is)
    (case c20 => k_is)
    (case k20 => k_is)
    (case a21 => k_is)
    (case l21 => k_is)
    (case c21 => k_is)
    (case k21 => k_is)
    (case a22 => k_is)
    (case l22 => k_is)
    (case c22 => k_is)
    (case k22 => k_is)
    (case a23 => k_is)
    (case l23 => k_is)
    (case c23 => k_is)
    (case k23 => k_is)
    (case a24 => k_is)
    (case l24 => k_is)
    (case c24 => k_is)
    (case k24 => k_is)
    (case a25 => k_is)
    (case l25 => k_is)
    (case c25 => k_is)
    (case k25 => k_is)
    (case a26 => k_is)
    (case l26 => k_is)
    (case c26 => k_is)
    (case k26 => k_is)
    (case a27 => k_is)
    (case l27 => k_is)
    (case c27 => k_is)
    (case k27 => k_is)
    (case a28 => k_is)
    (case l28 => k_is)
    (case c28 => k_is)
    (case k28 => k_is)
    (case a29 => k_is)
    (case l29 => k_is)
    (case c29 => k_is)
    (case k29 => k_is)
    (case a30 => k_is)
    (case l30 => k_is)
    (case c30 => k_is)
    (case k30 => k_is)
    (case a31 => k_is)
    (case l31 => k_is)
    (case c31 => k_is)
    (case k31 => k_is)
    (case a32 => k_is)
    (case l32 => k_is)
    (case c32 => k_is)
    (case k32 => k_is)
    (case a33 => k_is)
    (case l33 => k_is)
    (case c33 => k_is)
    (case k33 => k_is)
    (case a34 => k_is)
    (case l34 => k_is)
    (case c34 => k_is)
    (case k34 => k_is)
    (case a35 => k_is)
    (case l35 => k_is)
    (case c35 => k_is)
    (case k35 => k_is)
    (case a36 => k_is)
    (case l36 => k_is)
    (case c36 => k_is)
    (case k36 => k_is)
    (case a37 => k_is)
    (case l37 => k_is)
    (case c37 => k_is)
    (case k37 => k_is)
    (case a38 => k_is)
    (case l38 => k_is)
    (case c38 => k_is)
    (case k38 => k_is)
    (case a39 => k_is)
    (case l39 => k_is)
    (case c39 => k_is)
    (case k39 => k_is)
    (case a40 => k_is)
    (case l40 => k_is)
    (case c40 => k_is)
    (case k40 => k_is)
    (case z_abs => k_is)
    (case z_all => k_is)
    (case z_int => k_is)
    (case z_len => k_is)
    (case z_max => k_is)
    (case z_min => k_is)
    (case z_range => k_is)
    (case z_repr => k_is)
    (case z_sum => k_is)
    (case z_tuple => k_is)
    (case z_zip => k_is)
    (case z_isqrt => k_is)
    (case kA => k_is)
    (case kL => k_is)
    (case kC => rfl)
    (case kD => rfl)
    (case kZ => decide)
    (case kV => exact .cons ⟨_, rfl⟩ (.cons ⟨_, rfl⟩ (.cons ⟨_, rfl⟩ (.cons ⟨_, rfl⟩ .nil))))
